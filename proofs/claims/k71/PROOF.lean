import PyProof.Rows.All
import Wide.All
import OpenK.AllK
import Wide.FinOn
import HandS.ForMost
import HandS.Walk
import HandS.TupAny
import HandS.Flow
import HandS.Exc
import PyProof.NeData
import HandS.TupMul
import HandS.Strs
import HandS.Style
import HandS.Sort
import HandS.Conv
import HandS.IsInst
import HandS.RaiseMore
import HandS.Comp
import HandS.Zip
import HandS.NoneIn
import HandS.Codes
import HandS.Defaults
import HandS.Ends
import HandS.Small
import HandS.SortInts
import HandS.More
import KE.KTupSum
import HandS.SetFor
import PyProof.Rows.KernelRfl
import KE.KStateDown
import Lean
import HandS.Base
import HandS.Call
import HandS.Words
import HandS.WordsExc
import HandS.Head0
import HandS.Head1
import HandS.Head2
import HandS.HeadEnd
import HandS.HeadHook1
import HandS.HeadHook2
import PySem.Challenge.RW_keptoftwo_k71_whole_shapes_in_order
set_option Elab.async false
set_option linter.all false
set_option linter.all false
set_option maxRecDepth 100000
/-! MP1: a small value language for the programs at hand: values, state, expressions, statements, their meaning. -/
namespace MP
/-- values: lists, dicts by value; und: an unset name; cup: the law's own cup -/
inductive D where
  | und | non | bl (b : Bool) | int (i : Int) | str (s : List Nat)
  | tup (xs : List D) | lst (xs : List D) | dic (t : Bool) (ks vs : List D) | rng (lo hi : Int) | cup | fn (i : Nat) | scr (xs : List Int)
/-- what is raised: the class, its argument -/
structure Exn where
  cls : Nat
  args : List D
abbrev K := Int × Int
inductive Out (α : Type) where
  | ok (a : α) (κ : K)
  | exc (x : Exn) (κ : K)
  | bad
def M (α : Type) := K → Out α
def ret {α : Type} (a : α) : M α := fun κ => .ok a κ
def bad {α : Type} : M α := fun _ => .bad
def bnd {α β : Type} (m : M α) (f : α → M β) : M β := fun κ => match m κ with
  | .ok a κ' => f a κ'
  | .exc x κ' => .exc x κ'
  | .bad => .bad
def opt {α : Type} : Option α → M α
  | some a => ret a
  | none => bad
/-- no exception passes -/
def calm {α : Type} (m : M α) : M α := fun κ => match m κ with
  | .exc _ _ => .bad
  | o => o
inductive Op1 where
  | neg | not | len | tuple | list | int | str | abs | sum | all | any | sorted | sortset | lenset | maxl | minl | dict (t : Bool) | repr
  | range1 | upper | strip | rev | values
inductive Op2 where
  | add | sub | mul | fdiv | mod | pow | lt | le | gt | ge | eq | ne | is | isnot | isin | notin | max2 | min2 | eqset
  | ix | range2 | count | index | join | get1 | split | rfind | starts | slA | slB | dictzip (t : Bool)
inductive Op3 where
  | slC | get2
inductive Ty where
  | tuple | int | bool | str | list
inductive Tg where
  | nm (i : Nat) | t2 (a b : Tg) | t3 (a b c : Tg) | t4 (a b c d : Tg) | t5 (a b c d e : Tg) | t6 (a b c d e f : Tg)
mutual
inductive E where
  | var (i : Nat) | cst (d : D) | glb (d : D)
  | tup (es : Es) | lst (es : Es) | dct (t : Bool) (kvs : Es)
  | op1 (o : Op1) (a : E) | op2 (o : Op2) (a b : E) | op3 (o : Op3) (a b c : E)
  | and (a b : E) | or (a b : E) | ite (c a b : E)
  | cmp2 (o p : Op2) (a b c : E)
  | isi (a : E) (t : Ty)
  | call (f : Nat) (es : Es)
  | callv (f : E) (es : Es)
  | comp (own : List Nat) (g : Gs)
  | dcomp (t : Bool) (own : List Nat) (g : Gs)
inductive Es where
  | nil | cons (e : E) (es : Es)
/-- clauses of a comprehension; its end: an element, or a pair -/
inductive Gs where
  | fin (e : E) | fin2 (k v : E) | cons (t : Tg) (it : It) (ifs : Es) (g : Gs)
inductive It where
  | e (a : E) | enum (a : E) | zip (a b : E)
end
/-! ### values -/
def line : Nat := 16777216
def truth : D → Option Bool
  | .non => some false
  | .bl b => some b
  | .int i => some (i != 0)
  | .str s => if s.length ≤ line then some (!s.isEmpty) else none
  | .tup xs => some (!xs.isEmpty)
  | .lst xs => some (!xs.isEmpty)
  | .dic false ks _ => some (!ks.isEmpty)
  | _ => none
def b2i (b : Bool) : Int := if b then 1 else 0
def sized (xs : List D) : Option (List D) := if xs.length ≤ line then some xs else none
/-- ==, with n for the depth -/
def eqs (f : D → D → Option Bool) : List D → List D → Option Bool
  | [], [] => some true
  | x :: xs, y :: ys => (f x y).bind fun a => (eqs f xs ys).bind fun b => some (a && b)
  | _, _ => some false
def eqF : Nat → D → D → Option Bool
  | 0, _, _ => none
  | n + 1, x, y => match x, y with
    | .tup xs, .tup ys => eqs (eqF n) xs ys
    | .lst xs, .lst ys => if xs.length = ys.length then eqs (eqF n) xs ys else some false
    | .non, .non => some true
    | .bl a, .bl b => some (a == b)
    | .bl a, .int j => some (b2i a == j)
    | .int i, .bl b => some (i == b2i b)
    | .int i, .int j => some (i == j)
    | .str s, .str t => some (s == t)
    | .non, .bl _ | .non, .int _ | .non, .str _ | .non, .tup _ | .non, .lst _ => some false
    | .bl _, .non | .bl _, .str _ | .bl _, .tup _ | .bl _, .lst _ => some false
    | .int _, .non | .int _, .str _ | .int _, .tup _ | .int _, .lst _ => some false
    | .str _, .non | .str _, .bl _ | .str _, .int _ | .str _, .tup _ | .str _, .lst _ => some false
    | .tup _, .non | .tup _, .bl _ | .tup _, .int _ | .tup _, .str _ | .tup _, .lst _ => some false
    | .lst _, .non | .lst _, .bl _ | .lst _, .int _ | .lst _, .str _ | .lst _, .tup _ => some false
    | _, _ => none
def eqD (x y : D) : Option Bool := eqF 64 x y
/-- < of data alike: intL, bools, texts, tuples of these -/
def ltN : List Nat → List Nat → Bool
  | [], [] => false
  | [], _ :: _ => true
  | _ :: _, [] => false
  | x :: xs, y :: ys => if x = y then ltN xs ys else decide (x < y)
/-- some (some true): less; some (some false): equal; some none: greater (three ways, for data alike) -/
def cmps (f : D → D → Option Ordering) : List D → List D → Option Ordering
  | [], [] => some .eq
  | [], _ :: _ => some .lt
  | _ :: _, [] => some .gt
  | x :: xs, y :: ys => (f x y).bind fun
    | .eq => cmps f xs ys
    | o => some o
def cmpI (i j : Int) : Ordering := if i < j then .lt else if i = j then .eq else .gt
def cmpF : Nat → D → D → Option Ordering
  | 0, _, _ => none
  | n + 1, x, y => match x, y with
    | .int i, .int j => some (cmpI i j)
    | .bl a, .bl b => some (cmpI (b2i a) (b2i b))
    | .str s, .str t => some (if ltN s t then .lt else if s = t then .eq else .gt)
    | .tup xs, .tup ys => cmps (cmpF n) xs ys
    | _, _ => none
def ltD (x y : D) : Option Bool := (cmpF 64 x y).map (· == .lt)
/-- sorting by insertion, stable: an item goes behind those not greater than it -/
def insD (x : D) : List D → Option (List D)
  | [] => some [x]
  | y :: ys => (ltD x y).bind fun b => if b then some (x :: y :: ys) else (insD x ys).map (y :: ·)
def sortAcc : List D → List D → Option (List D)
  | [], acc => some acc
  | x :: xs, acc => (insD x acc).bind (sortAcc xs)
def sortD (xs : List D) : Option (List D) := sortAcc xs []
/-- in, count, index by == -/
def eqAll (x : D) : List D → Option (List Bool)
  | [] => some []
  | y :: ys => (eqD y x).bind fun a => (eqAll x ys).map fun bs => a :: bs
def firstT : List Bool → Option Nat
  | [] => none
  | true :: _ => some 0
  | false :: r => (firstT r).map (· + 1)
def memD (x : D) (ys : List D) : Option Bool := (eqAll x ys).map fun bs => bs.any id
def countD (x : D) (ys : List D) : Option Nat := (eqAll x ys).map fun bs => bs.countP id
def indexD (x : D) (ys : List D) : Option Nat := (eqAll x ys).bind firstT
/-- keys: intL, texts, tuples of intL and texts -/
def flatKey : D → Bool
  | .int _ => true
  | .str _ => true
  | _ => false
def isKey : D → Bool
  | .int _ => true
  | .str _ => true
  | .tup xs => xs.all flatKey
  | _ => false
def keyEq : D → D → Bool
  | .int i, .int j => i == j
  | .str s, .str t => s == t
  | .tup xs, .tup ys => keyEqs xs ys
  | _, _ => false
where keyEqs : List D → List D → Bool
  | [], [] => true
  | .int i :: xs, .int j :: ys => i == j && keyEqs xs ys
  | .str s :: xs, .str t :: ys => s == t && keyEqs xs ys
  | _, _ => false
/-- the keys of one dict are all flat, or all tuples -/
def isTup : D → Bool
  | .tup _ => true
  | _ => false
def look : List D → List D → D → Option D
  | k :: ks, v :: vs, x => if keyEq k x then some v else look ks vs x
  | _, _, _ => none
def putVs : List D → List D → D → D → List D
  | k :: ks, v :: vs, x, y => (if keyEq k x then y else v) :: putVs ks vs x y
  | _, _, _, _ => []
def put (ks vs : List D) (x y : D) : List D × List D := if ks.any (fun k => keyEq k x) then (ks, putVs ks vs x y) else (ks ++ [x], vs ++ [y])
/-- a key of a dict of tuples (t), of another -/
def keyOf (t : Bool) (x : D) : Bool := isKey x && (isTup x == t)
def putD (t : Bool) (ks vs : List D) (x y : D) : Option (List D × List D) := if keyOf t x && decide (ks.length < line) then some (put ks vs x y) else none
def putAll (t : Bool) : List D → List D → List D → List D → Option (List D × List D)
  | ks, vs, [], _ => some (ks, vs)
  | ks, vs, x :: xs, y :: ys => (putD t ks vs x y).bind fun p => putAll t p.1 p.2 xs ys
  | _, _, _ :: _, [] => none
def mkDic (t : Bool) (p : List D × List D) : Option D := (putAll t [] [] p.1 p.2).map fun q => .dic t q.1 q.2
def pairsOf : List D → Option (List D × List D)
  | [] => some ([], [])
  | .tup [k, v] :: r => (pairsOf r).map fun p => (k :: p.1, v :: p.2)
  | _ => none
/-- key, value, key, value .. -/
def twos : List D → Option (List D × List D)
  | [] => some ([], [])
  | [_] => none
  | k :: v :: r => (twos r).map fun p => (k :: p.1, v :: p.2)
/-- places, slices -/
def place (n : Nat) (i : Int) : Option Nat := if 0 ≤ i then (if i < n then some i.toNat else none) else if -(n : Int) ≤ i then some (i + n).toNat else none
def atD {α : Type} (xs : List α) (i : Int) : Option α := (place xs.length i).bind fun j => xs[j]?
def clip (n : Nat) (i : Int) : Nat := if 0 ≤ i then min i.toNat n else (i + n).toNat
def cutL {α : Type} (xs : List α) (lo hi : Option Int) : List α :=
  let a := match lo with | some i => clip xs.length i | none => 0
  let b := match hi with | some i => clip xs.length i | none => xs.length
  (xs.drop a).take (b - a)
def cutD (d : D) (lo hi : Option Int) : Option D := match d with
  | .tup xs => some (.tup (cutL xs lo hi))
  | .lst xs => some (.lst (cutL xs lo hi))
  | .str s => if s.length ≤ line then some (.str (cutL s lo hi)) else none
  | _ => none
def mulOk (i j : Int) : Bool := (decide (-(2 ^ 64) < i) && decide (i < 2 ^ 64)) || (decide (-(2 ^ 64) < j) && decide (j < 2 ^ 64))
def rangeL (lo hi : Int) : List D := (List.range (hi - lo).toNat).map fun (k : Nat) => .int (lo + k)
def items : D → Option (List D)
  | .tup xs => some xs
  | .lst xs => some xs
  | .rng lo hi => some (rangeL lo hi)
  | .str s => some (s.map fun c => .str [c])
  | .dic _ ks _ => some ks
  | _ => none
def isT : D → Ty → Option Bool
  | .non, _ => some false
  | .bl _, .int => some true
  | .bl _, .bool => some true
  | .bl _, _ => some false
  | .int _, .int => some true
  | .int _, _ => some false
  | .str _, .str => some true
  | .str _, _ => some false
  | .tup _, .tuple => some true
  | .tup _, _ => some false
  | .lst _, .list => some true
  | .lst _, _ => some false
  | _, _ => none
def intL : List D → Option (List Int)
  | [] => some []
  | .int i :: r => (intL r).map (i :: ·)
  | _ => none
def bools : List D → Option (List Bool)
  | [] => some []
  | .bl b :: r => (bools r).map (b :: ·)
  | _ => none
def texts : List D → Option (List (List Nat))
  | [] => some []
  | .str s :: r => (texts r).map (s :: ·)
  | _ => none
/-- each once -/
def dedup : List D → List D → Option (List D)
  | [], acc => some acc
  | x :: xs, acc => (memD x acc).bind fun b => dedup xs (if b then acc else acc ++ [x])
def digits (n : Nat) : List Nat := (toString n).toList.map Char.toNat
def intText (i : Int) : List Nat := if i < 0 then 45 :: digits i.natAbs else digits i.natAbs
def bestD (lt : D → D → Option Bool) : D → List D → Option D
  | m, [] => some m
  | m, x :: xs => (lt x m).bind fun b => bestD lt (if b then x else m) xs
/-! each operation by itself -/
def negD : D → Option D
  | .int i => some (.int (-i))
  | _ => none
def lenD : D → Option D
  | .tup xs => some (.int xs.length)
  | .lst xs => some (.int xs.length)
  | .str s => if s.length ≤ line then some (.int s.length) else none
  | .dic false ks _ => some (.int ks.length)
  | _ => none
def small (lo hi : Int) : Bool := decide (-(2 ^ 62) ≤ lo ∧ lo < 2 ^ 62 ∧ -(2 ^ 62) ≤ hi ∧ hi < 2 ^ 62 ∧ hi - lo ≤ 16777216)
def listD : D → Option D
  | .scr ns => some (.lst (ns.map .int))
  | .lst xs => some (.lst xs)
  | .tup xs => some (.lst xs)
  | .rng lo hi => if small lo hi then some (.lst (rangeL lo hi)) else none
  | .dic false ks _ => some (.lst ks)
  | _ => none
def tupleD : D → Option D
  | .lst xs => some (.tup xs)
  | .tup xs => some (.tup xs)
  | .rng lo hi => if small lo hi then some (.tup (rangeL lo hi)) else none
  | _ => none
def intD : D → Option D
  | .int i => some (.int i)
  | .bl b => some (.int (b2i b))
  | _ => none
def strD : D → Option D
  | .str s => some (.str s)
  | _ => none
def absD : D → Option D
  | .int i => some (.int (if i < 0 then -i else i))
  | _ => none
def lstOf : D → Option (List D)
  | .lst xs => some xs
  | _ => none
def tlOf : D → Option (List D)
  | .lst xs => some xs
  | .tup xs => some xs
  | _ => none
def sumD (d : D) : Option D := (tlOf d).bind fun xs => (intL xs).map fun ns => .int ns.sum
def allD (d : D) : Option D := (lstOf d).bind fun xs => (bools xs).map fun bs => .bl (bs.all id)
def anyD (d : D) : Option D := (lstOf d).bind fun xs => (bools xs).map fun bs => .bl (bs.any id)
def insI (x : Int) : List Int → List Int
  | [] => [x]
  | y :: ys => if x ≤ y then x :: y :: ys else y :: insI x ys
def isort (ns : List Int) : List Int := ns.foldr insI []
def sortedD : D → Option D
  | .lst xs => (intL xs).map fun ns => .lst ((isort ns).map .int)
  | .dic false ks _ => if ks.length < 64 then (intL ks).map fun ns => .lst ((isort ns).map .int) else none
  | _ => none
def sortsetD (d : D) : Option D := (tlOf d).bind fun xs => (dedup xs []).bind fun ys => (sortD ys).map .lst
def lensetD (d : D) : Option D := (tlOf d).bind fun xs => (dedup xs []).map fun ys => .int ys.length
def maxI : List Int → Option Int
  | [] => none
  | n :: ns => some (ns.foldl max n)
def minI : List Int → Option Int
  | [] => none
  | n :: ns => some (ns.foldl min n)
def maxlD (d : D) : Option D := (lstOf d).bind fun xs => (intL xs).bind fun ns => (maxI ns).map .int
def minlD (d : D) : Option D := (lstOf d).bind fun xs => (intL xs).bind fun ns => (minI ns).map .int
def dictD (t : Bool) (d : D) : Option D := (lstOf d).bind fun xs => (pairsOf xs).bind (mkDic t)
def range1D : D → Option D
  | .int n => if -(2 ^ 62) ≤ n ∧ n < 2 ^ 62 then some (.rng 0 n) else none
  | _ => none
def revD : D → Option D
  | .tup xs => some (.tup xs.reverse)
  | .lst xs => some (.lst xs.reverse)
  | _ => none
def valuesD : D → Option D
  | .dic _ _ vs => some (.lst vs)
  | _ => none
def op1 : Op1 → D → Option D
  | .neg => negD
  | .not => fun d => (truth d).map fun b => .bl (!b)
  | .len => lenD
  | .tuple => tupleD
  | .list => listD
  | .int => intD
  | .str => strD
  | .abs => absD
  | .sum => sumD
  | .all => allD
  | .any => anyD
  | .sorted => sortedD
  | .sortset => sortsetD
  | .lenset => lensetD
  | .maxl => maxlD
  | .minl => minlD
  | .dict t => dictD t
  | .range1 => range1D
  | .rev => revD
  | .values => valuesD
  | .repr => fun _ => none
  | .upper => fun _ => none
  | .strip => fun _ => none
def isB : D → D → Option Bool
  | .bl a, .bl b => some (a == b)
  | .non, .non => some true
  | .und, _ => none
  | _, .und => none
  | _, .non => some false
  | _, .bl _ => some false
  | _, _ => none
def inStr : D → List Nat → Option Bool
  | .str [c], s => some (s.contains c)
  | _, _ => none
def inD (x : D) : D → Option Bool
  | .tup ys => memD x ys
  | .lst ys => memD x ys
  | .dic t ks vs => if keyOf t x then some (look ks vs x).isSome else none
  | .str s => inStr x s
  | _ => none
def addD : D → D → Option D
  | .int i, .int j => some (.int (i + j))
  | .str s, .str t => if s.length + t.length ≤ line then some (.str (s ++ t)) else none
  | .tup xs, .tup ys => if xs.length + ys.length ≤ line then some (.tup (xs ++ ys)) else none
  | .lst xs, .lst ys => if xs.length + ys.length ≤ line then some (.lst (xs ++ ys)) else none
  | _, _ => none
def subD : D → D → Option D
  | .int i, .int j => some (.int (i - j))
  | _, _ => none
def mulD : D → D → Option D
  | .int i, .int j => if mulOk i j then some (.int (i * j)) else none
  | .lst xs, .int k => if -(2 ^ 63) ≤ k ∧ k < 2 ^ 63 ∧ xs.length * k.toNat ≤ line then some (.lst (List.replicate k.toNat xs).flatten) else none
  | .tup xs, .int k => if 0 < xs.length ∧ 1 ≤ k ∧ k ≤ 1000 ∧ xs.length ≤ 1000 then some (.tup (List.replicate k.toNat xs).flatten) else none
  | _, _ => none
def fdivD : D → D → Option D
  | .int i, .int j => if 0 < j ∧ j < 1073741824 then some (.int (i / j)) else none
  | _, _ => none
def modD : D → D → Option D
  | .int i, .int j => if 0 < j then some (.int (i % j)) else none
  | _, _ => none
def powD : D → D → Option D
  | .int i, .int j => if 0 ≤ j ∧ j ≤ 1000000 ∧ i.natAbs < 2 ^ 64 then some (.int (i ^ j.toNat)) else none
  | _, _ => none
def leD : D → D → Option D
  | .int i, .int j => some (.bl (decide (i ≤ j)))
  | _, _ => none
def gtD : D → D → Option D
  | .int i, .int j => some (.bl (decide (j < i)))
  | _, _ => none
def geD : D → D → Option D
  | .int i, .int j => some (.bl (decide (j ≤ i)))
  | _, _ => none
def max2D : D → D → Option D
  | .int i, .int j => some (.int (if j > i then j else i))
  | _, _ => none
def min2D : D → D → Option D
  | .int i, .int j => some (.int (if j < i then j else i))
  | _, _ => none
def eqsub (us : List D) : List D → Option Bool
  | [] => some true
  | w :: ws => (memD w us).bind fun a => (eqsub us ws).bind fun b => some (a && b)
def eqsetD (x y : D) : Option D := (tlOf x).bind fun xs => (tlOf y).bind fun ys => (dedup xs []).bind fun us => (dedup ys []).bind fun ws =>
      if us.length = ws.length then (eqsub us ws).map .bl else some (.bl false)
def ixD : D → D → Option D
  | .tup xs, .int i => atD xs i
  | .lst xs, .int i => atD xs i
  | .str s, .int i => if s.length ≤ line then (atD s i).map fun c => .str [c] else none
  | .dic t ks vs, x => if keyOf t x then look ks vs x else none
  | _, _ => none
def range2D : D → D → Option D
  | .int i, .int j => if -(2 ^ 62) ≤ i ∧ i < 2 ^ 62 ∧ -(2 ^ 62) ≤ j ∧ j < 2 ^ 62 then some (.rng i j) else none
  | _, _ => none
def cntD : D → D → Option D
  | .lst xs, .int k => (intL xs).map fun ns => .int (ns.count k : Nat)
  | _, _ => none
def idxD (x y : D) : Option D := (tlOf x).bind fun xs => (indexD y xs).map fun (n : Nat) => .int n
def slAD : D → D → Option D
  | d, .int i => cutD d (some i) none
  | _, _ => none
def slBD : D → D → Option D
  | d, .int i => cutD d none (some i)
  | _, _ => none
def slCD : D → D → D → Option D
  | d, .int i, .int j => cutD d (some i) (some j)
  | _, _, _ => none
def get1D : D → D → Option D
  | .dic t ks vs, x => if keyOf t x then some ((look ks vs x).getD .non) else none
  | _, _ => none
def get2D : D → D → D → Option D
  | .dic t ks vs, x, y => if keyOf t x then some ((look ks vs x).getD y) else none
  | _, _, _ => none
def dictzipD (t : Bool) (x y : D) : Option D := (tlOf x).bind fun xs => (tlOf y).bind fun ys => mkDic t (xs.take ys.length, ys.take xs.length)
def ltDD : D → D → Option D
  | .int i, .int j => some (.bl (decide (i < j)))
  | _, _ => none
def op2 : Op2 → D → D → Option D
  | .add => addD
  | .sub => subD
  | .mul => mulD
  | .fdiv => fdivD
  | .mod => modD
  | .pow => powD
  | .lt => ltDD
  | .le => leD
  | .gt => gtD
  | .ge => geD
  | .eq => fun x y => (eqD x y).map .bl
  | .ne => fun x y => (eqD x y).map fun b => .bl (!b)
  | .is => fun x y => (isB x y).map .bl
  | .isnot => fun x y => (isB x y).map fun b => .bl (!b)
  | .isin => fun x y => (inD x y).map .bl
  | .notin => fun x y => (inD x y).map fun b => .bl (!b)
  | .max2 => max2D
  | .min2 => min2D
  | .eqset => eqsetD
  | .ix => ixD
  | .range2 => range2D
  | .count => cntD
  | .index => idxD
  | .slA => slAD
  | .slB => slBD
  | .get1 => get1D
  | .dictzip t => dictzipD t
  | .join => fun _ _ => none
  | .split => fun _ _ => none
  | .rfind => fun _ _ => none
  | .starts => fun _ _ => none
def op3 : Op3 → D → D → D → Option D
  | .slC => slCD
  | .get2 => get2D
/-- a slice's first bound is an int -/
def chk3 : Op3 → D → Option Unit
  | .slC, .int _ => some ()
  | .slC, _ => none
  | .get2, _ => some ()
/-- with the cup's two cells -/
def cupV : D → K → Option D
  | .int i, κ => if i = 0 then some (.int κ.1) else if i = 1 then some (.int κ.2) else none
  | _, _ => none
def ixK (x y : D) (κ : K) : Option D := match x with
  | .cup => cupV y κ
  | x => ixD x y
def op2K (o : Op2) (x y : D) (κ : K) : Option D := match o with
  | .ix => ixK x y κ
  | o => op2 o x y
def op2M (o : Op2) (x y : D) : M D := fun κ => opt (op2K o x y κ) κ
/-! ### targets -/
def asg : Tg → D → List D → Option (List D)
  | .nm i, d, ρ => some (ρ.set i d)
  | .t2 a b, d, ρ => match tlOf d with
    | some [x, y] => (asg a x ρ).bind (asg b y)
    | _ => none
  | .t3 a b c, d, ρ => match tlOf d with
    | some [x, y, z] => (asg a x ρ).bind fun ρ => (asg b y ρ).bind (asg c z)
    | _ => none
  | .t4 a b c e, d, ρ => match tlOf d with
    | some [x, y, z, u] => (asg a x ρ).bind fun ρ => (asg b y ρ).bind fun ρ => (asg c z ρ).bind (asg e u)
    | _ => none
  | .t5 a b c e f, d, ρ => match tlOf d with
    | some [x, y, z, u, v] => (asg a x ρ).bind fun ρ => (asg b y ρ).bind fun ρ => (asg c z ρ).bind fun ρ => (asg e u ρ).bind (asg f v)
    | _ => none
  | .t6 a b c e f g, d, ρ => match tlOf d with
    | some [x, y, z, u, v, w] => (asg a x ρ).bind fun ρ => (asg b y ρ).bind fun ρ => (asg c z ρ).bind fun ρ => (asg e u ρ).bind fun ρ => (asg f v ρ).bind (asg g w)
    | _ => none
def wipeD (ρ : List D) : List Nat → List D
  | [] => ρ
  | i :: is => (wipeD ρ is).set i .und
/-! ### expressions -/
def getV (ρ : List D) (i : Nat) : M D := match ρ[i]? with
  | some .und => bad
  | some d => ret d
  | none => bad
def enumL : Nat → List D → List D
  | _, [] => []
  | n, x :: xs => .tup [.int n, x] :: enumL (n + 1) xs
def zipL : List D → List D → List D
  | x :: xs, y :: ys => .tup [x, y] :: zipL xs ys
  | _, _ => []
def collect (f : D → M (List D)) : List D → M (List D)
  | [] => ret []
  | d :: ds => bnd (f d) fun a => bnd (collect f ds) fun b => ret (a ++ b)
def walkD : D → Option (List D)
  | .tup xs => some xs
  | .lst xs => some xs
  | .rng lo hi => if -(2 ^ 62) ≤ lo ∧ lo < 2 ^ 62 ∧ -(2 ^ 62) ≤ hi ∧ hi < 2 ^ 62 then some (rangeL lo hi) else none
  | .str s => some (s.map fun c => .str [c])
  | _ => none
def enumD : D → Option (List D)
  | .lst xs => some (enumL 0 xs)
  | _ => none
def zipD : D → D → Option (List D)
  | .lst xs, .lst ys => some (zipL xs ys)
  | .tup xs, .tup ys => some (zipL xs ys)
  | _, _ => none
mutual
def ev (C : Nat → List D → M D) : E → List D → M D
  | .var i, ρ => getV ρ i
  | .cst d, _ => ret d
  | .glb d, _ => ret d
  | .tup es, ρ => bnd (evs C es ρ) fun ds => ret (.tup ds)
  | .lst es, ρ => bnd (evs C es ρ) fun ds => ret (.lst ds)
  | .dct t kvs, ρ => bnd (evs C kvs ρ) fun ds => opt ((twos ds).bind (mkDic t))
  | .op1 o a, ρ => bnd (ev C a ρ) fun x => opt (op1 o x)
  | .op2 o a b, ρ => bnd (ev C a ρ) fun x => bnd (ev C b ρ) fun y => op2M o x y
  | .op3 o a b c, ρ => bnd (ev C a ρ) fun x => bnd (ev C b ρ) fun y => bnd (opt (chk3 o y)) fun _ => bnd (ev C c ρ) fun z => opt (op3 o x y z)
  | .and a b, ρ => bnd (ev C a ρ) fun x => bnd (opt (truth x)) fun t => if t then ev C b ρ else ret x
  | .or a b, ρ => bnd (ev C a ρ) fun x => bnd (opt (truth x)) fun t => if t then ret x else ev C b ρ
  | .ite c a b, ρ => bnd (ev C c ρ) fun x => bnd (opt (truth x)) fun t => if t then ev C a ρ else ev C b ρ
  | .cmp2 o p a b c, ρ => bnd (ev C a ρ) fun x => bnd (ev C b ρ) fun y => bnd (op2M o x y) fun u => match u with
    | .bl true => bnd (ev C c ρ) fun z => op2M p y z
    | .bl false => ret (.bl false)
    | _ => bad
  | .isi a t, ρ => bnd (ev C a ρ) fun x => opt ((isT x t).map .bl)
  | .call f es, ρ => bnd (evs C es ρ) fun ds => C f ds
  | .callv f es, ρ => bnd (ev C f ρ) fun x => match x with
    | .fn i => bnd (evs C es ρ) fun ds => C i ds
    | _ => bad
  | .comp own g, ρ => bnd (calm (evg C g ρ (wipeD ρ own))) fun ds => opt ((sized ds).map .lst)
  | .dcomp t own g, ρ => bnd (calm (evg C g ρ (wipeD ρ own))) fun ds => opt ((pairsOf ds).bind (mkDic t))
def evs (C : Nat → List D → M D) : Es → List D → M (List D)
  | .nil, _ => ret []
  | .cons e es, ρ => bnd (ev C e ρ) fun d => bnd (evs C es ρ) fun ds => ret (d :: ds)
def evi (C : Nat → List D → M D) : It → List D → M (List D)
  | .e a, ρ => bnd (ev C a ρ) fun d => opt (walkD d)
  | .enum a, ρ => bnd (ev C a ρ) fun d => opt (enumD d)
  | .zip a b, ρ => bnd (ev C a ρ) fun x => bnd (ev C b ρ) fun y => opt (zipD x y)
/-- the first source by ρ₁, all else by ρ -/
def evg (C : Nat → List D → M D) : Gs → List D → List D → M (List D)
  | .fin e, _, ρ => bnd (ev C e ρ) fun d => ret [d]
  | .fin2 k v, _, ρ => bnd (ev C k ρ) fun x => bnd (ev C v ρ) fun y => ret [.tup [x, y]]
  | .cons t it ifs g, ρ₁, ρ => bnd (evi C it ρ₁) fun xs => collect (fun x => bnd (opt (asg t x ρ)) fun ρ' => bnd (evt C ifs ρ') fun b => if b then evg C g ρ' ρ' else ret []) xs
/-- the tests of a clause -/
def evt (C : Nat → List D → M D) : Es → List D → M Bool
  | .nil, _ => ret true
  | .cons e es, ρ => bnd (ev C e ρ) fun x => bnd (opt (truth x)) fun b => if b then evt C es ρ else ret false
end
/-! ### statements -/
mutual
inductive S where
  | asg (t : Tg) (e : E)
  | aug (i : Nat) (o : Op2) (e : E)
  | ext (i : Nat) (e : E)
  | app (i : Nat) (e : E)
  | app2 (i : Nat) (k e : E)
  | set1 (i : Nat) (k e : E)
  | setc (i : Nat) (k e : E)
  | set2 (i : Nat) (k l e : E)
  | aug1 (i : Nat) (k : E) (o : Op2) (e : E)
  | set1b (i : Nat) (k e : E) (j : Nat) (e2 : E)
  | set22 (i : Nat) (k l : E) (j : Nat) (k2 l2 : E) (e e2 : E)
  | pop (j i : Nat)
  | upd (i : Nat) (e : E)
  | expr (e : E) | ret (e : E)
  | ite (c : E) (a b : Ss)
  | for_ (t : Tg) (it : It) (b : Ss)
  | whl (c : E) (b : Ss)
  | cont | pass
  | raise (c : Nat) (es : Es)
  | mkcup (i : Nat) (e : E)
inductive Ss where
  | nil | cons (s : S) (r : Ss)
end
inductive Fl where
  | nx (ρ : List D) | rt (d : D) | ct (ρ : List D) | bk (ρ : List D)
def forL (st : D → List D → Option (List D)) (b : List D → M Fl) : List D → List D → M Fl
  | [], ρ => ret (.nx ρ)
  | d :: ds, ρ => bnd (opt (st d ρ)) fun ρ₁ => bnd (b ρ₁) fun
    | .nx ρ₂ => forL st b ds ρ₂
    | .ct ρ₂ => forL st b ds ρ₂
    | .bk _ => bad
    | .rt v => ret (.rt v)
def whlL (c : List D → M Bool) (b : List D → M Fl) : Nat → List D → M Fl
  | 0, _ => bad
  | n + 1, ρ => bnd (c ρ) fun t => if t then bnd (b ρ) fun
    | .nx ρ₂ => whlL c b n ρ₂
    | .ct ρ₂ => whlL c b n ρ₂
    | .bk _ => bad
    | .rt v => ret (.rt v)
    else ret (.nx ρ)
/-- d[k] = e by values -/
def setD (d k e : D) : Option D := match d with
  | .lst xs => match k with
    | .int i => (place xs.length i).map fun j => .lst (xs.set j e)
    | _ => none
  | .dic t ks vs => (putD t ks vs k e).map fun p => .dic t p.1 p.2
  | _ => none
def cupS (d k e : D) (κ : K) : Option K := match d, k, e with
  | .cup, .int j, .int n => if j = 0 then some (n, κ.2) else if j = 1 then some (κ.1, n) else none
  | _, _, _ => none
def setC (d k e : D) : M Unit := fun κ => match cupS d k e κ with
  | some κ' => .ok () κ'
  | none => .bad
def isLst : D → Bool
  | .lst _ => true
  | _ => false
def rowD (d k : D) : Option D := match d with
  | .lst xs => (ixD (.lst xs) k).bind fun z => if isLst z then some z else none
  | _ => none
def appD (d e : D) : Option D := match d with
  | .lst xs => if xs.length < line then some (.lst (xs ++ [e])) else none
  | _ => none
def updD (d e : D) : Option D := match d, e with
  | .dic t ks vs, .dic _ ks' vs' => (putAll t ks vs ks' vs').map fun p => .dic t p.1 p.2
  | _, _ => none
def augD : Op2 → D → D → Option D
  | .add, .int i, .int j => some (.int (i + j))
  | .sub, .int i, .int j => some (.int (i - j))
  | _, _, _ => none
def extD : D → D → Option D
  | .lst xs, .lst ys => if xs.length + ys.length ≤ line then some (.lst (xs ++ ys)) else none
  | _, _ => none
def popD : D → Option (D × D)
  | .lst xs => xs.getLast?.map fun x => (x, .lst xs.dropLast)
  | _ => none
def cupOf : D → Option (Int × Int)
  | .lst [.int a, .int b] => some (a, b)
  | _ => none
def mkC (p : Option (Int × Int)) (f : Fl) : M Fl := match p with
  | some p => fun _ => .ok f p
  | none => bad
def whileMost : Nat := 100000
mutual
def ex (C : Nat → List D → M D) : S → List D → M Fl
  | .asg t e, ρ => bnd (ev C e ρ) fun d => bnd (opt (asg t d ρ)) fun ρ' => ret (.nx ρ')
  | .aug i o e, ρ => bnd (getV ρ i) fun x => bnd (ev C e ρ) fun y => bnd (opt (augD o x y)) fun z => ret (.nx (ρ.set i z))
  | .ext i e, ρ => bnd (getV ρ i) fun x => bnd (ev C e ρ) fun y => bnd (opt (extD x y)) fun z => ret (.nx (ρ.set i z))
  | .app i e, ρ => bnd (getV ρ i) fun x => bnd (opt (lstOf x)) fun _ => bnd (ev C e ρ) fun y => bnd (opt (appD x y)) fun z => ret (.nx (ρ.set i z))
  | .app2 i k e, ρ => bnd (getV ρ i) fun x => bnd (ev C k ρ) fun j => bnd (opt (op2 .ix x j)) fun z => bnd (ev C e ρ) fun y => bnd (opt (appD z y)) fun z' =>
      bnd (opt (setD x j z')) fun x' => ret (.nx (ρ.set i x'))
  | .set1 i k e, ρ => bnd (ev C e ρ) fun y => bnd (getV ρ i) fun x => bnd (ev C k ρ) fun j => bnd (opt (setD x j y)) fun x' => ret (.nx (ρ.set i x'))
  | .setc i k e, ρ => bnd (ev C e ρ) fun y => bnd (getV ρ i) fun x => bnd (ev C k ρ) fun j => bnd (setC x j y) fun _ => ret (.nx ρ)
  | .set2 i k l e, ρ => bnd (ev C e ρ) fun y => bnd (getV ρ i) fun x => bnd (ev C k ρ) fun j => bnd (opt (rowD x j)) fun z => bnd (ev C l ρ) fun j2 =>
      bnd (opt (setD z j2 y)) fun z' => bnd (opt (setD x j z')) fun x' => ret (.nx (ρ.set i x'))
  | .aug1 i k o e, ρ => bnd (getV ρ i) fun x => bnd (ev C k ρ) fun j => bnd (opt ((lstOf x).bind fun _ => op2 .ix x j)) fun z => bnd (ev C e ρ) fun y => bnd (opt (augD o z y)) fun z' =>
      bnd (opt (setD x j z')) fun x' => ret (.nx (ρ.set i x'))
  | .set1b i k e j e2, ρ => bnd (ev C e ρ) fun y => bnd (ev C e2 ρ) fun y2 => bnd (getV ρ i) fun x => bnd (ev C k ρ) fun p => bnd (opt (setD x p y)) fun x' => ret (.nx ((ρ.set i x').set j y2))
  | .set22 i k l j k2 l2 e e2, ρ => bnd (ev C e ρ) fun y => bnd (ev C e2 ρ) fun y2 =>
      bnd (getV ρ i) fun x => bnd (ev C k ρ) fun p => bnd (opt (op2 .ix x p)) fun z => bnd (ev C l ρ) fun q => bnd (opt (setD z q y)) fun z' => bnd (opt (setD x p z')) fun x' =>
      bnd (getV (ρ.set i x') j) fun x => bnd (ev C k2 (ρ.set i x')) fun p => bnd (opt (op2 .ix x p)) fun z => bnd (ev C l2 (ρ.set i x')) fun q => bnd (opt (setD z q y2)) fun z' => bnd (opt (setD x p z')) fun x'' =>
      ret (.nx ((ρ.set i x').set j x''))
  | .pop j i, ρ => bnd (getV ρ i) fun x => bnd (opt (popD x)) fun p => ret (.nx ((ρ.set i p.2).set j p.1))
  | .upd i e, ρ => bnd (getV ρ i) fun x => bnd (ev C e ρ) fun y => bnd (opt (updD x y)) fun z => ret (.nx (ρ.set i z))
  | .expr e, ρ => bnd (ev C e ρ) fun _ => ret (.nx ρ)
  | .ret e, ρ => bnd (ev C e ρ) fun d => ret (.rt d)
  | .ite c a b, ρ => bnd (ev C c ρ) fun x => bnd (opt (truth x)) fun t => if t then exs C a ρ else exs C b ρ
  | .for_ t it b, ρ => bnd (evi C it ρ) fun xs => forL (asg t) (exs C b) xs ρ
  | .whl c b, ρ => whlL (fun ρ => bnd (ev C c ρ) fun x => opt (truth x)) (exs C b) whileMost ρ
  | .cont, ρ => ret (.ct ρ)
  | .pass, ρ => ret (.nx ρ)
  | .raise c es, ρ => bnd (evs C es ρ) fun ds => fun κ => .exc ⟨c, ds⟩ κ
  | .mkcup i e, ρ => bnd (ev C e ρ) fun d => mkC (cupOf d) (.nx (ρ.set i .cup))
def exs (C : Nat → List D → M D) : Ss → List D → M Fl
  | .nil, ρ => ret (.nx ρ)
  | .cons s r, ρ => bnd (ex C s ρ) fun
    | .nx ρ' => exs C r ρ'
    | f => ret f
end
/-- a def: how many parameters, how many slots, its body -/
structure Fun where
  np : Nat
  nl : Nat
  body : Ss
def body (C : Nat → List D → M D) (F : Fun) (ds : List D) : M D :=
  if ds.length = F.np then bnd (exs C F.body (ds ++ List.replicate (F.nl - F.np) .und)) fun
    | .nx _ => ret .non
    | .rt d => ret d
    | _ => bad
  else bad
def run (T : Nat → Option Fun) : Nat → Nat → List D → M D
  | 0, _, _ => bad
  | k + 1, f, ds => match T f with
    | some F => body (run T k) F ds
    | none => bad
end MP
set_option Elab.async false
set_option linter.all false
set_option maxRecDepth 100000
set_option maxHeartbeats 2000000
/-! MP2: what a value of MP1 is in the hand layer's heap. -/
namespace MP
open PySem PySem.Spec PyProof.Rows L2
/-- where values stand: the written part, the cup's address, the defs' addresses -/
structure Rc where
  K : PySem.W.Frag
  C : Option Addr
  fa : Nat → Option Addr
  /-- may a tuple be one of the written part -/
  kt : Bool
/-- a tuple of these -/
def TupAt (R : Rc) (H : Hp) (a : Addr) (vs : List V) : Prop := if R.kt then SqT R.K H a vs else H a = some (.tup vs)
def keyD : Key → D
  | .inl i => .int i
  | .inr x => .str x.cps.toList
/-- the dict's own object -/
def DicAt (R : Rc) (H : Hp) (a : Addr) (t : Bool) (ks : List D) (vs : List V) : Prop :=
  if t then R.kt = false ∧ ∃ kvs : List (List Key × V), H a = some (.dT kvs) ∧ ks = kvs.map (fun p => .tup (p.1.map keyD)) ∧ vs = kvs.map (·.2)
  else ∃ kvs : List (Key × V), H a = some (.dK kvs) ∧ ks = kvs.map (fun p => keyD p.1) ∧ vs = kvs.map (·.2)
/-- the intL that the law is given -/
def ScrAt (K : PySem.W.Frag) (H : Hp) (a : Addr) (ns : List Int) : Prop := (∃ o, H a = some (.frz o (.lst (ns.map V.int)))) ∨
  ∃ (o : Obj) (its : Array Value) (n : Nat), K.lookup a = some o ∧ o.cls = .type "list" ∧ o.dict = none ∧ o.data = .seq its n ∧ its.size ≤ sizeLine ∧ Vals (ns.map V.int) its.toList
theorem ScrAt.sq {K : PySem.W.Frag} {H : Hp} {a : Addr} {ns : List Int} (h : ScrAt K H a ns) : SqL K H a (ns.map V.int) := by
  rcases h with ⟨o, h⟩ | h
  · exact .inl (.inr ⟨o, h⟩)
  · exact .inr h
mutual
/-- d is represented by v, no list or dict of it at an address of F -/
def Rep (R : Rc) (H : Hp) (F : Addr → Prop) : D → V → Prop
  | .und, _ => False
  | .non, v => v = .non
  | .bl b, v => v = .bl b
  | .int i, v => v = .int i
  | .str s, v => v = .str ⟨s.toArray⟩
  | .tup ds, v => ∃ a vs, v = .ref a ∧ TupAt R H a vs ∧ Reps R H F ds vs
  | .lst ds, v => ∃ a vs, v = .ref a ∧ R.C ≠ some a ∧ ¬ F a ∧ H a = some (.lst vs) ∧ Reps R H F ds vs
  | .dic t ks ws, v => ∃ a vs, v = .ref a ∧ ¬ F a ∧ DicAt R H a t ks vs ∧ Reps R H F ws vs
  | .rng lo hi, v => ∃ a, v = .ref a ∧ H a = some (.rng lo hi)
  | .cup, v => ∃ c, R.C = some c ∧ v = .ref c
  | .fn i, v => ∃ f, R.fa i = some f ∧ v = .ref f
  | .scr ns, v => ∃ a, v = .ref a ∧ ScrAt R.K H a ns
def Reps (R : Rc) (H : Hp) (F : Addr → Prop) : List D → List V → Prop
  | [], vs => vs = []
  | d :: ds, vs => ∃ v r, vs = v :: r ∧ Rep R H F d v ∧ Reps R H F ds r
end
/-- .. the outermost list or dict may stand at an address of F, the outermost tuple be a written one -/
def RepT (R : Rc) (H : Hp) (F : Addr → Prop) (d : D) (v : V) : Prop := match d with
  | .tup ds => ∃ a vs, v = .ref a ∧ SqT R.K H a vs ∧ Reps R H F ds vs
  | .lst ds => ∃ a vs, v = .ref a ∧ R.C ≠ some a ∧ H a = some (.lst vs) ∧ Reps R H F ds vs
  | .dic t ks ws => ∃ a vs, v = .ref a ∧ DicAt R H a t ks vs ∧ Reps R H F ws vs
  | d => Rep R H F d v
def RepB (b : Bool) : Rc → Hp → (Addr → Prop) → D → V → Prop := if b then Rep else RepT
/-- what an expression leaves: all but the cup stands -/
def Ext (C : Option Addr) (H H' : Hp) : Prop := ∀ a o, H a = some o → H' a = some o ∨ (C = some a ∧ ∃ xs, o = .lst xs)
def Cup (C : Option Addr) (H : Hp) (κ : MP.K) : Prop := ∀ c, C = some c → H c = some (.lst [.int κ.1, .int κ.2])
theorem Ext.refl {C : Option Addr} {H : Hp} : Ext C H H := fun _ _ e => .inl e
theorem Ext.trans {C : Option Addr} {H1 H2 H3 : Hp} (a : Ext C H1 H2) (b : Ext C H2 H3) : Ext C H1 H3 := fun x o e => by
  rcases a x o e with h | h
  · exact b x o h
  · exact .inr h
theorem Ext.upd {C : Option Addr} {H : Hp} {p : Addr} {o : HO} (h : H p = none) : Ext C H (upd H p o) := fun a x e => .inl (by rw [upd_ne (ne_of_none e h)]; exact e)
theorem Cup.upd {C : Option Addr} {H : Hp} {κ : MP.K} {p : Addr} {o : HO} (c : Cup C H κ) (h : H p = none) : Cup C (upd H p o) κ := fun a e => by
  rw [upd_ne (ne_of_none (c a e) h)]; exact c a e
theorem Ext.keep {C : Option Addr} {H H' : Hp} (x : Ext C H H') {a : Addr} {o : HO} (e : H a = some o) (h : ∀ xs, o ≠ .lst xs) : H' a = some o := by
  rcases x a o e with q | ⟨_, xs, q⟩
  · exact q
  · exact absurd q (h xs)
theorem Ext.lst {C : Option Addr} {H H' : Hp} (x : Ext C H H') {a : Addr} {o : HO} (e : H a = some o) (h : C ≠ some a) : H' a = some o := by
  rcases x a o e with q | ⟨q, _⟩
  · exact q
  · exact absurd q h
theorem Ext.rdT {C : Option Addr} {H H' : Hp} (x : Ext C H H') {a : Addr} {xs : List V} (r : Rd H a (.tup xs)) : Rd H' a (.tup xs) := by
  rcases r with r | ⟨o, r⟩
  · exact .inl (x.keep r fun _ z => nomatch z)
  · exact .inr ⟨o, x.keep r fun _ z => nomatch z⟩
theorem Ext.sqT {C : Option Addr} {H H' : Hp} {K : PySem.W.Frag} (x : Ext C H H') {a : Addr} {xs : List V} (r : SqT K H a xs) : SqT K H' a xs := by
  rcases r with r | r
  · exact .inl (x.rdT r)
  · exact .inr r
theorem Ext.dic {R : Rc} {H H' : Hp} (x : Ext R.C H H') {a : Addr} {t : Bool} {ks : List D} {vs : List V} (r : DicAt R H a t ks vs) : DicAt R H' a t ks vs := by
  cases t with
  | true =>
    obtain ⟨z, kvs, e, r⟩ := r
    exact ⟨z, kvs, x.keep e (fun _ z => nomatch z), r⟩
  | false =>
    obtain ⟨kvs, e, r⟩ := r
    exact ⟨kvs, x.keep e (fun _ z => nomatch z), r⟩
theorem TupAt.sq {R : Rc} {H : Hp} {a : Addr} {vs : List V} (h : TupAt R H a vs) : SqT R.K H a vs := by
  unfold TupAt at h
  split at h
  · exact h
  · exact SqT.of h
theorem TupAt.of {R : Rc} {H : Hp} {a : Addr} {vs : List V} (h : H a = some (.tup vs)) : TupAt R H a vs := by
  unfold TupAt
  split
  · exact SqT.of h
  · exact h
theorem Ext.tupAt {R : Rc} {H H' : Hp} (x : Ext R.C H H') {a : Addr} {vs : List V} (h : TupAt R H a vs) : TupAt R H' a vs := by
  unfold TupAt at h ⊢
  split
  · rename_i e; rw [if_pos e] at h; exact x.sqT h
  · rename_i e; rw [if_neg e] at h; exact x.keep h fun _ z => nomatch z
section
variable {R : Rc} {H H' : Hp} {F G : Addr → Prop}
mutual
theorem Rep.ext (x : Ext R.C H H') : ∀ (d : D) (v : V), Rep R H F d v → Rep R H' F d v
  | .und, _, h => by simp only [Rep] at h
  | .non, _, h => by simpa only [Rep] using h
  | .bl _, _, h => by simpa only [Rep] using h
  | .int _, _, h => by simpa only [Rep] using h
  | .str _, _, h => by simpa only [Rep] using h
  | .tup ds, v, h => by
    simp only [Rep] at h ⊢
    obtain ⟨a, vs, e, s, r⟩ := h
    exact ⟨a, vs, e, x.tupAt s, Reps.ext x ds vs r⟩
  | .lst ds, v, h => by
    simp only [Rep] at h ⊢
    obtain ⟨a, vs, e, m, n, s, r⟩ := h
    exact ⟨a, vs, e, m, n, x.lst s m, Reps.ext x ds vs r⟩
  | .dic t ks ws, v, h => by
    simp only [Rep] at h ⊢
    obtain ⟨a, vs, e, n, s, r⟩ := h
    exact ⟨a, vs, e, n, x.dic s, Reps.ext x ws vs r⟩
  | .rng _ _, v, h => by
    simp only [Rep] at h ⊢
    obtain ⟨a, e, s⟩ := h
    exact ⟨a, e, x.keep s fun _ z => nomatch z⟩
  | .cup, _, h => by simpa only [Rep] using h
  | .fn _, _, h => by simpa only [Rep] using h
  | .scr ns, v, h => by
    simp only [Rep] at h ⊢
    obtain ⟨a, e, s⟩ := h
    exact ⟨a, e, s.imp (fun ⟨o, s⟩ => ⟨o, x.keep s fun _ z => nomatch z⟩) id⟩
theorem Reps.ext (x : Ext R.C H H') : ∀ (ds : List D) (vs : List V), Reps R H F ds vs → Reps R H' F ds vs
  | [], _, h => by simpa only [Reps] using h
  | d :: ds, vs, h => by
    simp only [Reps] at h ⊢
    obtain ⟨v, r, e, h1, h2⟩ := h
    exact ⟨v, r, e, Rep.ext x d v h1, Reps.ext x ds r h2⟩
end
mutual
theorem Rep.less (hs : ∀ a, G a → F a) : ∀ (d : D) (v : V), Rep R H F d v → Rep R H G d v
  | .und, _, h => by simp only [Rep] at h
  | .non, _, h => by simpa only [Rep] using h
  | .bl _, _, h => by simpa only [Rep] using h
  | .int _, _, h => by simpa only [Rep] using h
  | .str _, _, h => by simpa only [Rep] using h
  | .tup ds, v, h => by
    simp only [Rep] at h ⊢
    obtain ⟨a, vs, e, s, r⟩ := h
    exact ⟨a, vs, e, s, Reps.less hs ds vs r⟩
  | .lst ds, v, h => by
    simp only [Rep] at h ⊢
    obtain ⟨a, vs, e, m, n, s, r⟩ := h
    exact ⟨a, vs, e, m, fun z => n (hs a z), s, Reps.less hs ds vs r⟩
  | .dic t ks ws, v, h => by
    simp only [Rep] at h ⊢
    obtain ⟨a, vs, e, n, s, r⟩ := h
    exact ⟨a, vs, e, fun z => n (hs a z), s, Reps.less hs ws vs r⟩
  | .rng _ _, v, h => by simpa only [Rep] using h
  | .cup, _, h => by simpa only [Rep] using h
  | .fn _, _, h => by simpa only [Rep] using h
  | .scr _, _, h => by simpa only [Rep] using h
theorem Reps.less (hs : ∀ a, G a → F a) : ∀ (ds : List D) (vs : List V), Reps R H F ds vs → Reps R H G ds vs
  | [], _, h => by simpa only [Reps] using h
  | d :: ds, vs, h => by
    simp only [Reps] at h ⊢
    obtain ⟨v, r, e, h1, h2⟩ := h
    exact ⟨v, r, e, Rep.less hs d v h1, Reps.less hs ds r h2⟩
end
theorem Reps.length : ∀ {ds : List D} {vs : List V}, Reps R H F ds vs → vs.length = ds.length
  | [], _, h => by simp only [Reps] at h; subst h; rfl
  | d :: ds, vs, h => by
    simp only [Reps] at h
    obtain ⟨v, r, e, _, h2⟩ := h
    subst e
    rw [List.length_cons, List.length_cons, Reps.length h2]
theorem Rep.top {d : D} {v : V} (h : Rep R H F d v) : RepT R H F d v := by
  cases d with
  | tup ds =>
    simp only [Rep] at h
    obtain ⟨a, vs, e, s, r⟩ := h
    exact ⟨a, vs, e, s.sq, r⟩
  | lst ds =>
    simp only [Rep] at h
    obtain ⟨a, vs, e, m, _, s, r⟩ := h
    exact ⟨a, vs, e, m, s, r⟩
  | dic t ks ws =>
    simp only [Rep] at h
    obtain ⟨a, vs, e, _, s, r⟩ := h
    exact ⟨a, vs, e, s, r⟩
  | _ => exact h
theorem Rep.toB {b : Bool} {d : D} {v : V} (h : Rep R H F d v) : RepB b R H F d v := by
  cases b with
  | true => exact h
  | false => exact h.top
theorem RepB.top {b : Bool} {d : D} {v : V} (h : RepB b R H F d v) : RepT R H F d v := by
  cases b with
  | true => exact Rep.top h
  | false => exact h
theorem RepT.ext (x : Ext R.C H H') {d : D} {v : V} (h : RepT R H F d v) : RepT R H' F d v := by
  cases d with
  | tup ds =>
    obtain ⟨a, vs, e, s, r⟩ := h
    exact ⟨a, vs, e, x.sqT s, Reps.ext x ds vs r⟩
  | lst ds =>
    obtain ⟨a, vs, e, m, s, r⟩ := h
    exact ⟨a, vs, e, m, x.lst s m, Reps.ext x ds vs r⟩
  | dic t ks ws =>
    obtain ⟨a, vs, e, s, r⟩ := h
    exact ⟨a, vs, e, x.dic s, Reps.ext x ws vs r⟩
  | _ => exact Rep.ext x _ v h
theorem RepT.less (hs : ∀ a, G a → F a) {d : D} {v : V} (h : RepT R H F d v) : RepT R H G d v := by
  cases d with
  | tup ds =>
    obtain ⟨a, vs, e, s, r⟩ := h
    exact ⟨a, vs, e, s, Reps.less hs ds vs r⟩
  | lst ds =>
    obtain ⟨a, vs, e, m, s, r⟩ := h
    exact ⟨a, vs, e, m, s, Reps.less hs ds vs r⟩
  | dic t ks ws =>
    obtain ⟨a, vs, e, s, r⟩ := h
    exact ⟨a, vs, e, s, Reps.less hs ws vs r⟩
  | _ => exact Rep.less hs _ v h
theorem RepB.ext {b : Bool} (x : Ext R.C H H') {d : D} {v : V} (h : RepB b R H F d v) : RepB b R H' F d v := by
  cases b with
  | true => exact Rep.ext x d v h
  | false => exact RepT.ext x h
theorem Reps.get : ∀ {ds : List D} {vs : List V} {i : Nat} {d : D}, Reps R H F ds vs → ds[i]? = some d → ∃ v, vs[i]? = some v ∧ Rep R H F d v
  | [], _, _, _, _, e => by simp at e
  | x :: ds, vs, 0, d, h, e => by
    simp only [Reps] at h
    obtain ⟨v, r, rfl, h1, h2⟩ := h
    simp at e; subst e
    exact ⟨v, rfl, h1⟩
  | x :: ds, vs, i + 1, d, h, e => by
    simp only [Reps] at h
    obtain ⟨v, r, rfl, h1, h2⟩ := h
    obtain ⟨u, e1, e2⟩ := Reps.get (i := i) h2 (by simpa using e)
    exact ⟨u, by simpa using e1, e2⟩
theorem Reps.get' : ∀ {ds : List D} {vs : List V} {i : Nat} {v : V}, Reps R H F ds vs → vs[i]? = some v → ∃ d, ds[i]? = some d ∧ Rep R H F d v := fun {ds vs i v} h e => by
  have l := h.length
  have hi : i < ds.length := by
    rw [← l]; exact (List.getElem?_eq_some_iff.mp e).1
  obtain ⟨u, e1, e2⟩ := h.get (List.getElem?_eq_getElem hi)
  rw [e] at e1; cases e1
  exact ⟨_, List.getElem?_eq_getElem hi, e2⟩
theorem Reps.append : ∀ {ds es : List D} {vs ws : List V}, Reps R H F ds vs → Reps R H F es ws → Reps R H F (ds ++ es) (vs ++ ws)
  | [], _, _, _, h, g => by simp only [Reps] at h; subst h; exact g
  | d :: ds, es, vs, ws, h, g => by
    simp only [Reps] at h
    obtain ⟨v, r, rfl, h1, h2⟩ := h
    show Reps R H F (d :: (ds ++ es)) (v :: (r ++ ws))
    simp only [Reps]
    exact ⟨v, _, rfl, h1, Reps.append h2 g⟩
theorem Reps.drop : ∀ {ds : List D} {vs : List V} (n : Nat), Reps R H F ds vs → Reps R H F (ds.drop n) (vs.drop n)
  | _, _, 0, h => h
  | [], vs, n + 1, h => by simp only [Reps] at h; subst h; simp only [List.drop_nil, Reps]
  | d :: ds, vs, n + 1, h => by
    simp only [Reps] at h
    obtain ⟨v, r, rfl, h1, h2⟩ := h
    exact Reps.drop n h2
theorem Reps.take : ∀ {ds : List D} {vs : List V} (n : Nat), Reps R H F ds vs → Reps R H F (ds.take n) (vs.take n)
  | _, _, 0, h => by simp only [List.take_zero, Reps]
  | [], vs, n + 1, h => by simp only [Reps] at h; subst h; simp only [List.take_nil, Reps]
  | d :: ds, vs, n + 1, h => by
    simp only [Reps] at h
    obtain ⟨v, r, rfl, h1, h2⟩ := h
    simp only [List.take_succ_cons, Reps]
    exact ⟨v, _, rfl, h1, Reps.take n h2⟩
theorem Reps.set {d : D} {v : V} (q : Rep R H F d v) : ∀ {ds : List D} {vs : List V} (n : Nat), Reps R H F ds vs → Reps R H F (ds.set n d) (vs.set n v)
  | [], vs, n, h => by simp only [Reps] at h; subst h; simp only [List.set_nil, Reps]
  | x :: ds, vs, 0, h => by
    simp only [Reps] at h
    obtain ⟨u, r, rfl, h1, h2⟩ := h
    simp only [List.set_cons_zero, Reps]
    exact ⟨v, _, rfl, q, h2⟩
  | x :: ds, vs, n + 1, h => by
    simp only [Reps] at h
    obtain ⟨u, r, rfl, h1, h2⟩ := h
    simp only [List.set_cons_succ, Reps]
    exact ⟨u, _, rfl, h1, Reps.set q n h2⟩
theorem Reps.rev : ∀ {ds : List D} {vs : List V}, Reps R H F ds vs → Reps R H F ds.reverse vs.reverse
  | [], vs, h => by simp only [Reps] at h; subst h; simp only [List.reverse_nil, Reps]
  | x :: ds, vs, h => by
    simp only [Reps] at h
    obtain ⟨u, r, rfl, h1, h2⟩ := h
    rw [List.reverse_cons, List.reverse_cons]
    exact Reps.append (Reps.rev h2) (by simp only [Reps]; exact ⟨u, [], rfl, h1, rfl⟩)
theorem Reps.flat {ds : List D} {vs : List V} (h : Reps R H F ds vs) : ∀ n : Nat, Reps R H F (List.replicate n ds).flatten (List.replicate n vs).flatten
  | 0 => by simp only [List.replicate_zero, List.flatten_nil, Reps]
  | n + 1 => by
    rw [List.replicate_succ, List.replicate_succ, List.flatten_cons, List.flatten_cons]
    exact h.append (Reps.flat h n)
theorem Reps.intL : ∀ {ns : List Int} {vs : List V}, Reps R H F (ns.map D.int) vs → vs = ns.map V.int
  | [], vs, h => by simpa only [List.map_nil, Reps] using h
  | n :: ns, vs, h => by
    simp only [List.map_cons, Reps, Rep] at h
    obtain ⟨v, r, rfl, rfl, h2⟩ := h
    rw [List.map_cons, Reps.intL h2]
theorem reps_ints : ∀ {ns : List Int}, Reps R H F (ns.map D.int) (ns.map V.int)
  | [] => by simp only [List.map_nil, Reps]
  | n :: ns => by
    simp only [List.map_cons, Reps, Rep]
    exact ⟨_, _, rfl, rfl, reps_ints⟩
theorem intL_map : ∀ {ds : List D} {ns : List Int}, MP.intL ds = some ns → ds = ns.map D.int
  | [], ns, e => by simp only [MP.intL] at e; cases e; rfl
  | d :: ds, ns, e => by
    cases d with
    | int i =>
      simp only [MP.intL, Option.map_eq_some_iff] at e
      obtain ⟨ms, e1, rfl⟩ := e
      rw [intL_map e1]; rfl
    | _ => simp only [MP.intL] at e; cases e
theorem bools_map : ∀ {ds : List D} {bs : List Bool}, MP.bools ds = some bs → ds = bs.map D.bl
  | [], ns, e => by simp only [MP.bools] at e; cases e; rfl
  | d :: ds, ns, e => by
    cases d with
    | bl i =>
      simp only [MP.bools, Option.map_eq_some_iff] at e
      obtain ⟨ms, e1, rfl⟩ := e
      rw [bools_map e1]; rfl
    | _ => simp only [MP.bools] at e; cases e
theorem Reps.bls : ∀ {ns : List Bool} {vs : List V}, Reps R H F (ns.map D.bl) vs → vs = ns.map V.bl
  | [], vs, h => by simpa only [List.map_nil, Reps] using h
  | n :: ns, vs, h => by
    simp only [List.map_cons, Reps, Rep] at h
    obtain ⟨v, r, rfl, rfl, h2⟩ := h
    rw [List.map_cons, Reps.bls h2]
theorem rep_new_lst {p : Addr} {ds : List D} {vs : List V} (hp : H p = none) (hC : Cup R.C H κ) (hF : ∀ a, F a → H a ≠ none) (h : Reps R H F ds vs) : Rep R (upd H p (.lst vs)) F (.lst ds) (.ref p) := by
  simp only [Rep]
  refine ⟨p, vs, rfl, fun z => ?_, fun z => hF p z hp, upd_same, Reps.ext (Ext.upd hp) ds vs h⟩
  rw [hC p z] at hp; cases hp
theorem rep_new_tup {p : Addr} {ds : List D} {vs : List V} (hp : H p = none) (h : Reps R H F ds vs) : Rep R (upd H p (.tup vs)) F (.tup ds) (.ref p) := by
  simp only [Rep]
  exact ⟨p, vs, rfl, TupAt.of upd_same, Reps.ext (Ext.upd hp) ds vs h⟩
end
section
variable {R : Rc} {H H' : Hp} {F G : Addr → Prop}
theorem DicAt.live {a : Addr} {t : Bool} {ks : List D} {vs : List V} (r : DicAt R H a t ks vs) : H a ≠ none := fun z => by
  cases t with
  | true => obtain ⟨_, kvs, e, _⟩ := r; rw [e] at z; cases z
  | false => obtain ⟨kvs, e, _⟩ := r; rw [e] at z; cases z
mutual
theorem Rep.wide (hs : ∀ a, G a → F a ∨ H a = none) : ∀ (d : D) (v : V), Rep R H F d v → Rep R H G d v
  | .und, _, h => by simp only [Rep] at h
  | .non, _, h => by simpa only [Rep] using h
  | .bl _, _, h => by simpa only [Rep] using h
  | .int _, _, h => by simpa only [Rep] using h
  | .str _, _, h => by simpa only [Rep] using h
  | .tup ds, v, h => by
    simp only [Rep] at h ⊢
    obtain ⟨a, vs, e, s, r⟩ := h
    exact ⟨a, vs, e, s, Reps.wide hs ds vs r⟩
  | .lst ds, v, h => by
    simp only [Rep] at h ⊢
    obtain ⟨a, vs, e, m, n, s, r⟩ := h
    exact ⟨a, vs, e, m, fun z => (hs a z).elim n fun z => (by rw [s] at z; cases z), s, Reps.wide hs ds vs r⟩
  | .dic t ks ws, v, h => by
    simp only [Rep] at h ⊢
    obtain ⟨a, vs, e, n, s, r⟩ := h
    exact ⟨a, vs, e, fun z => (hs a z).elim n fun z => s.live z, s, Reps.wide hs ws vs r⟩
  | .rng _ _, v, h => by simpa only [Rep] using h
  | .cup, _, h => by simpa only [Rep] using h
  | .fn _, _, h => by simpa only [Rep] using h
  | .scr _, _, h => by simpa only [Rep] using h
theorem Reps.wide (hs : ∀ a, G a → F a ∨ H a = none) : ∀ (ds : List D) (vs : List V), Reps R H F ds vs → Reps R H G ds vs
  | [], _, h => by simpa only [Reps] using h
  | d :: ds, vs, h => by
    simp only [Reps] at h ⊢
    obtain ⟨v, r, e, h1, h2⟩ := h
    exact ⟨v, r, e, Rep.wide hs d v h1, Reps.wide hs ds r h2⟩
end
end
abbrev FD (F : Addr → Prop) (D : Addr) : Addr → Prop := fun a => F a ∨ a = D
/-- a new list or dict: its place is new, it is none of its own items -/
def NewT (R : Rc) (H H' : Hp) (F : Addr → Prop) : D → V → Prop
  | .lst ds, v => ∃ a vs, v = .ref a ∧ H a = none ∧ R.C ≠ some a ∧ H' a = some (.lst vs) ∧ Reps R H' (FD F a) ds vs
  | .dic t ks ws, v => ∃ a vs, v = .ref a ∧ H a = none ∧ R.C ≠ some a ∧ DicAt R H' a t ks vs ∧ Reps R H' (FD F a) ws vs
  | _, _ => True
theorem newT_lst {R : Rc} {H : Hp} {F : Addr → Prop} {κ : MP.K} {p : Addr} {ds : List D} {vs : List V} (hp : H p = none) (cu : Cup R.C H κ) (r : Reps R H F ds vs) : NewT R H (upd H p (.lst vs)) F (.lst ds) (.ref p) :=
  ⟨p, vs, rfl, hp, fun z => (by have := cu p z; rw [hp] at this; cases this), upd_same, Reps.ext (Ext.upd hp) ds vs (Reps.wide (fun a z => z.imp id fun z => by rw [z]; exact hp) ds vs r)⟩
/-- a new place is a new place of the heap before -/
theorem Ext.new {C : Option Addr} {H H' : Hp} {κ : MP.K} {p : Addr} (x : Ext C H H') (c : Cup C H' κ) (hp : H' p = none) : H p = none := by
  cases e0 : H p with
  | none => rfl
  | some o =>
    rcases x p o e0 with z | ⟨z, _⟩
    · rw [z] at hp; cases hp
    · rw [c p z] at hp; cases hp
end MP
set_option Elab.async false
set_option linter.all false
set_option maxRecDepth 100000
set_option maxHeartbeats 2000000
/-! MP3: expressions: the judgement, its rules. -/
namespace MP
open PySem PySem.Spec PyProof.Rows L2
/-! ### outcomes -/
def wpO {α : Type} (o : Out α) (Q : α → MP.K → Prop) (X : Exn → MP.K → Prop) : Prop := match o with
  | .ok a κ => Q a κ
  | .exc x κ => X x κ
  | .bad => False
theorem wpO_bnd {α β : Type} {m : M α} {f : α → M β} {κ : MP.K} {Q : β → MP.K → Prop} {X : Exn → MP.K → Prop} (h : wpO (bnd m f κ) Q X) : wpO (m κ) (fun a κ' => wpO (f a κ') Q X) X := by
  unfold bnd at h
  cases e : m κ with
  | ok a κ' => rw [e] at h; exact h
  | exc x κ' => rw [e] at h; exact h
  | bad => rw [e] at h; exact h
theorem wpO_mono {α : Type} {o : Out α} {Q Q' : α → MP.K → Prop} {X X' : Exn → MP.K → Prop} (h : wpO o Q X) (hq : ∀ a κ, Q a κ → Q' a κ) (hx : ∀ x κ, X x κ → X' x κ) : wpO o Q' X' := by
  cases o with
  | ok a κ => exact hq a κ h
  | exc x κ => exact hx x κ h
  | bad => exact h
theorem wpO_opt {α : Type} {o : Option α} {κ : MP.K} {Q : α → MP.K → Prop} {X : Exn → MP.K → Prop} (h : wpO (opt o κ) Q X) : ∃ a, o = some a ∧ Q a κ := by
  cases o with
  | some a => exact ⟨a, rfl, h⟩
  | none => exact False.elim h
theorem wpO_calm {α : Type} {m : M α} {κ : MP.K} {Q : α → MP.K → Prop} {X X' : Exn → MP.K → Prop} (h : wpO (calm m κ) Q X) : wpO (m κ) Q X' := by
  unfold calm at h
  cases e : m κ with
  | ok a κ' => rw [e] at h; exact h
  | exc x κ' => rw [e] at h; exact False.elim h
  | bad => rw [e] at h; exact False.elim h
/-! ### which names may stand where: md 0 plain, 1 owns its list, 2 owns the lists in it too -/
/-- may the answer be the operand itself -/
def al2 : Op2 → Bool
  | .add => true
  | .mul => true
  | .slA => true
  | .slB => true
  | _ => false
def al1 : Op1 → Bool
  | .tuple => true
  | .rev => true
  | .str => true
  | _ => false
mutual
/-- b: the value is handed on -/
def okB (b : Bool) (md : Nat → Nat) : E → Bool
  | .var i => if b then md i == 0 else md i != 2
  | .cst _ => true
  | .glb _ => !b
  | .tup es => okEs md es
  | .lst es => okEs md es
  | .dct _ es => okEs md es
  | .op1 o a => okB (al1 o) md a
  | .op2 o a c => okB (al2 o) md a && okB (al2 o) md c
  | .op3 _ a c e => okB true md a && okB true md c && okB true md e
  | .and a c => okB true md a && okB true md c
  | .or a c => okB true md a && okB true md c
  | .ite c a e => okB true md c && okB true md a && okB true md e
  | .cmp2 _ _ a c e => okB false md a && okB false md c && okB false md e
  | .isi a _ => okB false md a
  | .call _ es => okEs md es
  | .callv f es => okB true md f && okEs md es
  | .comp own g => okG false md (fun i => if own.contains i then 0 else md i) g
  | .dcomp _ own g => okG false md (fun i => if own.contains i then 0 else md i) g
def okEs (md : Nat → Nat) : Es → Bool
  | .nil => true
  | .cons e es => okB true md e && okEs md es
def okG (b : Bool) (md0 md : Nat → Nat) : Gs → Bool
  | .fin e => okB true md e
  | .fin2 k v => okB true md k && okB true md v
  | .cons _ it ifs g => okI b md0 it && okEs md ifs && okG true md md g
def okI (b : Bool) (md : Nat → Nat) : It → Bool
  | .e a => okB b md a
  | .enum a => okB b md a
  | .zip a c => okB b md a && okB b md c
end
/-- its list or dict is new -/
def frE (fr : Nat → Bool) : E → Bool
  | .lst _ => true
  | .dct _ _ => true
  | .op1 .list _ => true
  | .op1 .sorted _ => true
  | .op1 .sortset _ => true
  | .op1 (.dict _) _ => true
  | .op1 .rev _ => true
  | .op2 .add _ _ => true
  | .op2 .mul _ _ => true
  | .op2 .slA _ _ => true
  | .op2 .slB _ _ => true
  | .op2 .split _ _ => true
  | .op2 (.dictzip _) _ _ => true
  | .op3 .slC _ _ _ => true
  | .ite _ a b => frE fr a && frE fr b
  | .call f _ => fr f
  | .comp _ _ => true
  | .dcomp _ _ _ => true
  | _ => false
/-! ### the situation -/
def EnvE (R : Rc) (F : Addr → Prop) (md : Nat → Nat) (σ : L2.St) (H : Hp) (ρ : List D) : Prop :=
  ∀ i d, ρ[i]? = some d → d ≠ .und → md i ≠ 2 → ∃ v, σ[i]? = some (some v) ∧ RepB (md i == 0) R H F d v
structure Sit (R : Rc) (F : Addr → Prop) (md : Nat → Nat) (σ : L2.St) (H : Hp) (ρ : List D) (κ : MP.K) : Prop where
  cf : ∀ c, R.C = some c → F c
  fh : ∀ a, F a → H a ≠ none
  env : EnvE R F md σ H ρ
  cup : Cup R.C H κ
  len : ρ.length = σ.length
theorem Sit.ext {R : Rc} {F : Addr → Prop} {md : Nat → Nat} {σ : L2.St} {H H' : Hp} {ρ : List D} {κ κ' : MP.K} (s : Sit R F md σ H ρ κ) (x : Ext R.C H H') (c : Cup R.C H' κ') : Sit R F md σ H' ρ κ' := by
  refine ⟨s.cf, fun a fa z => ?_, fun i d e n m => ?_, c, s.len⟩
  · cases q : H a with
    | none => exact s.fh a fa q
    | some o =>
      rcases x a o q with h | ⟨h, _⟩
      · rw [h] at z; cases z
      · rw [c a h] at z; cases z
  · obtain ⟨v, e1, e2⟩ := s.env i d e n m
    exact ⟨v, e1, e2.ext x⟩
/-- what all of a law's code leans on -/
structure Wc where
  fa : Nat → Option Addr
  kt : Bool
  fr : Nat → Bool
  call : Nat → List D → M D
  XW : Exn → MP.K → Hp → Prop
  /-- may the cup be made -/
  mkc : Bool
abbrev Wc.rc (W : Wc) (X : Cx) (C : Option Addr) : Rc := ⟨X.K, C, W.fa, W.kt⟩
/-- an outcome that is wanted -/
abbrev Want (W : Wc) (R : Rc) (F : Addr → Prop) (b : Bool) (fr : Bool) (H : Hp) (Q : VK) (o : Out D) : Prop :=
  wpO o (fun d κ' => ∀ v H', Ext R.C H H' → Cup R.C H' κ' → RepB b R H' F d v → (fr = true → NewT R H H' F d v) → Q v H') fun x κ' => ∀ H', Ext R.C H H' → Cup R.C H' κ' → W.XW x κ' H'
/-- an expression's reading -/
def tE (W : Wc) (X : Cx) (b : Bool) (c : E) : TE := fun σ H Q =>
  ∃ C F md ρ κ, okB b md c = true ∧ Sit (W.rc X C) F md σ H ρ κ ∧ Want W (W.rc X C) F b (frE W.fr c) H Q (ev W.call c ρ κ)
abbrev SE (W : Wc) (X : Cx) (b : Bool) (e : Expr) (c : E) : Prop := PE X e (tE W X b c)
theorem PE.imp {X : Cx} {e : Expr} {t t' : TE} (h : PE X e t) (i : ∀ σ H Q, t' σ H Q → t σ H Q) : PE X e t' := ⟨fun pins s σ H Q I q => h.run pins s σ H Q I (i σ H Q q)⟩
theorem PT.imp {X : Cx} {e : Expr} {t t' : TT} (h : PT X e t) (i : ∀ σ H Q, t' σ H Q → t σ H Q) : PT X e t' := ⟨fun pins s σ H Q I q => h.run pins s σ H Q I (i σ H Q q)⟩
theorem PA.imp {X : Cx} {e : List Expr} {t t' : TA} (h : PA X e t) (i : ∀ σ H Q, t' σ H Q → t σ H Q) : PA X e t' := ⟨fun pos pins s σ H Q I q => h.run pos pins s σ H Q I (i σ H Q q)⟩
section
variable {W : Wc} {X : Cx} {R : Rc} {F : Addr → Prop} {md : Nat → Nat} {σ : L2.St} {H : Hp} {ρ : List D} {κ : MP.K} {Q : VK}
/-- an expression within a greater one: what is wanted of its value -/
theorem sub {C : Option Addr} {b : Bool} {c : E} {α : Type} {f : D → M α} {P : α → MP.K → Prop} (hb : okB b md c = true) (s : Sit (W.rc X C) F md σ H ρ κ) (h : wpO (bnd (ev W.call c ρ) f κ) P fun x κ' => ∀ H', Ext C H H' → Cup C H' κ' → W.XW x κ' H') {Q' : VK}
    (q : ∀ d v H' κ', Ext C H H' → Sit (W.rc X C) F md σ H' ρ κ' → RepB b (W.rc X C) H' F d v → (frE W.fr c = true → NewT (W.rc X C) H H' F d v) → wpO (f d κ') P (fun x κ'' => ∀ H'', Ext C H' H'' → Cup C H'' κ'' → W.XW x κ'' H'') → Q' v H') : tE W X b c σ H Q' := by
  refine ⟨C, F, md, ρ, κ, hb, s, ?_⟩
  refine wpO_mono (wpO_bnd h) (fun d κ' hd v H' x cu r n => ?_) fun x κ' hx => hx
  exact q d v H' κ' x (s.ext x cu) r n (wpO_mono hd (fun _ _ z => z) fun y κ'' hy H'' x' cu' => hy H'' (x.trans x') cu')
end
/-! ### names, constants, displays -/
theorem wpO_getV {ρ : List D} {i : Nat} {κ : MP.K} {Q : D → MP.K → Prop} {X : Exn → MP.K → Prop} (h : wpO (getV ρ i κ) Q X) : ∃ d, ρ[i]? = some d ∧ d ≠ .und ∧ Q d κ := by
  unfold getV at h
  cases e : ρ[i]? with
  | none => rw [e] at h; exact False.elim h
  | some d =>
    rw [e] at h
    cases d with
    | und => exact False.elim h
    | _ => exact ⟨_, rfl, (fun z => nomatch z), h⟩
theorem se_var {W : Wc} {X : Cx} {b : Bool} {i : Nat} {x : Str} {pos : Pos} (hN : X.N[i]? = some x) (hv : Vis X.env.scope x) (hd : (x == ("__debug__" : Str)) = false) (hcd : (x == ("__classdict__" : Str)) = false) : SE W X b (.Name x pos) (.var i) := by
  refine PE.imp (pe_var hN hv hd hcd) fun σ H Q ⟨C, F, md, ρ, κ, hb, s, h⟩ => ?_
  have hm : md i ≠ 2 := by
    cases b with
    | true =>
      have : (md i == 0) = true := hb
      intro e; rw [e] at this; cases this
    | false =>
      have : (md i != 2) = true := hb
      intro e; rw [e] at this; cases this
  obtain ⟨d, e, n, q⟩ := wpO_getV (ρ := ρ) (i := i) h
  obtain ⟨v, e1, r⟩ := s.env i d e n hm
  refine ⟨v, e1, q v H Ext.refl s.cup ?_ (fun z => by cases z)⟩
  cases b with
  | true =>
    have : (md i == 0) = true := hb
    rw [this] at r; exact r
  | false => exact r.top
/-- a written tuple, looked at -/
theorem se_glb {W : Wc} {X : Cx} {e : Expr} {ds : List D} {a : Addr} {vs : List V} (h : PE X e (tC (.ref a))) (ht : ∀ H, SqT X.K H a vs) (r : ∀ C H F, Reps (W.rc X C) H F ds vs) {b : Bool} : SE W X b e (.glb (.tup ds)) := by
  refine PE.imp h fun σ H Q ⟨C, F, md, ρ, κ, hb, s, q⟩ => ?_
  have hb' : (!b) = true := hb
  have : b = false := by simpa using hb'
  subst this
  have q1 : ∀ v H', _ := q
  exact q1 (.ref a) H Ext.refl s.cup ⟨a, vs, rfl, ht H, r C H F⟩ fun z => by cases z
theorem rep_flat_ok {R : Rc} {b : Bool} {H : Hp} {F : Addr → Prop} {d : D} {v : V} (h : Rep R H F d v) : RepB b R H F d v := h.toB
/-- a constant: any expression whose value is d's -/
theorem se_cst {W : Wc} {X : Cx} {b : Bool} {e : Expr} {d : D} {v : V} (h : PE X e (tC v)) (r : ∀ C H F, Rep (W.rc X C) H F d v) : SE W X b e (.cst d) := by
  refine PE.imp h fun σ H Q ⟨C, F, md, ρ, κ, hb, s, q⟩ => ?_
  exact (show ∀ v H', _ from q) v H Ext.refl s.cup (r C H F).toB fun z => by cases z
/-! ### argument lists -/
abbrev WantL (W : Wc) (R : Rc) (F : Addr → Prop) (H : Hp) (Q : List V → Hp → Prop) (o : Out (List D)) : Prop :=
  wpO o (fun ds κ' => ∀ vs H', Ext R.C H H' → Cup R.C H' κ' → Reps R H' F ds vs → Q vs H') fun x κ' => ∀ H', Ext R.C H H' → Cup R.C H' κ' → W.XW x κ' H'
def tA (W : Wc) (X : Cx) (cs : Es) : TA := fun σ H Q =>
  ∃ C F md ρ κ, okEs md cs = true ∧ Sit (W.rc X C) F md σ H ρ κ ∧ WantL W (W.rc X C) F H Q (evs W.call cs ρ κ)
abbrev SA (W : Wc) (X : Cx) (es : List Expr) (cs : Es) : Prop := PA X es (tA W X cs)
section
variable {W : Wc} {X : Cx}
theorem sa_nil : SA W X [] .nil := by
  refine PA.imp pa_nil fun σ H Q ⟨C, F, md, ρ, κ, hb, s, h⟩ => ?_
  have h1 : ∀ vs H', Ext C H H' → Cup C H' κ → Reps (W.rc X C) H' F [] vs → Q vs H' := h
  exact h1 [] H Ext.refl s.cup (by simp only [Reps])
theorem sa_cons {e : Expr} {es : List Expr} {c : E} {cs : Es} (he : SE W X true e c) (hr : SA W X es cs) (hs : starEach (e :: es) X.env = (false, eval e X.env) :: starEach es X.env) : SA W X (e :: es) (.cons c cs) := by
  refine PA.imp (pa_cons he hr hs) fun σ H Q ⟨C, F, md, ρ, κ, hb, s, h⟩ => ?_
  have hb' : okB true md c = true ∧ okEs md cs = true := by
    have : (okB true md c && okEs md cs) = true := hb
    exact Bool.and_eq_true_iff.mp this
  refine sub (b := true) (f := fun d => bnd (evs W.call cs ρ) fun ds => MP.ret (d :: ds)) hb'.1 s h fun d v H1 κ1 x1 s1 r1 _ q1 => ?_
  refine ⟨C, F, md, ρ, κ1, hb'.2, s1, ?_⟩
  refine wpO_mono (wpO_bnd q1) (fun ds κ2 q2 vs H2 x2 c2 r2 => ?_) fun _ _ z => z
  refine q2 (v :: vs) H2 (x1.trans x2) c2 ?_
  simp only [Reps]
  exact ⟨v, vs, rfl, Rep.ext x2 d v r1, r2⟩
def esLen : Es → Nat
  | .nil => 0
  | .cons _ es => esLen es + 1
theorem evs_len {C : Nat → List D → M D} {ρ : List D} : ∀ {cs : Es} {κ κ' : MP.K} {ds : List D}, evs C cs ρ κ = .ok ds κ' → ds.length = esLen cs
  | .nil, κ, κ', ds, e => by
    have e1 : Out.ok [] κ = Out.ok ds κ' := by simpa only [evs, MP.ret] using e
    cases e1; rfl
  | .cons c cs, κ, κ', ds, e => by
    simp only [evs, bnd] at e
    cases e1 : ev C c ρ κ with
    | ok d κ1 =>
      rw [e1] at e
      simp only at e
      cases e2 : evs C cs ρ κ1 with
      | ok ds2 κ2 =>
        rw [e2] at e
        simp only [MP.ret] at e
        cases e
        rw [List.length_cons, evs_len e2]; rfl
      | exc x k => rw [e2] at e; cases e
      | bad => rw [e2] at e; cases e
    | exc x k => rw [e1] at e; cases e
    | bad => rw [e1] at e; cases e
theorem wpO_len {C : Nat → List D → M D} {ρ : List D} {cs : Es} {κ : MP.K} {Q : List D → MP.K → Prop} {Z : Exn → MP.K → Prop} (h : wpO (evs C cs ρ κ) Q Z) : wpO (evs C cs ρ κ) (fun ds κ' => ds.length = esLen cs ∧ Q ds κ') Z := by
  cases e : evs C cs ρ κ with
  | ok ds κ' => rw [e] at h; exact ⟨evs_len e, h⟩
  | exc x k => rw [e] at h; exact h
  | bad => rw [e] at h; exact h
/-- what a display's items leave -/
theorem sub_items {C : Option Addr} {F : Addr → Prop} {md : Nat → Nat} {σ : L2.St} {H : Hp} {ρ : List D} {κ : MP.K} {cs : Es} {α : Type} {f : List D → M α} {P : α → MP.K → Prop} (hb : okEs md cs = true) (s : Sit (W.rc X C) F md σ H ρ κ)
    (h : wpO (bnd (evs W.call cs ρ) f κ) P fun x κ' => ∀ H', Ext C H H' → Cup C H' κ' → W.XW x κ' H') {Q' : List V → Hp → Prop}
    (q : ∀ ds vs H' κ', ds.length = esLen cs → Ext C H H' → Sit (W.rc X C) F md σ H' ρ κ' → Reps (W.rc X C) H' F ds vs → wpO (f ds κ') P (fun x κ'' => ∀ H'', Ext C H' H'' → Cup C H'' κ'' → W.XW x κ'' H'') → Q' vs H') : tA W X cs σ H Q' := by
  refine ⟨C, F, md, ρ, κ, hb, s, ?_⟩
  refine wpO_mono (wpO_len (wpO_bnd h)) (fun ds κ' ⟨l, hd⟩ vs H' x cu r => ?_) fun x κ' hx => hx
  exact q ds vs H' κ' l x (s.ext x cu) r (wpO_mono hd (fun _ _ z => z) fun y κ'' hy H'' x' cu' => hy H'' (x.trans x') cu')
theorem se_tup {b : Bool} {es : List Expr} {cs : Es} {x1 pos} (h : SA W X es cs) (hl : esLen cs ≤ 1000) : SE W X b (.Tuple es x1 pos) (.tup cs) := by
  refine PE.imp (pe_tup h) fun σ H Q ⟨C, F, md, ρ, κ, hb, s, q⟩ => ?_
  refine sub_items (cs := cs) (f := fun ds => MP.ret (D.tup ds)) hb s q fun ds vs H1 κ1 l x1 s1 r1 q1 => ?_
  refine ⟨by rw [r1.length, l, sizeLine_eq]; omega, fun p hp => ?_⟩
  have q2 : ∀ v H', _ := q1
  exact q2 (.ref p) _ (x1.trans (Ext.upd hp)) (s1.cup.upd hp) (rep_new_tup hp r1).toB fun z => by cases z
theorem se_lst {b : Bool} {es : List Expr} {cs : Es} {pos} (h : SA W X es cs) (hl : esLen cs ≤ 1000) : SE W X b (.List es pos) (.lst cs) := by
  refine PE.imp (pe_lst h) fun σ H Q ⟨C, F, md, ρ, κ, hb, s, q⟩ => ?_
  refine sub_items (cs := cs) (f := fun ds => MP.ret (D.lst ds)) hb s q fun ds vs H1 κ1 l x1 s1 r1 q1 => ?_
  refine ⟨by rw [r1.length, l, sizeLine_eq]; omega, fun p hp => ?_⟩
  have q2 : ∀ v H', _ := q1
  refine q2 (.ref p) _ (x1.trans (Ext.upd hp)) (s1.cup.upd hp) (rep_new_lst hp s1.cup s1.fh r1).toB fun _ => ?_
  obtain ⟨a, ws, e, h, r⟩ := newT_lst hp s1.cup r1
  exact ⟨a, ws, e, x1.new s1.cup h, r⟩
end
end MP
set_option Elab.async false
set_option linter.all false
set_option maxRecDepth 100000
set_option maxHeartbeats 2000000
/-! MP4: == and !=, in, count, index. -/
namespace MP
open PySem PySem.Spec PyProof.Rows L2
/-- at a place: by a list of answers -/
def eqsAt (f : D → D → Option Bool) (xs ys : List D) (j : Nat) : Bool := match xs[j]?, ys[j]? with
  | some x, some y => (f x y).getD false
  | _, _ => false
theorem eqs_some {f : D → D → Option Bool} : ∀ {xs ys : List D} {b : Bool}, eqs f xs ys = some b →
    (∀ (j : Nat) (x y : D), xs[j]? = some x → ys[j]? = some y → f x y = some (eqsAt f xs ys j)) ∧ b = ((List.range (min xs.length ys.length)).all (eqsAt f xs ys) && xs.length == ys.length)
  | [], [], b, e => by simp only [eqs] at e; cases e; exact ⟨fun j x y h => by simp at h, rfl⟩
  | [], y :: ys, b, e => by simp only [eqs] at e; cases e; exact ⟨fun j x y h => by simp at h, by simp⟩
  | x :: xs, [], b, e => by simp only [eqs] at e; cases e; exact ⟨fun j x y _ h => by simp at h, by simp⟩
  | x :: xs, y :: ys, b, e => by
    simp only [eqs, Option.bind_eq_some_iff] at e
    obtain ⟨a, e1, c, e2, e3⟩ := e
    cases e3
    obtain ⟨h1, h2⟩ := eqs_some e2
    refine ⟨fun j x' y' hx hy => ?_, ?_⟩
    · cases j with
      | zero =>
        simp at hx hy; subst hx hy
        simp [eqsAt, e1]
      | succ j =>
        have := h1 j x' y' (by simpa using hx) (by simpa using hy)
        rw [this]
        simp [eqsAt]
    · have e4 : min (x :: xs).length (y :: ys).length = min xs.length ys.length + 1 := by simp only [List.length_cons]; omega
      rw [e4, List.range_succ_eq_map, List.all_cons, List.all_map]
      have e5 : (eqsAt f (x :: xs) (y :: ys)) 0 = a := by simp [eqsAt, e1]
      have e6 : (eqsAt f (x :: xs) (y :: ys) ∘ Nat.succ) = eqsAt f xs ys := by
        funext j; simp [eqsAt]
      rw [e5, e6, h2]
      have e7 : ((x :: xs).length == (y :: ys).length) = (xs.length == ys.length) := by
        simp only [List.length_cons]
        by_cases h : xs.length = ys.length
        · rw [h]; simp
        · have h' : ¬ xs.length + 1 = ys.length + 1 := by omega
          rw [beq_eq_false_iff_ne.mpr h, beq_eq_false_iff_ne.mpr h']
      rw [e7, Bool.and_assoc]
section
variable {X : Cx} {pins : List (Addr × Obj)} {σ : L2.St} {H : Hp} {s : Shared} {C : Option Addr} {fa : Nat → Option Addr} {kt : Bool} {F : Addr → Prop}
theorem repT_tup {R : Rc} {ds : List D} {v : V} (h : RepT R H F (.tup ds) v) : ∃ a vs, v = .ref a ∧ SqT R.K H a vs ∧ Reps R H F ds vs := by
  exact h
theorem str_inj {s t : List Nat} (e : (V.str ⟨s.toArray⟩) = V.str ⟨t.toArray⟩) : s = t := by
  have := congrArg (fun v : V => match v with | .str x => x.cps.toList | _ => []) e
  simpa using this
theorem SqL.ofRd {K : PySem.W.Frag} {a : Addr} {xs : List V} (h : H a = some (.lst xs)) : SqL K H a xs := .inl (.inl h)
theorem Inv.not_both (I : Inv X pins σ H s) {a : Addr} {xs ys : List V} (h : SqT X.K H a xs) (g : H a = some (.lst ys)) : False := by
  obtain ⟨its, r, p, _⟩ := I.tuple h
  obtain ⟨its2, r2, p2, _⟩ := I.list (SqL.ofRd (K := X.K) g)
  obtain ⟨o, e, c, _⟩ := p
  obtain ⟨o2, n, e2, c2, _⟩ := p2
  rw [e] at e2; cases e2
  rw [c] at c2
  injection c2 with z
  exact absurd z (by decide)
/-- one and the same object: equal -/
theorem eq_same (I : Inv X pins σ H s) : ∀ (n : Nat) (d e : D) (v : V) (b : Bool), eqF n d e = some b → RepT ⟨X.K, C, fa, kt⟩ H F d v → RepT ⟨X.K, C, fa, kt⟩ H F e v → b = true
  | 0, _, _, _, _, h, _, _ => by simp only [eqF] at h; cases h
  | n + 1, d, e, v, b, h, hd, he => by
    have many : ∀ (ds es : List D) (vs : List V) (b : Bool), eqs (eqF n) ds es = some b → Reps ⟨X.K, C, fa, kt⟩ H F ds vs → Reps ⟨X.K, C, fa, kt⟩ H F es vs → b = true := fun ds => by
      induction ds with
      | nil =>
        intro es vs b q r1 r2
        simp only [Reps] at r1; subst r1
        cases es with
        | nil => simp only [eqs] at q; cases q; rfl
        | cons y ys => simp only [Reps] at r2; obtain ⟨_, _, z, _⟩ := r2; cases z
      | cons x xs ih =>
        intro es vs b q r1 r2
        simp only [Reps] at r1
        obtain ⟨u, r, rfl, a1, a2⟩ := r1
        cases es with
        | nil => simp only [Reps] at r2; cases r2
        | cons y ys =>
          simp only [Reps] at r2
          obtain ⟨u', r', z, b1, b2⟩ := r2
          cases z
          simp only [eqs, Option.bind_eq_some_iff] at q
          obtain ⟨a, q1, c, q2, q3⟩ := q
          cases q3
          rw [eq_same I n x y u a q1 a1.top b1.top, ih ys r c q2 a2 b2]; rfl
    cases d <;> cases e <;> simp only [eqF] at h <;> first | (cases h; done) | skip
    all_goals first
      | (cases h; rfl)
      | (have h1 := hd; have h2 := he; simp only [RepT, Rep] at h1 h2; rw [h1] at h2; cases h2; cases h; simp; done)
      | (have h1 := hd; have h2 := he; simp only [RepT, Rep] at h1 h2; rw [h1] at h2; cases h2; done)
      | (have h1 := hd; have h2 := he; simp only [RepT, Rep] at h1 h2; obtain ⟨a, vs, z, _⟩ := h1; rw [z] at h2; cases h2; done)
      | (have h1 := hd; have h2 := he; simp only [RepT, Rep] at h1 h2; obtain ⟨a, vs, z, _⟩ := h2; rw [z] at h1; cases h1; done)
      | skip
    · obtain ⟨a, vs, rfl, q1, r1⟩ := repT_tup hd
      obtain ⟨a', vs', z, q2, r2⟩ := repT_tup he
      cases z
      rw [I.tuple_inj q2 q1] at r2
      exact many _ _ _ _ h r1 r2
    · obtain ⟨a, vs, rfl, q1, r1⟩ := repT_tup hd
      obtain ⟨a', vs', z, _, q2, r2⟩ := he
      cases z
      exact (Inv.not_both I q1 q2).elim
    · obtain ⟨a, vs, rfl, q1, r1⟩ := repT_tup he
      obtain ⟨a', vs', z, _, q2, r2⟩ := hd
      cases z
      exact (Inv.not_both I q1 q2).elim
    · obtain ⟨a, vs, rfl, _, q1, r1⟩ := hd
      obtain ⟨a', vs', z, _, q2, r2⟩ := he
      cases z
      rw [q1] at q2; cases q2
      rw [if_pos (by rw [← r1.length, ← r2.length])] at h
      exact many _ _ _ _ h r1 r2
/-- room for n calls below -/
abbrev Deep (A : Around) (n : Nat) : Prop := A.units + n < cLine
theorem deep_in {A : Around} {n : Nat} (h : Deep A (n + 1)) : Deep A.in1 n := by
  have : A.in1.units = A.units + 1 := rfl
  show A.in1.units + n < cLine
  rw [this]; have : A.units + (n + 1) < cLine := h; omega
theorem deep_here {A : Around} {n : Nat} (h : Deep A n) : A.units < cLine := by
  have : A.units + n < cLine := h
  omega
theorem items_at (xs : List Value) (j : Nat) (h : j < xs.toArray.size) : xs[j]? = some xs.toArray[j] := by simp at h ⊢
theorem str_eq (s t : List Nat) : ((⟨s.toArray⟩ : Str) == (⟨t.toArray⟩ : Str)) = (s == t) := by
  rw [← SeqAt.str_beq]
/-- two values, == and != -/
structure EqV (A : Around) (s : Shared) (u w : Value) (b : Bool) : Prop where
  eq : SeqAt.RcAt A s u w b
  ne : SeqAt.RcNeAt A s u w (!b)
theorem eq_seq (I : Inv X pins σ H s) {A : Around} {n : Nat} {ds es : List D} {vs ws : List V} {us us2 : List Value}
    (ih : ∀ (A : Around) (d e : D) (x y : V) (u w : Value) (b : Bool), Deep A n → eqF n d e = some b → RepT ⟨X.K, C, fa, kt⟩ H F d x → RepT ⟨X.K, C, fa, kt⟩ H F e y → RelV x u → RelV y w → SeqAt.EqAt A s u w b)
    (hu : Deep A (n + 1)) {b : Bool} (q : eqs (eqF n) ds es = some b) (r1 : Reps ⟨X.K, C, fa, kt⟩ H F ds vs) (r2 : Reps ⟨X.K, C, fa, kt⟩ H F es ws) (v1 : Vals vs us) (v2 : Vals ws us2) :
    (∀ j (h1 : j < us.toArray.size) (h2 : j < us2.toArray.size), SeqAt.EqAt A.in1 s us.toArray[j] us2.toArray[j] (eqsAt (eqF n) ds es j)) ∧
      b = ((List.range (min us.toArray.size us2.toArray.size)).all (eqsAt (eqF n) ds es) && us.toArray.size == us2.toArray.size) ∧ us.length = ds.length ∧ us2.length = es.length := by
  obtain ⟨h1, h2⟩ := eqs_some q
  have l1 : us.length = ds.length := by rw [← v1.length, r1.length]
  have l2 : us2.length = es.length := by rw [← v2.length, r2.length]
  refine ⟨fun j g1 g2 => ?_, ?_, l1, l2⟩
  · have k1 : j < ds.length := by simpa [l1] using g1
    have k2 : j < es.length := by simpa [l2] using g2
    obtain ⟨x, ex, rx⟩ := r1.get (List.getElem?_eq_getElem k1)
    obtain ⟨y, ey, ry⟩ := r2.get (List.getElem?_eq_getElem k2)
    obtain ⟨u, eu, ru⟩ := v1.get ex
    obtain ⟨w, ew, rw'⟩ := v2.get ey
    have e1 : us.toArray[j] = u := by
      have := items_at us j g1
      rw [eu] at this; exact (Option.some.inj this).symm
    have e2 : us2.toArray[j] = w := by
      have := items_at us2 j g2
      rw [ew] at this; exact (Option.some.inj this).symm
    rw [e1, e2]
    exact ih A.in1 _ _ x y u w _ (deep_in hu) (h1 j _ _ (List.getElem?_eq_getElem k1) (List.getElem?_eq_getElem k2)) rx.top ry.top ru rw'
  · rw [h2]; simp [l1, l2]
theorem eqV_of (I : Inv X pins σ H s) : ∀ (n : Nat), (∀ (A : Around) (d e : D) (x y : V) (u w : Value) (b : Bool), Deep A n → eqF n d e = some b → RepT ⟨X.K, C, fa, kt⟩ H F d x → RepT ⟨X.K, C, fa, kt⟩ H F e y → RelV x u → RelV y w → EqV A s u w b) ∧
    (∀ (A : Around) (d e : D) (x y : V) (u w : Value) (b : Bool), Deep A n → eqF n d e = some b → RepT ⟨X.K, C, fa, kt⟩ H F d x → RepT ⟨X.K, C, fa, kt⟩ H F e y → RelV x u → RelV y w → SeqAt.EqAt A s u w b)
  | 0 => ⟨fun A d e x y u w b _ h => (by simp only [eqF] at h; cases h), fun A d e x y u w b _ h => (by simp only [eqF] at h; cases h)⟩
  | n + 1 => by
    obtain ⟨_, ih⟩ := eqV_of I n
    have here : ∀ (A : Around) (d e : D) (x y : V) (u w : Value) (b : Bool), Deep A (n + 1) → eqF (n + 1) d e = some b → RepT ⟨X.K, C, fa, kt⟩ H F d x → RepT ⟨X.K, C, fa, kt⟩ H F e y → RelV x u → RelV y w → EqV A s u w b := by
      intro A d e x y u w b hu h hd he rx ry
      have hh := deep_here hu
      cases d with
      | tup ds =>
        obtain ⟨a, vs, rfl, q1, r1⟩ := repT_tup hd
        obtain ⟨its, v1, p1, _⟩ := I.tuple q1
        have p1' : s.heap.IsTuple a its.toArray := p1
        cases rx
        cases e with
        | tup es =>
          obtain ⟨a2, vs2, rfl, q2, r2⟩ := repT_tup he
          obtain ⟨its2, v2, p2, _⟩ := I.tuple q2
          have p2' : s.heap.IsTuple a2 its2.toArray := p2
          cases ry
          have h' : eqs (eqF n) ds es = some b := by simpa only [eqF] using h
          obtain ⟨g1, g2, _, _⟩ := eq_seq I ih hu h' r1 r2 v1 v2
          rw [g2]
          exact ⟨SeqAt.RcAt.tuples p1' p2' hh g1, SeqAt.RcNeAt.tuples p1' p2' hh g1⟩
        | lst es =>
          obtain ⟨a2, vs2, rfl, _, q2, r2⟩ := he
          obtain ⟨its2, v2, p2, _⟩ := I.list (SqL.ofRd (K := X.K) q2)
          cases ry
          simp only [eqF] at h; cases h
          exact ⟨SeqAt.RcAt.tuple_list p1' p2.isList hh, SeqAt.RcNeAt.tuple_list p1' p2.isList hh⟩
        | non => simp only [eqF] at h; cases h; simp only [RepT, Rep] at he; subst he; cases ry; exact ⟨SeqAt.RcAt.tuple_none p1' hh, SeqAt.RcNeAt.tuple_none p1' hh⟩
        | bl k => simp only [eqF] at h; cases h; simp only [RepT, Rep] at he; subst he; cases ry; exact ⟨SeqAt.RcAt.tuple_bool k p1' hh, SeqAt.RcNeAt.tuple_bool k p1' hh⟩
        | int k => simp only [eqF] at h; cases h; simp only [RepT, Rep] at he; subst he; obtain ⟨t, rfl⟩ := ry; exact ⟨SeqAt.RcAt.tuple_int k t p1' hh, SeqAt.RcNeAt.tuple_int k t p1' hh⟩
        | str k => simp only [eqF] at h; cases h; simp only [RepT, Rep] at he; subst he; obtain ⟨t, rfl⟩ := ry; exact ⟨SeqAt.RcAt.tuple_str _ t p1' hh, SeqAt.RcNeAt.tuple_str _ t p1' hh⟩
        | _ => simp only [eqF] at h; cases h
      | lst ds =>
        obtain ⟨a, vs, rfl, _, q1, r1⟩ := hd
        obtain ⟨its, v1, p1, _⟩ := I.list (SqL.ofRd (K := X.K) q1)
        have p1' := p1.isList
        cases rx
        cases e with
        | lst es =>
          obtain ⟨a2, vs2, rfl, _, q2, r2⟩ := he
          obtain ⟨its2, v2, p2, _⟩ := I.list (SqL.ofRd (K := X.K) q2)
          have p2' := p2.isList
          cases ry
          simp only [eqF] at h
          by_cases hl : ds.length = es.length
          · rw [if_pos hl] at h
            obtain ⟨g1, g2, l1, l2⟩ := eq_seq I ih hu h r1 r2 v1 v2
            have hsz : its.toArray.size = its2.toArray.size := by simp [l1, l2, hl]
            have g3 : b = (List.range its.toArray.size).all (eqsAt (eqF n) ds es) := by
              rw [g2, hsz, Nat.min_self]; simp
            rw [g3]
            exact ⟨SeqAt.RcAt.lists p1' p2' hsz hh g1, SeqAt.RcNeAt.lists p1' p2' hsz hh g1⟩
          · rw [if_neg hl] at h
            cases h
            have l1 : its.length = ds.length := by rw [← v1.length, r1.length]
            have l2 : its2.length = es.length := by rw [← v2.length, r2.length]
            have hsz : (its.toArray.size != its2.toArray.size) = true := by simp [l1, l2, hl]
            exact ⟨SeqAt.RcAt.lists_lengths p1' p2' hsz hh, SeqAt.RcNeAt.lists_lengths p1' p2' hsz hh⟩
        | tup es =>
          obtain ⟨a2, vs2, rfl, q2, r2⟩ := repT_tup he
          obtain ⟨its2, v2, p2, _⟩ := I.tuple q2
          have p2' : s.heap.IsTuple a2 its2.toArray := p2
          cases ry
          simp only [eqF] at h; cases h
          exact ⟨SeqAt.RcAt.list_tuple p1' p2' hh, SeqAt.RcNeAt.list_tuple p1' p2' hh⟩
        | non => simp only [eqF] at h; cases h; simp only [RepT, Rep] at he; subst he; cases ry; exact ⟨SeqAt.RcAt.list_none p1' hh, SeqAt.RcNeAt.list_none p1' hh⟩
        | bl k => simp only [eqF] at h; cases h; simp only [RepT, Rep] at he; subst he; cases ry; exact ⟨SeqAt.RcAt.list_bool k p1' hh, SeqAt.RcNeAt.list_bool k p1' hh⟩
        | int k => simp only [eqF] at h; cases h; simp only [RepT, Rep] at he; subst he; obtain ⟨t, rfl⟩ := ry; exact ⟨SeqAt.RcAt.list_int k t p1' hh, SeqAt.RcNeAt.list_int k t p1' hh⟩
        | str k => simp only [eqF] at h; cases h; simp only [RepT, Rep] at he; subst he; obtain ⟨t, rfl⟩ := ry; exact ⟨SeqAt.RcAt.list_str _ t p1' hh, SeqAt.RcNeAt.list_str _ t p1' hh⟩
        | _ => simp only [eqF] at h; cases h
      | non =>
        simp only [RepT, Rep] at hd; subst hd; cases rx
        cases e with
        | tup es =>
          obtain ⟨a2, vs2, rfl, q2, r2⟩ := repT_tup he
          obtain ⟨its2, v2, p2, _⟩ := I.tuple q2
          cases ry; simp only [eqF] at h; cases h
          exact ⟨SeqAt.RcAt.none_tuple p2 hh, SeqAt.RcNeAt.none_tuple p2 hh⟩
        | lst es =>
          obtain ⟨a2, vs2, rfl, _, q2, r2⟩ := he
          obtain ⟨its2, v2, p2, _⟩ := I.list (SqL.ofRd (K := X.K) q2)
          cases ry; simp only [eqF] at h; cases h
          exact ⟨SeqAt.RcAt.none_list p2.isList hh, SeqAt.RcNeAt.none_list p2.isList hh⟩
        | non => simp only [eqF] at h; cases h; simp only [RepT, Rep] at he; subst he; cases ry; exact ⟨SeqAt.RcAt.none_none, SeqAt.RcNeAt.none_none⟩
        | bl k => simp only [eqF] at h; cases h; simp only [RepT, Rep] at he; subst he; cases ry; exact ⟨SeqAt.RcAt.none_bool k, SeqAt.RcNeAt.none_bool k⟩
        | int k => simp only [eqF] at h; cases h; simp only [RepT, Rep] at he; subst he; obtain ⟨t, rfl⟩ := ry; exact ⟨SeqAt.RcAt.none_int k t, SeqAt.RcNeAt.none_int k t⟩
        | str k => simp only [eqF] at h; cases h; simp only [RepT, Rep] at he; subst he; obtain ⟨t, rfl⟩ := ry; exact ⟨SeqAt.RcAt.none_str _ t, SeqAt.RcNeAt.none_str _ t⟩
        | _ => simp only [eqF] at h; cases h
      | bl i =>
        simp only [RepT, Rep] at hd; subst hd; cases rx
        cases e with
        | tup es =>
          obtain ⟨a2, vs2, rfl, q2, r2⟩ := repT_tup he
          obtain ⟨its2, v2, p2, _⟩ := I.tuple q2
          cases ry; simp only [eqF] at h; cases h
          exact ⟨SeqAt.RcAt.bool_tuple i p2 hh, SeqAt.RcNeAt.bool_tuple i p2 hh⟩
        | lst es =>
          obtain ⟨a2, vs2, rfl, _, q2, r2⟩ := he
          obtain ⟨its2, v2, p2, _⟩ := I.list (SqL.ofRd (K := X.K) q2)
          cases ry; simp only [eqF] at h; cases h
          exact ⟨SeqAt.RcAt.bool_list i p2.isList hh, SeqAt.RcNeAt.bool_list i p2.isList hh⟩
        | non => simp only [eqF] at h; cases h; simp only [RepT, Rep] at he; subst he; cases ry; exact ⟨SeqAt.RcAt.bool_none i, SeqAt.RcNeAt.bool_none i⟩
        | bl k => simp only [eqF] at h; cases h; simp only [RepT, Rep] at he; subst he; cases ry; exact ⟨SeqAt.RcAt.bool_bool i k, SeqAt.RcNeAt.bool_bool i k⟩
        | int k => simp only [eqF] at h; cases h; simp only [RepT, Rep] at he; subst he; obtain ⟨t, rfl⟩ := ry; exact ⟨SeqAt.RcAt.bool_int i k t, SeqAt.RcNeAt.bool_int i k t⟩
        | str k => simp only [eqF] at h; cases h; simp only [RepT, Rep] at he; subst he; obtain ⟨t, rfl⟩ := ry; exact ⟨SeqAt.RcAt.bool_str i _ t, SeqAt.RcNeAt.bool_str i _ t⟩
        | _ => simp only [eqF] at h; cases h
      | int i =>
        simp only [RepT, Rep] at hd; subst hd; obtain ⟨t1, rfl⟩ := rx
        cases e with
        | tup es =>
          obtain ⟨a2, vs2, rfl, q2, r2⟩ := repT_tup he
          obtain ⟨its2, v2, p2, _⟩ := I.tuple q2
          cases ry; simp only [eqF] at h; cases h
          exact ⟨SeqAt.RcAt.int_tuple i t1 p2 hh, SeqAt.RcNeAt.int_tuple i t1 p2 hh⟩
        | lst es =>
          obtain ⟨a2, vs2, rfl, _, q2, r2⟩ := he
          obtain ⟨its2, v2, p2, _⟩ := I.list (SqL.ofRd (K := X.K) q2)
          cases ry; simp only [eqF] at h; cases h
          exact ⟨SeqAt.RcAt.int_list i t1 p2.isList hh, SeqAt.RcNeAt.int_list i t1 p2.isList hh⟩
        | non => simp only [eqF] at h; cases h; simp only [RepT, Rep] at he; subst he; cases ry; exact ⟨SeqAt.RcAt.int_none i t1, SeqAt.RcNeAt.int_none i t1⟩
        | bl k => simp only [eqF] at h; cases h; simp only [RepT, Rep] at he; subst he; cases ry; exact ⟨SeqAt.RcAt.int_bool i t1 k, SeqAt.RcNeAt.int_bool i t1 k⟩
        | int k => simp only [eqF] at h; cases h; simp only [RepT, Rep] at he; subst he; obtain ⟨t, rfl⟩ := ry; exact ⟨SeqAt.RcAt.int_int i t1 k t, SeqAt.RcNeAt.int_int i t1 k t⟩
        | str k => simp only [eqF] at h; cases h; simp only [RepT, Rep] at he; subst he; obtain ⟨t, rfl⟩ := ry; exact ⟨SeqAt.RcAt.int_str i t1 _ t, SeqAt.RcNeAt.int_str i t1 _ t⟩
        | _ => simp only [eqF] at h; cases h
      | str i =>
        simp only [RepT, Rep] at hd; subst hd; obtain ⟨t1, rfl⟩ := rx
        cases e with
        | tup es =>
          obtain ⟨a2, vs2, rfl, q2, r2⟩ := repT_tup he
          obtain ⟨its2, v2, p2, _⟩ := I.tuple q2
          cases ry; simp only [eqF] at h; cases h
          exact ⟨SeqAt.RcAt.str_tuple _ t1 p2 hh, SeqAt.RcNeAt.str_tuple _ t1 p2 hh⟩
        | lst es =>
          obtain ⟨a2, vs2, rfl, _, q2, r2⟩ := he
          obtain ⟨its2, v2, p2, _⟩ := I.list (SqL.ofRd (K := X.K) q2)
          cases ry; simp only [eqF] at h; cases h
          exact ⟨SeqAt.RcAt.str_list _ t1 p2.isList hh, SeqAt.RcNeAt.str_list _ t1 p2.isList hh⟩
        | non => simp only [eqF] at h; cases h; simp only [RepT, Rep] at he; subst he; cases ry; exact ⟨SeqAt.RcAt.str_none _ t1, SeqAt.RcNeAt.str_none _ t1⟩
        | bl k => simp only [eqF] at h; cases h; simp only [RepT, Rep] at he; subst he; cases ry; exact ⟨SeqAt.RcAt.str_bool _ t1 k, SeqAt.RcNeAt.str_bool _ t1 k⟩
        | int k => simp only [eqF] at h; cases h; simp only [RepT, Rep] at he; subst he; obtain ⟨t, rfl⟩ := ry; exact ⟨SeqAt.RcAt.str_int _ t1 k t, SeqAt.RcNeAt.str_int _ t1 k t⟩
        | str k =>
          simp only [eqF] at h; cases h; simp only [RepT, Rep] at he; subst he; obtain ⟨t, rfl⟩ := ry
          rw [← str_eq]
          exact ⟨SeqAt.RcAt.str_str _ t1 _ t, SeqAt.RcNeAt.str_str _ t1 _ t⟩
        | _ => simp only [eqF] at h; cases h
      | _ => cases e <;> simp only [eqF] at h <;> cases h
    refine ⟨here, fun A d e x y u w b hu h hd he rx ry => ?_⟩
    have k := here A d e x y u w b hu h hd he rx ry
    have same : u = w → b = true := fun z => by
      subst z
      have := rx.inj ry
      subst this
      exact eq_same I (n + 1) d e x b h hd he
    intro prog w' E Q hq
    unfold eqBool
    refine wpAny_holding ?_
    refine wpAny_ite_split (fun hab => ?_) (fun _ => ?_)
    · rw [same (eq_of_beq hab)] at hq
      exact wpAny_bind (wpAny_rule (wpAny_pure hq))
    · have nf : ∀ f t, u ≠ .float f t := fun f t z => by
        subst z
        cases x <;> first | (obtain ⟨_, z⟩ := rx; cases z; done) | (cases rx; done) | skip
        cases d <;> first | (simp only [RepT, Rep] at hd; cases hd; done) | (simp only [RepT, Rep] at hd; done) | (obtain ⟨_, _, z, _⟩ := repT_tup hd; cases z; done) | (obtain ⟨_, _, z, _⟩ := hd; cases z; done) | (simp only [RepT, Rep] at hd; obtain ⟨_, z, _⟩ := hd; cases z; done) | (simp only [RepT, Rep] at hd; obtain ⟨_, _, z⟩ := hd; cases z; done) | (simp only [RepT, Rep] at hd; obtain ⟨_, _, z, _⟩ := hd; cases z; done)
      cases u with
      | float f t => exact absurd rfl (nf f t)
      | _ => exact wpAny_bind (k.eq prog w' E _ (wpAny_truthy_bool hq))
end
end MP
set_option Elab.async false
set_option linter.all false
set_option maxRecDepth 100000
set_option maxHeartbeats 2000000
/-! MP5: operators. -/
namespace MP
open PySem PySem.Spec PyProof.Rows L2
/-- an operator by values: what its rule asks -/
def Ok2 (W : Wc) (X : Cx) (fr : Bool) (o : Op2) (r : R2) : Prop :=
  ∀ (C : Option Addr) (F : Addr → Prop) (H : Hp) (κ : MP.K) (Q : VK) (x y d : D) (u v : V), (∀ c, C = some c → F c) → (∀ a, F a → H a ≠ none) → Cup C H κ →
    RepB (al2 o) (W.rc X C) H F x u → RepB (al2 o) (W.rc X C) H F y v → op2M o x y κ = .ok d κ →
    (∀ w H', Ext C H H' → Cup C H' κ → Rep (W.rc X C) H' F d w → (fr = true → NewT (W.rc X C) H H' F d w) → Q w H') → r u v H Q
def Ok1 (W : Wc) (X : Cx) (fr : Bool) (o : Op1) (r : V → Hp → VK → Prop) : Prop :=
  ∀ (C : Option Addr) (F : Addr → Prop) (H : Hp) (κ : MP.K) (Q : VK) (x d : D) (u : V), (∀ c, C = some c → F c) → (∀ a, F a → H a ≠ none) → Cup C H κ →
    RepB (al1 o) (W.rc X C) H F x u → op1 o x = some d →
    (∀ w H', Ext C H H' → Cup C H' κ → Rep (W.rc X C) H' F d w → (fr = true → NewT (W.rc X C) H H' F d w) → Q w H') → r u H Q
theorem opt_or {α : Type} (o : Option α) {κ : MP.K} : (∃ d, opt o κ = Out.ok d κ) ∨ opt o κ = Out.bad := by
  cases o with
  | none => exact .inr rfl
  | some d => exact .inl ⟨d, rfl⟩
theorem op2M_ok {o : Op2} {x y : D} {κ : MP.K} : (∃ d, op2M o x y κ = .ok d κ) ∨ op2M o x y κ = .bad := opt_or (op2K o x y κ)
theorem newTop_up {R : Rc} {H H' H2 : Hp} {F : Addr → Prop} {κ : MP.K} {d : D} {w : V} (x : Ext R.C H H') (c : Cup R.C H' κ) (n : NewT R H' H2 F d w) : NewT R H H2 F d w := by
  cases d <;> first | trivial | (obtain ⟨a, vs, e, h, r⟩ := n; exact ⟨a, vs, e, x.new c h, r⟩)
section
variable {W : Wc} {X : Cx}
theorem se_o2 {bb : Bool} {e : Expr} {o : Op2} {a b : E} {r : R2} (h : PE X e (tOp r (tE W X (al2 o) a) (tE W X (al2 o) b))) (hk : Ok2 W X (frE W.fr (.op2 o a b)) o r) : SE W X bb e (.op2 o a b) := by
  refine PE.imp h fun σ H Q ⟨C, F, md, ρ, κ, hb, s, q⟩ => ?_
  have hb' : okB (al2 o) md a = true ∧ okB (al2 o) md b = true := Bool.and_eq_true_iff.mp hb
  refine sub (b := al2 o) (c := a) (f := fun x => bnd (ev W.call b ρ) fun y => op2M o x y) hb'.1 s q fun x u H1 κ1 x1 s1 r1 _ q1 => ?_
  refine sub (b := al2 o) (c := b) (f := fun y => op2M o x y) hb'.2 s1 q1 fun y v H2 κ2 x2 s2 r2 _ q2 => ?_
  rcases op2M_ok (o := o) (x := x) (y := y) (κ := κ2) with ⟨d, e⟩ | e
  · rw [e] at q2
    refine hk C F H2 κ2 Q x y d u v s2.cf s2.fh s2.cup (RepB.ext x2 r1) r2 e fun w H3 x3 c3 r3 n3 => ?_
    have q3 : ∀ v H', _ := q2
    exact q3 w H3 ((x1.trans x2).trans x3) c3 r3.toB fun z => newTop_up (R := W.rc X C) (x1.trans x2) s2.cup (n3 z)
  · rw [e] at q2; exact False.elim q2
theorem se_o1 {bb : Bool} {e : Expr} {o : Op1} {a : E} {r : V → Hp → VK → Prop} (h : PE X e (fun σ H Q => tE W X (al1 o) a σ H fun x H1 => r x H1 Q)) (hk : Ok1 W X (frE W.fr (.op1 o a)) o r) : SE W X bb e (.op1 o a) := by
  refine PE.imp h fun σ H Q ⟨C, F, md, ρ, κ, hb, s, q⟩ => ?_
  refine sub (b := al1 o) (c := a) (f := fun x => opt (op1 o x)) hb s q fun x u H1 κ1 x1 s1 r1 _ q1 => ?_
  obtain ⟨d, e, q2⟩ := wpO_opt q1
  refine hk C F H1 κ1 Q x d u s1.cf s1.fh s1.cup r1 e fun w H3 x3 c3 r3 n3 => ?_
  exact q2 w H3 (x1.trans x3) c3 r3.toB fun z => newTop_up (R := W.rc X C) x1 s1.cup (n3 z)
theorem opt_ok {α : Type} {o : Option α} {κ : MP.K} {d : α} (h : opt o κ = .ok d κ) : o = some d := by
  cases o with
  | none => cases h
  | some a => cases h; rfl
/-! inversions -/
theorem rT_int {R : Rc} {H : Hp} {F : Addr → Prop} {i : Int} {v : V} (h : RepT R H F (.int i) v) : v = .int i := by simpa only [RepT, Rep] using h
theorem rT_str {R : Rc} {H : Hp} {F : Addr → Prop} {i : List Nat} {v : V} (h : RepT R H F (.str i) v) : v = .str ⟨i.toArray⟩ := by simpa only [RepT, Rep] using h
theorem rT_bl {R : Rc} {H : Hp} {F : Addr → Prop} {i : Bool} {v : V} (h : RepT R H F (.bl i) v) : v = .bl i := by simpa only [RepT, Rep] using h
theorem rT_non {R : Rc} {H : Hp} {F : Addr → Prop} {v : V} (h : RepT R H F .non v) : v = .non := by simpa only [RepT, Rep] using h
theorem rT_rng {R : Rc} {H : Hp} {F : Addr → Prop} {lo hi : Int} {v : V} (h : RepT R H F (.rng lo hi) v) : ∃ a, v = .ref a ∧ H a = some (.rng lo hi) := by simpa only [RepT, Rep] using h
theorem rep_tup {R : Rc} {H : Hp} {F : Addr → Prop} {ds : List D} {v : V} (h : Rep R H F (.tup ds) v) : ∃ a vs, v = .ref a ∧ TupAt R H a vs ∧ Reps R H F ds vs := by simpa only [Rep] using h
theorem rep_int {R : Rc} {H : Hp} {F : Addr → Prop} {i : Int} : Rep R H F (.int i) (.int i) := by simp only [Rep]
theorem rep_bl {R : Rc} {H : Hp} {F : Addr → Prop} {i : Bool} : Rep R H F (.bl i) (.bl i) := by simp only [Rep]
theorem rep_non {R : Rc} {H : Hp} {F : Addr → Prop} : Rep R H F .non .non := by simp only [Rep]
theorem rep_str {R : Rc} {H : Hp} {F : Addr → Prop} {i : List Nat} : Rep R H F (.str i) (.str ⟨i.toArray⟩) := by simp only [Rep]
theorem line_eq : sizeLine = line := sizeLine_eq
theorem str_len (s : List Nat) : (⟨s.toArray⟩ : Str).length = s.length := by simp [Str.length]
theorem str_app (s t : List Nat) : (⟨s.toArray⟩ : Str) ++ (⟨t.toArray⟩ : Str) = ⟨(s ++ t).toArray⟩ := by
  show (⟨s.toArray ++ t.toArray⟩ : Str) = _
  simp
abbrev rAddI : R2 := rI0 fun i j => .int (i + j)
def rAddS : R2 := fun x y H Q => ∃ i j, x = .str i ∧ y = .str j ∧ i.length + j.length ≤ sizeLine ∧ Q (.str (i ++ j)) H
def rAdd (K : PySem.W.Frag) : R2 := fun x y H Q => rAddI x y H Q ∨ rAddS x y H Q ∨ rCatA K x y H Q ∨ rCat x y H Q
theorem op_addAll : OpR X (binaryOp .Add) (rAdd X.K) := OpR.or op_add (OpR.or (r := rAddS) op_add_str (OpR.or op_catA op_cat))
theorem ok_add : Ok2 W X true .add (rAdd X.K) := by
  intro C F H κ Q x y d u v cf fh cu rx ry h q
  have rx : Rep (W.rc X C) H F x u := rx
  have ry : Rep (W.rc X C) H F y v := ry
  have h := opt_ok (show opt (addD x y) κ = .ok d κ from h)
  unfold addD at h
  split at h
  · cases h; rw [rT_int rx.top, rT_int ry.top]
    exact .inl ⟨_, _, rfl, rfl, q _ H Ext.refl cu rep_int fun _ => trivial⟩
  · split at h
    · rename_i hz
      cases h; rw [rT_str rx.top, rT_str ry.top]
      refine .inr (.inl ⟨_, _, rfl, rfl, by rw [str_len, str_len, line_eq]; exact hz, ?_⟩)
      rw [str_app]
      exact q _ H Ext.refl cu rep_str fun _ => trivial
    · cases h
  · split at h
    · rename_i hz
      cases h
      obtain ⟨a, vs, rfl, s1, r1⟩ := rep_tup rx
      obtain ⟨b, ws, rfl, s2, r2⟩ := rep_tup ry
      have r3 := r1.append r2
      refine .inr (.inr (.inl ⟨a, b, vs, ws, rfl, rfl, s1.sq, s2.sq, by rw [r1.length, r2.length, line_eq]; exact hz, fun e => ?_, fun _ e => ?_, fun _ _ p hp => ?_⟩))
      · subst e
        exact q _ H Ext.refl cu (by simp only [Rep]; exact ⟨b, ws, rfl, s2, r3⟩) fun _ => trivial
      · subst e
        rw [List.append_nil] at r3
        exact q _ H Ext.refl cu (by simp only [Rep]; exact ⟨a, vs, rfl, s1, r3⟩) fun _ => trivial
      · exact q _ _ (Ext.upd hp) (cu.upd hp) (rep_new_tup hp r3) fun _ => trivial
    · cases h
  · split at h
    · rename_i hz
      cases h
      obtain ⟨a, vs, rfl, _, s1, r1⟩ := Rep.top rx
      obtain ⟨b, ws, rfl, _, s2, r2⟩ := Rep.top ry
      refine .inr (.inr (.inr ⟨a, b, vs, ws, rfl, rfl, s1, s2, by rw [r1.length, r2.length, line_eq]; exact hz, fun p hp => ?_⟩))
      exact q _ _ (Ext.upd hp) (cu.upd hp) (rep_new_lst hp cu fh (r1.append r2)) fun _ => newT_lst hp cu (r1.append r2)
    · cases h
  · cases h
theorem ok_sub {fr : Bool} : Ok2 W X fr .sub (rI0 fun i j => .int (i - j)) := by
  intro C F H κ Q x y d u v cf fh cu rx ry h q
  have rx := RepB.top rx
  have ry := RepB.top ry
  have h := opt_ok (show opt (subD x y) κ = .ok d κ from h)
  unfold subD at h
  split at h
  · cases h; rw [rT_int rx, rT_int ry]
    exact ⟨_, _, rfl, rfl, q _ H Ext.refl cu rep_int fun _ => trivial⟩
  · cases h
theorem ok_fdiv {fr : Bool} : Ok2 W X fr .fdiv (rI CDiv fun i j => .int (i / j)) := by
  intro C F H κ Q x y d u v cf fh cu rx ry h q
  have rx := RepB.top rx
  have ry := RepB.top ry
  have h := opt_ok (show opt (fdivD x y) κ = .ok d κ from h)
  unfold fdivD at h
  split at h
  · split at h
    · rename_i hz
      cases h; rw [rT_int rx, rT_int ry]
      exact ⟨_, _, rfl, rfl, hz, q _ H Ext.refl cu rep_int fun _ => trivial⟩
    · cases h
  · cases h
theorem ok_mod {fr : Bool} : Ok2 W X fr .mod (rI (fun _ j => 0 < j) fun i j => .int (i % j)) := by
  intro C F H κ Q x y d u v cf fh cu rx ry h q
  have rx := RepB.top rx
  have ry := RepB.top ry
  have h := opt_ok (show opt (modD x y) κ = .ok d κ from h)
  unfold modD at h
  split at h
  · split at h
    · rename_i hz
      cases h; rw [rT_int rx, rT_int ry]
      exact ⟨_, _, rfl, rfl, hz, q _ H Ext.refl cu rep_int fun _ => trivial⟩
    · cases h
  · cases h
theorem ok_pow {fr : Bool} : Ok2 W X fr .pow (rI CPow fun i j => .int (i ^ j.toNat)) := by
  intro C F H κ Q x y d u v cf fh cu rx ry h q
  have rx := RepB.top rx
  have ry := RepB.top ry
  have h := opt_ok (show opt (powD x y) κ = .ok d κ from h)
  unfold powD at h
  split at h
  · split at h
    · rename_i hz
      cases h; rw [rT_int rx, rT_int ry]
      exact ⟨_, _, rfl, rfl, hz, q _ H Ext.refl cu rep_int fun _ => trivial⟩
    · cases h
  · cases h
/-- comparisons of intL -/
theorem ok_le {fr : Bool} : Ok2 W X fr .le (rI0 fun i j => .bl (decide (i ≤ j))) := by
  intro C F H κ Q x y d u v cf fh cu rx ry h q
  have rx := RepB.top rx
  have ry := RepB.top ry
  have h := opt_ok (show opt (leD x y) κ = .ok d κ from h)
  unfold leD at h
  split at h
  · cases h; rw [rT_int rx, rT_int ry]
    exact ⟨_, _, rfl, rfl, q _ H Ext.refl cu rep_bl fun _ => trivial⟩
  · cases h
theorem ok_lt {fr : Bool} : Ok2 W X fr .lt (rI0 fun i j => .bl (decide (i < j))) := by
  intro C F H κ Q x y d u v cf fh cu rx ry h q
  have rx := RepB.top rx
  have ry := RepB.top ry
  have h := opt_ok (show opt (ltDD x y) κ = .ok d κ from h)
  unfold ltDD at h
  split at h
  · cases h; rw [rT_int rx, rT_int ry]
    exact ⟨_, _, rfl, rfl, q _ H Ext.refl cu rep_bl fun _ => trivial⟩
  · cases h
theorem ok_gt {fr : Bool} : Ok2 W X fr .gt (rI0 fun i j => .bl (decide (j < i))) := by
  intro C F H κ Q x y d u v cf fh cu rx ry h q
  have rx := RepB.top rx
  have ry := RepB.top ry
  have h := opt_ok (show opt (gtD x y) κ = .ok d κ from h)
  unfold gtD at h
  split at h
  · cases h; rw [rT_int rx, rT_int ry]
    exact ⟨_, _, rfl, rfl, q _ H Ext.refl cu rep_bl fun _ => trivial⟩
  · cases h
theorem ok_ge {fr : Bool} : Ok2 W X fr .ge (rI0 fun i j => .bl (decide (j ≤ i))) := by
  intro C F H κ Q x y d u v cf fh cu rx ry h q
  have rx := RepB.top rx
  have ry := RepB.top ry
  have h := opt_ok (show opt (geD x y) κ = .ok d κ from h)
  unfold geD at h
  split at h
  · cases h; rw [rT_int rx, rT_int ry]
    exact ⟨_, _, rfl, rfl, q _ H Ext.refl cu rep_bl fun _ => trivial⟩
  · cases h
/-- ==, != -/
def rEqA (W : Wc) (X : Cx) (neg : Bool) : R2 := fun u v H Q => ∃ C F x y b, eqD x y = some b ∧ RepT (W.rc X C) H F x u ∧ RepT (W.rc X C) H F y v ∧ Q (.bl (if neg then !b else b)) H
theorem op_eqA (hu : X.A.units + 64 < cLine) : OpR X (compareOp .Eq) (rEqA W X false) := by
  intro pins s σ H x y v u Q I rx ry h
  obtain ⟨C, F, d, e, b, hd, r1, r2, q⟩ := h
  exact ((eqV_of I 64).1 X.A d e x y v u b hu hd r1 r2 rx ry).eq _ _ _ _ ⟨.bl b, H, I, rfl, q⟩
theorem op_neA (hu : X.A.units + 64 < cLine) : OpR X (compareOp .NotEq) (rEqA W X true) := by
  intro pins s σ H x y v u Q I rx ry h
  obtain ⟨C, F, d, e, b, hd, r1, r2, q⟩ := h
  exact ((eqV_of I 64).1 X.A d e x y v u b hu hd r1 r2 rx ry).ne _ _ _ _ ⟨.bl (!b), H, I, rfl, q⟩
theorem ok_eq {fr : Bool} : Ok2 W X fr .eq (rEqA W X false) := by
  intro C F H κ Q x y d u v cf fh cu rx ry h q
  have rx := RepB.top rx
  have ry := RepB.top ry
  have h := opt_ok (show opt ((eqD x y).map D.bl) κ = .ok d κ from h)
  obtain ⟨b, e, rfl⟩ := Option.map_eq_some_iff.mp h
  exact ⟨C, F, x, y, b, e, rx, ry, q _ H Ext.refl cu rep_bl fun _ => trivial⟩
theorem ok_ne {fr : Bool} : Ok2 W X fr .ne (rEqA W X true) := by
  intro C F H κ Q x y d u v cf fh cu rx ry h q
  have rx := RepB.top rx
  have ry := RepB.top ry
  have h := opt_ok (show opt ((eqD x y).map fun b => D.bl (!b)) κ = .ok d κ from h)
  obtain ⟨b, e, rfl⟩ := Option.map_eq_some_iff.mp h
  exact ⟨C, F, x, y, b, e, rx, ry, q _ H Ext.refl cu rep_bl fun _ => trivial⟩
end
end MP
set_option Elab.async false
set_option linter.all false
set_option maxRecDepth 100000
set_option maxHeartbeats 2000000
/-! MP6: in, count, index. -/
namespace MP
open PySem PySem.Spec PyProof.Rows L2
section
variable {X : Cx} {pins : List (Addr × Obj)} {σ : L2.St} {H : Hp} {s : Shared} {C : Option Addr} {fa : Nat → Option Addr} {kt : Bool} {F : Addr → Prop}
/-- one object, told twice: the same answers -/
theorem eq_det (I : Inv X pins σ H s) : ∀ (n : Nat) (d e x : D) (v : V) (b b' : Bool), eqF n d x = some b → eqF n e x = some b' → RepT ⟨X.K, C, fa, kt⟩ H F d v → RepT ⟨X.K, C, fa, kt⟩ H F e v → b = b'
  | 0, _, _, _, _, _, _, h, _, _, _ => by simp only [eqF] at h; cases h
  | n + 1, d, e, x, v, b, b', h, h', hd, he => by
    have many : ∀ (ds es xs : List D) (vs : List V) (b b' : Bool), eqs (eqF n) ds xs = some b → eqs (eqF n) es xs = some b' → Reps ⟨X.K, C, fa, kt⟩ H F ds vs → Reps ⟨X.K, C, fa, kt⟩ H F es vs → b = b' := fun ds => by
      induction ds with
      | nil =>
        intro es xs vs b b' q q' r1 r2
        simp only [Reps] at r1; subst r1
        cases es with
        | nil => rw [q] at q'; exact Option.some.inj q'
        | cons y ys => simp only [Reps] at r2; obtain ⟨_, _, z, _⟩ := r2; cases z
      | cons x xs ih =>
        intro es zs vs b b' q q' r1 r2
        simp only [Reps] at r1
        obtain ⟨u, r, rfl, a1, a2⟩ := r1
        cases es with
        | nil => simp only [Reps] at r2; cases r2
        | cons y ys =>
          simp only [Reps] at r2
          obtain ⟨u', r', z, b1, b2⟩ := r2
          cases z
          cases zs with
          | nil => simp only [eqs] at q q'; cases q; cases q'; rfl
          | cons z zs =>
            simp only [eqs, Option.bind_eq_some_iff] at q q'
            obtain ⟨a, q1, c, q2, q3⟩ := q
            obtain ⟨a', q1', c', q2', q3'⟩ := q'
            cases q3; cases q3'
            rw [eq_det I n x y z u a a' q1 q1' a1.top b1.top, ih ys zs r c c' q2 q2' a2 b2]
    have tt : ∀ ds es, d = .tup ds → e = .tup es → b = b' := fun ds es e1 e2 => by
      subst e1 e2
      obtain ⟨a, vs, rfl, q1, r1⟩ := repT_tup hd
      obtain ⟨a', vs', z, q2, r2⟩ := repT_tup he
      cases z
      rw [I.tuple_inj q2 q1] at r2
      cases x <;> simp only [eqF] at h h' <;> first | (cases h; cases h'; rfl) | (cases h; done) | exact many _ _ _ _ _ _ h h' r1 r2
    have ll : ∀ ds es, d = .lst ds → e = .lst es → b = b' := fun ds es e1 e2 => by
      subst e1 e2
      obtain ⟨a, vs, rfl, _, q1, r1⟩ := hd
      obtain ⟨a', vs', z, _, q2, r2⟩ := he
      cases z
      rw [q1] at q2; cases q2
      have hl : ds.length = es.length := by rw [← r1.length, ← r2.length]
      cases x <;> simp only [eqF] at h h' <;> first | (cases h; cases h'; rfl) | (cases h; done) | skip
      rw [← hl] at h'
      split at h
      · rename_i g
        rw [if_pos g] at h'
        exact many _ _ _ _ _ _ h h' r1 r2
      · rename_i g
        rw [if_neg g] at h'
        cases h; cases h'; rfl
    have tl : ∀ ds es, d = .tup ds → e = .lst es → b = b' := fun ds es e1 e2 => by
      subst e1 e2
      obtain ⟨a, vs, rfl, q1, r1⟩ := repT_tup hd
      obtain ⟨a', vs', z, _, q2, r2⟩ := he
      cases z
      exact (Inv.not_both I q1 q2).elim
    have lt : ∀ ds es, d = .lst ds → e = .tup es → b = b' := fun ds es e1 e2 => by
      subst e1 e2
      obtain ⟨a, vs, rfl, q1, r1⟩ := repT_tup he
      obtain ⟨a', vs', z, _, q2, r2⟩ := hd
      cases z
      exact (Inv.not_both I q1 q2).elim
    have same : d = e → b = b' := fun z => by subst z; rw [h] at h'; exact Option.some.inj h'
    cases d with
    | tup ds =>
      obtain ⟨a, vs, rfl, q1, r1⟩ := repT_tup hd
      cases e with
      | tup es => exact tt _ _ rfl rfl
      | lst es => exact tl _ _ rfl rfl
      | non => simp only [RepT, Rep] at he; cases he
      | bl _ => simp only [RepT, Rep] at he; cases he
      | int _ => simp only [RepT, Rep] at he; cases he
      | str _ => simp only [RepT, Rep] at he; cases he
      | _ => cases x <;> simp only [eqF] at h' <;> cases h'
    | lst ds =>
      obtain ⟨a, vs, rfl, _, q1, r1⟩ := id hd
      cases e with
      | tup es => exact lt _ _ rfl rfl
      | lst es => exact ll _ _ rfl rfl
      | non => simp only [RepT, Rep] at he; cases he
      | bl _ => simp only [RepT, Rep] at he; cases he
      | int _ => simp only [RepT, Rep] at he; cases he
      | str _ => simp only [RepT, Rep] at he; cases he
      | _ => cases x <;> simp only [eqF] at h' <;> cases h'
    | non =>
      simp only [RepT, Rep] at hd; subst hd
      cases e with
      | non => exact same rfl
      | tup es => obtain ⟨_, _, z, _⟩ := repT_tup he; cases z
      | lst es => obtain ⟨_, _, z, _⟩ := he; cases z
      | bl _ => simp only [RepT, Rep] at he; cases he
      | int _ => simp only [RepT, Rep] at he; cases he
      | str _ => simp only [RepT, Rep] at he; cases he
      | _ => cases x <;> simp only [eqF] at h' <;> cases h'
    | bl k =>
      simp only [RepT, Rep] at hd; subst hd
      cases e with
      | non => simp only [RepT, Rep] at he; cases he
      | tup es => obtain ⟨_, _, z, _⟩ := repT_tup he; cases z
      | lst es => obtain ⟨_, _, z, _⟩ := he; cases z
      | bl _ => simp only [RepT, Rep] at he; cases he; exact same rfl
      | int _ => simp only [RepT, Rep] at he; cases he
      | str _ => simp only [RepT, Rep] at he; cases he
      | _ => cases x <;> simp only [eqF] at h' <;> cases h'
    | int k =>
      simp only [RepT, Rep] at hd; subst hd
      cases e with
      | non => simp only [RepT, Rep] at he; cases he
      | tup es => obtain ⟨_, _, z, _⟩ := repT_tup he; cases z
      | lst es => obtain ⟨_, _, z, _⟩ := he; cases z
      | int _ => simp only [RepT, Rep] at he; cases he; exact same rfl
      | bl _ => simp only [RepT, Rep] at he; cases he
      | str _ => simp only [RepT, Rep] at he; cases he
      | _ => cases x <;> simp only [eqF] at h' <;> cases h'
    | str k =>
      simp only [RepT, Rep] at hd; subst hd
      cases e with
      | non => simp only [RepT, Rep] at he; cases he
      | tup es => obtain ⟨_, _, z, _⟩ := repT_tup he; cases z
      | lst es => obtain ⟨_, _, z, _⟩ := he; cases z
      | int _ => simp only [RepT, Rep] at he; cases he
      | bl _ => simp only [RepT, Rep] at he; cases he
      | str j => simp only [RepT, Rep] at he; exact same (by rw [str_inj he])
      | _ => cases x <;> simp only [eqF] at h' <;> cases h'
    | _ => cases x <;> simp only [eqF] at h <;> cases h
theorem eqAll_at {x : D} : ∀ {ds : List D} {bs : List Bool}, eqAll x ds = some bs → bs.length = ds.length ∧ ∀ (j : Nat) (d : D), ds[j]? = some d → ∃ b, bs[j]? = some b ∧ eqD d x = some b
  | [], bs, h => by simp only [eqAll] at h; cases h; exact ⟨rfl, fun j d e => by simp at e⟩
  | y :: ys, bs, h => by
    simp only [eqAll, Option.bind_eq_some_iff, Option.map_eq_some_iff] at h
    obtain ⟨a, h1, cs, h2, rfl⟩ := h
    obtain ⟨l, g⟩ := eqAll_at h2
    refine ⟨by simp [l], fun j d e => ?_⟩
    cases j with
    | zero => simp at e; subst e; exact ⟨a, rfl, h1⟩
    | succ j => simpa using g j d (by simpa using e)
/-- the answers as a function of the values -/
theorem eqAll_fun (I : Inv X pins σ H s) {A : Around} {x : D} {xv : V} {xu : Value} {ds : List D} {vs : List V} {its : List Value} {bs : List Bool} (hu : A.units + 65 < cLine) (h : eqAll x ds = some bs)
    (rx : RepT ⟨X.K, C, fa, kt⟩ H F x xv) (qx : RelV xv xu) (rs : Reps ⟨X.K, C, fa, kt⟩ H F ds vs) (qs : Vals vs its) : ∃ e : Value → Bool, (∀ y, y ∈ its → SeqAt.EqAt A.in1 s y xu (e y)) ∧ its.map e = bs := by
  obtain ⟨l, g⟩ := eqAll_at h
  have ll : its.length = bs.length := by rw [← qs.length, rs.length, l]
  have key : ∀ (j : Nat) (y : Value), its[j]? = some y → ∃ (d : D) (v : V) (b : Bool), ds[j]? = some d ∧ vs[j]? = some v ∧ RelV v y ∧ RepT ⟨X.K, C, fa, kt⟩ H F d v ∧ bs[j]? = some b ∧ eqD d x = some b := fun j y e => by
    have hj : j < its.length := (List.getElem?_eq_some_iff.mp e).1
    have hj2 : j < ds.length := by rw [← l, ← ll]; exact hj
    obtain ⟨v, ev, rv⟩ := rs.get (List.getElem?_eq_getElem hj2)
    obtain ⟨u, eu, ru⟩ := qs.get ev
    rw [e] at eu; cases eu
    obtain ⟨b, eb, hb⟩ := g j _ (List.getElem?_eq_getElem hj2)
    exact ⟨_, v, b, List.getElem?_eq_getElem hj2, ev, ru, rv.top, eb, hb⟩
  classical
  refine ⟨fun y => decide (∃ (j : Nat) (d : D), its[j]? = some y ∧ ds[j]? = some d ∧ eqD d x = some true), ?_, ?_⟩
  · intro y hy
    obtain ⟨j, e⟩ := List.getElem?_of_mem hy
    obtain ⟨d, v, b, e1, e2, e3, e4, e5, e6⟩ := key j y e
    show SeqAt.EqAt A.in1 s y xu (decide (∃ (j : Nat) (d : D), its[j]? = some y ∧ ds[j]? = some d ∧ eqD d x = some true))
    have hb : ∀ q : Decidable (∃ (j : Nat) (d : D), its[j]? = some y ∧ ds[j]? = some d ∧ eqD d x = some true), @decide _ q = b := fun q => by
      cases b with
      | true => exact decide_eq_true ⟨j, d, e, e1, e6⟩
      | false =>
        refine decide_eq_false (fun z => ?_)
        revert z
        rintro ⟨i, d', f1, f2, f3⟩
        obtain ⟨d2, v2, b2, g1, g2, g3, g4, g5, g6⟩ := key i y f1
        rw [g1] at f2; cases f2
        rw [e3.inj g3] at e4
        have := eq_det I 64 d d' x v2 false true e6 f3 e4 g4
        cases this
    rw [hb]
    exact (eqV_of I 64).2 A.in1 d x v xv y xu b (by show A.units + 1 + 64 < cLine; omega) e6 e4 rx e3 qx
  · refine List.ext_getElem? fun j => ?_
    rw [List.getElem?_map]
    cases e : its[j]? with
    | none =>
      rw [List.getElem?_eq_none_iff] at e
      rw [List.getElem?_eq_none_iff.mpr (by omega)]; rfl
    | some y =>
      obtain ⟨d, v, b, e1, e2, e3, e4, e5, e6⟩ := key j y e
      rw [e5]
      show some _ = some b
      congr 1
      cases b with
      | true => exact decide_eq_true ⟨j, d, e, e1, e6⟩
      | false =>
        refine decide_eq_false (fun z => ?_)
        revert z
        rintro ⟨i, d', f1, f2, f3⟩
        obtain ⟨d2, v2, b2, g1, g2, g3, g4, g5, g6⟩ := key i y f1
        rw [g1] at f2; cases f2
        rw [e3.inj g3] at e4
        have := eq_det I 64 d d' x v2 false true e6 f3 e4 g4
        cases this
end
theorem any_map {its : List Value} {e : Value → Bool} {bs : List Bool} (h : its.map e = bs) : its.toArray.any e = bs.any id := by
  rw [← h]; simp
section
variable {W : Wc} {X : Cx}
/-- a list or a tuple of these -/
def TL (R : Rc) (H : Hp) (F : Addr → Prop) (d : D) (xs : List D) (v : V) : Prop := ∃ a vs, v = .ref a ∧ Reps R H F xs vs ∧ ((d = .lst xs ∧ R.C ≠ some a ∧ H a = some (.lst vs)) ∨ (d = .tup xs ∧ SqT R.K H a vs))
theorem tl_of {R : Rc} {H : Hp} {F : Addr → Prop} {d : D} {xs : List D} {v : V} (e : tlOf d = some xs) (r : RepT R H F d v) : TL R H F d xs v := by
  unfold tlOf at e
  split at e
  · cases e
    obtain ⟨a, vs, rfl, m, s1, r1⟩ := r
    exact ⟨a, vs, rfl, r1, .inl ⟨rfl, m, s1⟩⟩
  · cases e
    obtain ⟨a, vs, rfl, s1, r1⟩ := repT_tup r
    exact ⟨a, vs, rfl, r1, .inr ⟨rfl, s1⟩⟩
  · cases e
def rInA (W : Wc) (X : Cx) (neg : Bool) : R2 := fun u v H Q => ∃ C F x y ys b, tlOf y = some ys ∧ memD x ys = some b ∧ RepT (W.rc X C) H F x u ∧ RepT (W.rc X C) H F y v ∧ Q (.bl (if neg then !b else b)) H
theorem in_core {neg : Bool} (hu : X.A.units + 65 < cLine) : OpR X (compareOp (if neg then .NotIn else .In)) (rInA W X neg) := by
  intro pins s σ H xv yv v u Q I rx ry h
  obtain ⟨C, F, x, y, ys, b, e, hb, r1, r2, q⟩ := h
  obtain ⟨bs, h1, rfl⟩ := Option.map_eq_some_iff.mp hb
  obtain ⟨a, vs, rfl, r3, h3⟩ := tl_of e r2
  cases ry
  rcases h3 with ⟨_, _, hl⟩ | ⟨_, hl⟩
  · obtain ⟨its, rv, p, _⟩ := I.list (SqL.ofRd (K := X.K) hl)
    obtain ⟨f, hf, hm⟩ := eqAll_fun I hu h1 r1 rx r3 rv
    cases neg with
    | false => exact SeqAt.in_listAt f p.isList (fun w hw => hf w (by simpa using hw)) ⟨.bl _, H, I, rfl, by rw [any_map hm]; exact q⟩
    | true => exact SeqAt.notIn_listAt f p.isList (fun w hw => hf w (by simpa using hw)) ⟨.bl _, H, I, rfl, by rw [any_map hm]; exact q⟩
  · obtain ⟨its, rv, p, _⟩ := I.tuple hl
    have p' : s.heap.IsTuple a its.toArray := p
    obtain ⟨f, hf, hm⟩ := eqAll_fun I hu h1 r1 rx r3 rv
    cases neg with
    | false => exact SeqAt.in_tupleAt f p' (fun w hw => hf w (by simpa using hw)) ⟨.bl _, H, I, rfl, by rw [any_map hm]; exact q⟩
    | true => exact SeqAt.notIn_tupleAt f p' (fun w hw => hf w (by simpa using hw)) ⟨.bl _, H, I, rfl, by rw [any_map hm]; exact q⟩
end
end MP
set_option Elab.async false
set_option linter.all false
set_option maxRecDepth 100000
set_option maxHeartbeats 2000000
/-! MP7: dicts, in, is, items, slices. -/
namespace MP
open PySem PySem.Spec PyProof.Rows L2
/-! ### keys -/
def fT (k : List Key) : D := .tup (k.map keyD)
theorem keyD_inj {a b : Key} (h : keyD a = keyD b) : a = b := by
  cases a with
  | inl i => cases b with
    | inl j => simp only [keyD] at h; injection h with h; rw [h]
    | inr y => simp only [keyD] at h; cases h
  | inr x => cases b with
    | inl j => simp only [keyD] at h; cases h
    | inr y =>
      simp only [keyD] at h; injection h with h
      obtain ⟨x⟩ := x; obtain ⟨y⟩ := y
      have h : x = y := Array.toList_inj.mp h
      rw [h]
theorem key_eq (a b : Key) : keyEq (keyD a) (keyD b) = decide (a = b) := by
  cases a with
  | inl i => cases b with
    | inl j => simp only [keyD, keyEq, key_ll]
    | inr y => simp only [keyD, keyEq, key_lr]
  | inr x => cases b with
    | inl j => simp only [keyD, keyEq, key_rl]
    | inr y =>
      simp only [keyD, keyEq, key_rr]
      by_cases h : x = y
      · subst h; simp
      · rw [decide_eq_false h]
        refine beq_eq_false_iff_ne.mpr fun z => h ?_
        exact Sum.inr.inj (keyD_inj (a := .inr x) (b := .inr y) (by simp only [keyD]; rw [z]))
theorem keyEqs_eq : ∀ (a b : List Key), keyEq.keyEqs (a.map keyD) (b.map keyD) = decide (a = b)
  | [], [] => by simp [keyEq.keyEqs]
  | [], y :: ys => by cases y <;> simp [keyEq.keyEqs, keyD]
  | x :: xs, [] => by cases x <;> simp [keyEq.keyEqs, keyD]
  | x :: xs, y :: ys => by
    have ih := keyEqs_eq xs ys
    have h1 := key_eq x y
    have h2 : decide (x :: xs = y :: ys) = (decide (x = y) && decide (xs = ys)) := by
      by_cases e1 : x = y <;> by_cases e2 : xs = ys <;> simp [e1, e2]
    rw [h2, ← ih, ← h1]
    cases x <;> cases y <;> simp only [List.map_cons, keyD, keyEq.keyEqs, keyEq, Bool.false_and]
theorem fT_eq (a b : List Key) : keyEq (fT a) (fT b) = decide (a = b) := by
  unfold fT
  simp only [keyEq]
  exact keyEqs_eq a b
section
variable {κ : Type} [DecidableEq κ] {f : κ → D} {R : Rc} {H : Hp} {F : Addr → Prop}
theorem look_rel (hf : ∀ a b, keyEq (f a) (f b) = decide (a = b)) (k : κ) : ∀ (kvs : List (κ × V)) (ws : List D), Reps R H F ws (kvs.map (·.2)) →
    match look (kvs.map fun p => f p.1) ws (f k) with
    | some d => ∃ v, valV kvs k = some v ∧ Rep R H F d v
    | none => valV kvs k = none
  | [], ws, h => by
    simp only [List.map_nil, look]
    exact valV_nil
  | p :: kvs, ws, h => by
    cases ws with
    | nil => simp only [List.map_cons, Reps] at h; cases h
    | cons d ws =>
      simp only [List.map_cons, Reps] at h
      obtain ⟨v, r, e, h1, h2⟩ := h
      cases e
      simp only [List.map_cons, look, hf]
      by_cases e : p.1 = k
      · rw [decide_eq_true e]
        exact ⟨p.2, valV_pos e, h1⟩
      · rw [decide_eq_false e, valV_neg e]
        exact look_rel hf k kvs ws h2
theorem putVs_rel (hf : ∀ a b, keyEq (f a) (f b) = decide (a = b)) (k : κ) {y : D} {v : V} (ry : Rep R H F y v) : ∀ (kvs : List (κ × V)) (ws : List D), Reps R H F ws (kvs.map (·.2)) →
    Reps R H F (putVs (kvs.map fun p => f p.1) ws (f k) y) ((kvs.map fun kv => if kv.1 = k then (kv.1, v) else kv).map (·.2))
  | [], ws, _ => by simp only [List.map_nil, putVs, Reps]
  | p :: kvs, [], h => by simp only [List.map_cons, Reps] at h; cases h
  | p :: kvs, d :: ws, h => by
    simp only [List.map_cons, Reps] at h
    obtain ⟨v', r, e, h1, h2⟩ := h
    cases e
    simp only [List.map_cons, putVs, hf, Reps]
    refine ⟨_, _, rfl, ?_, putVs_rel hf k ry kvs ws h2⟩
    by_cases e : p.1 = k
    · simp only [decide_eq_true e, if_true, if_pos e]; exact ry
    · simp only [decide_eq_false e, if_neg e]; exact h1
theorem put_rel (hf : ∀ a b, keyEq (f a) (f b) = decide (a = b)) (k : κ) {y : D} {v : V} (ry : Rep R H F y v) (kvs : List (κ × V)) (ws : List D) (h : Reps R H F ws (kvs.map (·.2))) :
    (put (kvs.map fun p => f p.1) ws (f k) y).1 = (putK kvs k v).map (fun p => f p.1) ∧ Reps R H F (put (kvs.map fun p => f p.1) ws (f k) y).2 ((putK kvs k v).map (·.2)) := by
  have e : ((kvs.map fun p => f p.1).any fun q => keyEq q (f k)) = kvs.any fun kv => decide (kv.1 = k) := by
    rw [List.any_map]
    congr 1
    funext p
    exact hf p.1 k
  unfold put putK
  rw [e]
  by_cases g : (kvs.any fun kv => decide (kv.1 = k)) = true
  · rw [if_pos g, if_pos g]
    refine ⟨?_, putVs_rel hf k ry kvs ws h⟩
    rw [List.map_map]
    refine List.map_congr_left fun p _ => ?_
    show f p.1 = f (if p.1 = k then (p.1, v) else p).1
    split <;> rfl
  · rw [if_neg g, if_neg g]
    refine ⟨by rw [List.map_append]; rfl, ?_⟩
    rw [List.map_append]
    refine h.append ?_
    simp only [List.map_cons, List.map_nil, Reps]
    exact ⟨v, [], rfl, ry, rfl⟩
end
/-- a key of intL and texts -/
theorem keyOf_flat {x : D} (h : keyOf false x = true) : ∃ k : Key, x = keyD k := by
  cases x <;> simp [keyOf, isKey, isTup] at h
  · exact ⟨.inl _, rfl⟩
  · rename_i s; exact ⟨.inr ⟨s.toArray⟩, by simp only [keyD]⟩
theorem flat_keys : ∀ {xs : List D}, xs.all flatKey = true → ∃ ks : List Key, xs = ks.map keyD
  | [], _ => ⟨[], rfl⟩
  | x :: xs, h => by
    rw [List.all_cons, Bool.and_eq_true] at h
    obtain ⟨ks, e⟩ := flat_keys h.2
    cases x with
    | int i => exact ⟨.inl i :: ks, by rw [e]; rfl⟩
    | str s => exact ⟨.inr ⟨s.toArray⟩ :: ks, by rw [e]; simp [keyD]⟩
    | _ => simp [flatKey] at h
theorem keyOf_tup {x : D} (h : keyOf true x = true) : ∃ k : List Key, x = fT k := by
  cases x <;> simp [keyOf, isKey, isTup] at h
  rename_i xs
  obtain ⟨ks, e⟩ := flat_keys (xs := xs) (by simpa using h)
  exact ⟨ks, by rw [e]; rfl⟩
theorem rep_key {R : Rc} {H : Hp} {F : Addr → Prop} {k : Key} {v : V} (h : RepT R H F (keyD k) v) : v = kV k := by
  cases k with
  | inl i => exact rT_int h
  | inr x =>
    have := rT_str h
    rw [this]
    show V.str ⟨x.cps.toList.toArray⟩ = .str x
    simp
theorem reps_keys {R : Rc} {H : Hp} {F : Addr → Prop} : ∀ {ks : List Key} {vs : List V}, Reps R H F (ks.map keyD) vs → vs = ks.map kV
  | [], vs, h => by simpa only [List.map_nil, Reps] using h
  | k :: ks, vs, h => by
    simp only [List.map_cons, Reps] at h
    obtain ⟨v, r, rfl, h1, h2⟩ := h
    rw [List.map_cons, rep_key h1.top, reps_keys h2]
/-- what the dict at a holds, its key a tuple that is looked at -/
def DGetS (K : PySem.W.Frag) (H : Hp) (a : Addr) (y : V) (r : Option V) : Prop :=
  (∃ kvs k, H a = some (.dK kvs) ∧ y = kV k ∧ r = valV kvs k) ∨ ∃ kvs k b, H a = some (.dT kvs) ∧ y = .ref b ∧ SqT K H b (k.map kV) ∧ r = valV kvs k
section
variable {X : Cx} {pins : List (Addr × Obj)} {σ : L2.St} {H : Hp} {s : Shared} {a : Addr} {y v : V} {u r : Value} {o : Option V} {A : Around} {E : Value → Shared → Prop}
theorem key_ofS {ks : List Key} (I : Inv X pins σ H s) (e : SqT X.K H a (ks.map kV)) : (tupleKind (mixKind X.prog X.w)).is s.heap ks a := by
  obtain ⟨its, r, p, _⟩ := I.tuple e
  obtain ⟨o, h1, h2, n, h3⟩ := p
  exact ⟨o, its.toArray, n, h1, h2, h3, by simpa using items_are r⟩
theorem ds_in {Q : Value → Shared → Prop} (hu : A.units + 1 < cLine) (I : Inv X pins σ H s) (g : DGetS X.K H a y o) (ry : RelV y u) (h : ∀ s', Inv X pins σ H s' → Q (.bool o.isSome) s') :
    wpAny (model X.prog X.w) A (compareOp .In u (.ref a)) Q E s := by
  rcases g with ⟨kvs, k, e, ey, l⟩ | ⟨kvs, k, b, e, ey, eb, l⟩
  · exact d_in hu I (.inl ⟨kvs, k, .inl e, ey, l⟩) ry h
  · subst ey
    cases (show u = Value.ref b from ry)
    obtain ⟨z, hd, xs, rel, dd⟩ := dt_rd I.hok (.inl e)
    refine wpAny_in_heap (tupleKind_room_in1 hu) (key_ofS I eb) hd dd ?_
    have q := (rel.val k).isSome_eq
    rw [Option.isSome_map] at q
    rw [← q, ← l]
    exact h _ (I.tok _)
theorem ds_notIn {Q : Value → Shared → Prop} (hu : A.units + 1 < cLine) (I : Inv X pins σ H s) (g : DGetS X.K H a y o) (ry : RelV y u) (h : ∀ s', Inv X pins σ H s' → Q (.bool (!o.isSome)) s') :
    wpAny (model X.prog X.w) A (compareOp .NotIn u (.ref a)) Q E s := by
  rcases g with ⟨kvs, k, e, ey, l⟩ | ⟨kvs, k, b, e, ey, eb, l⟩
  · exact d_notIn hu I (.inl ⟨kvs, k, .inl e, ey, l⟩) ry h
  · subst ey
    cases (show u = Value.ref b from ry)
    obtain ⟨z, hd, xs, rel, dd⟩ := dt_rd I.hok (.inl e)
    refine wpAny_notIn_heap (tupleKind_room_in1 hu) (key_ofS I eb) hd dd ?_
    have q := (rel.val k).isSome_eq
    rw [Option.isSome_map] at q
    rw [← q, ← l]
    exact h _ (I.tok _)
theorem ds_getItem {Q : Value → Shared → Prop} (hu : A.units + 1 < cLine) (I : Inv X pins σ H s) (g : DGetS X.K H a y (some v)) (ry : RelV y u) (h : ∀ w' s', Inv X pins σ H s' → RelV v w' → Q w' s') :
    wpAny (model X.prog X.w) A (getItem (.ref a) u) Q E s := by
  rcases g with ⟨kvs, k, e, ey, l⟩ | ⟨kvs, k, b, e, ey, eb, l⟩
  · exact d_getItem hu I (.inl ⟨kvs, k, .inl e, ey, l⟩) ry h
  · subst ey
    cases (show u = Value.ref b from ry)
    obtain ⟨z, hd, xs, rel, dd⟩ := dt_rd I.hok (.inl e)
    obtain ⟨w', hw, rw'⟩ := RelO.some_of (v := v) (o := (atKey xs k).map (·.2)) (by rw [l]; exact rel.val k)
    obtain ⟨p, hp, hp2⟩ := Option.map_eq_some_iff.mp hw
    refine wpAny_getItem_heap (tupleKind_room_in1 hu) (key_ofS I eb) dd hp ?_
    rw [hp2]
    exact h w' _ (I.tok _) rw'
theorem ds_get1 {Q : Value → Shared → Prop} (hu : A.units + 1 < cLine) (I : Inv X pins σ H s) (g : DGetS X.K H a y o) (ry : RelV y u) (h : ∀ w' s', Inv X pins σ H s' → RelV (o.getD .non) w' → Q w' s') :
    wpAny (model X.prog X.w) A (call (.builtin "dict.get") [.ref a, u]) Q E s := by
  rcases g with ⟨kvs, k, e, ey, l⟩ | ⟨kvs, k, b, e, ey, eb, l⟩
  · exact d_get1 hu I (.inl ⟨kvs, k, .inl e, ey, l⟩) ry h
  · subst ey
    cases (show u = Value.ref b from ry)
    obtain ⟨z, hd, xs, rel, dd⟩ := dt_rd I.hok (.inl e)
    refine call_meetsIn PySem.F.slot_dict_get dd.typeIs PySem.F.entry_dict_get (PySem.F.args_dict_get_2 _ _) (meetsH_dict_get (tupleKind (mixKind X.prog X.w)) a b hd) ⟨tupleKind_room_in1 hu, k, xs, key_ofS I eb, dd, h _ _ (I.tok _) ?_⟩
    rw [l]
    exact (rel.val k).getD rfl
theorem ds_get2 {d : V} {Q : Value → Shared → Prop} (hu : A.units + 1 < cLine) (I : Inv X pins σ H s) (g : DGetS X.K H a y o) (ry : RelV y u) (rd : RelV d r) (h : ∀ w' s', Inv X pins σ H s' → RelV (o.getD d) w' → Q w' s') :
    wpAny (model X.prog X.w) A (call (.builtin "dict.get") [.ref a, u, r]) Q E s := by
  rcases g with ⟨kvs, k, e, ey, l⟩ | ⟨kvs, k, b, e, ey, eb, l⟩
  · exact d_get2 hu I (.inl ⟨kvs, k, .inl e, ey, l⟩) ry rd h
  · subst ey
    cases (show u = Value.ref b from ry)
    obtain ⟨z, hd, xs, rel, dd⟩ := dt_rd I.hok (.inl e)
    refine call_meetsIn PySem.F.slot_dict_get dd.typeIs PySem.F.entry_dict_get (PySem.F.args_dict_get_3 _ _ _) (meetsH_dict_get_default (tupleKind (mixKind X.prog X.w)) a b hd r) ⟨tupleKind_room_in1 hu, k, xs, key_ofS I eb, dd, h _ _ (I.tok _) ?_⟩
    rw [l]
    exact (rel.val k).getD rd
theorem ds_isD (g : DGetS X.K H a y o) : (∃ kvs, Rd H a (.dK kvs)) ∨ ∃ kvs, Rd H a (.dT kvs) := by
  rcases g with ⟨kvs, k, e, _⟩ | ⟨kvs, k, b, e, _⟩
  · exact .inl ⟨kvs, .inl e⟩
  · exact .inr ⟨kvs, .inl e⟩
end
/-- reading a dict by values -/
theorem dic_get {R : Rc} {H : Hp} {F : Addr → Prop} {a : Addr} {t : Bool} {ks ws : List D} {vs : List V} {x : D} {u : V} (h : DicAt R H a t ks vs) (rs : Reps R H F ws vs) (hk : keyOf t x = true) (rx : RepT R H F x u) :
    ∃ o, DGetS R.K H a u o ∧ match look ks ws x with
      | some d => ∃ v, o = some v ∧ Rep R H F d v
      | none => o = none := by
  cases t with
  | false =>
    obtain ⟨kvs, e, rfl, rfl⟩ := h
    obtain ⟨k, rfl⟩ := keyOf_flat hk
    refine ⟨valV kvs k, .inl ⟨kvs, k, e, rep_key rx, rfl⟩, ?_⟩
    exact look_rel key_eq k kvs ws rs
  | true =>
    obtain ⟨_, kvs, e, rfl, rfl⟩ := h
    obtain ⟨k, rfl⟩ := keyOf_tup hk
    obtain ⟨b, us, rfl, st, ru⟩ := repT_tup rx
    refine ⟨valV kvs k, .inr ⟨kvs, k, b, e, rfl, by rw [← reps_keys ru]; exact st, rfl⟩, ?_⟩
    exact look_rel (f := fT) fT_eq k kvs ws rs
section
variable {W : Wc} {X : Cx}
/-! ### in, not in -/
def rInS (neg : Bool) : R2 := fun x y H Q => ∃ c z, x = .str ⟨#[c]⟩ ∧ y = .str z ∧ Q (.bl (if neg then !(decide (c ∈ z.cps.toList)) else decide (c ∈ z.cps.toList))) H
def rInDc (K : PySem.W.Frag) (neg : Bool) : R2 := fun x y H Q => ∃ a o, y = .ref a ∧ DGetS K H a x o ∧ Q (.bl (if neg then !o.isSome else o.isSome)) H
def rInW (W : Wc) (X : Cx) (neg : Bool) : R2 := fun x y H Q => rInA W X neg x y H Q ∨ rInDc X.K neg x y H Q ∨ rInS neg x y H Q
theorem inDc_core {neg : Bool} (hu : X.A.units + 1 < cLine) : OpR X (compareOp (if neg then .NotIn else .In)) (rInDc X.K neg) := by
  intro pins s σ H x y v u Q I rx ry h
  obtain ⟨a, o, rfl, g, q⟩ := h
  cases ry
  cases neg with
  | false => exact ds_in hu I g rx fun s' I' => ⟨.bl _, H, I', rfl, q⟩
  | true => exact ds_notIn hu I g rx fun s' I' => ⟨.bl _, H, I', rfl, q⟩
theorem inS_core {neg : Bool} : OpR X (compareOp (if neg then .NotIn else .In)) (rInS neg) := by
  cases neg with
  | false =>
    intro pins s σ H x y v u Q I rx ry h
    obtain ⟨c, z, e1, e2, q⟩ := h
    exact op_in_sign pins s σ H x y v u Q I rx ry ⟨c, z, e1, e2, q⟩
  | true =>
    intro pins s σ H x y v u Q I rx ry h
    obtain ⟨c, z, e1, e2, q⟩ := h
    exact op_notIn_sign pins s σ H x y v u Q I rx ry ⟨c, z, e1, e2, q⟩
theorem in_rule {neg : Bool} (hu : X.A.units + 65 < cLine) : OpR X (compareOp (if neg then .NotIn else .In)) (rInW W X neg) :=
  OpR.or (in_core hu) (OpR.or (inDc_core (by omega)) inS_core)
def negIf (neg b : Bool) : Bool := if neg then !b else b
theorem inStr_some {x : D} {s : List Nat} {b : Bool} (h : inStr x s = some b) : ∃ c, x = .str [c] ∧ b = s.contains c := by
  cases x with
  | str t => cases t with
    | nil => cases h
    | cons c t => cases t with
      | nil => cases h; exact ⟨c, rfl, rfl⟩
      | cons d t => cases h
  | _ => cases h
theorem ok_in' {fr neg : Bool} : ∀ (C : Option Addr) (F : Addr → Prop) (H : Hp) (κ : MP.K) (Q : VK) (x y : D) (b : Bool) (u v : V), Cup C H κ →
    RepT (W.rc X C) H F x u → RepT (W.rc X C) H F y v → inD x y = some b →
    (∀ w H', Ext C H H' → Cup C H' κ → Rep (W.rc X C) H' F (.bl (negIf neg b)) w → Q w H') → rInW W X neg u v H Q := by
  intro C F H κ Q x y b u v cu rx ry h q
  have fin : Q (.bl (if neg then !b else b)) H := q _ H Ext.refl cu rep_bl
  unfold inD at h
  split at h
  · exact .inl ⟨C, F, x, _, _, b, rfl, h, rx, ry, fin⟩
  · exact .inl ⟨C, F, x, _, _, b, rfl, h, rx, ry, fin⟩
  · split at h
    · rename_i t ks ws hk
      cases h
      obtain ⟨a, vs, rfl, hd, rs⟩ := ry
      obtain ⟨o, g, hl⟩ := dic_get hd rs hk rx
      refine .inr (.inl ⟨a, o, rfl, g, ?_⟩)
      have : o.isSome = (look ks ws x).isSome := by
        split at hl
        · rename_i e; obtain ⟨v, e2, _⟩ := hl; rw [e2, e]; rfl
        · rename_i e; rw [hl, e]; rfl
      rw [this]; exact fin
    · cases h
  · obtain ⟨c, rfl, rfl⟩ := inStr_some h
    rw [rT_str rx, rT_str ry]
    refine .inr (.inr ⟨c, _, rfl, rfl, ?_⟩)
    have : ∀ l : List Nat, l.contains c = decide (c ∈ l) := fun l => by simp
    rw [this] at fin
    exact fin
  · cases h
theorem ok_in {fr : Bool} : Ok2 W X fr .isin (rInW W X false) := by
  intro C F H κ Q x y d u v cf fh cu rx ry h q
  have h := opt_ok (show opt ((inD x y).map D.bl) κ = .ok d κ from h)
  obtain ⟨b, e, rfl⟩ := Option.map_eq_some_iff.mp h
  exact ok_in' (fr := fr) C F H κ Q x y b u v cu (RepB.top rx) (RepB.top ry) e fun w H' x1 c1 r1 => q w H' x1 c1 r1 fun _ => trivial
theorem ok_notin {fr : Bool} : Ok2 W X fr .notin (rInW W X true) := by
  intro C F H κ Q x y d u v cf fh cu rx ry h q
  have h := opt_ok (show opt ((inD x y).map fun b => D.bl (!b)) κ = .ok d κ from h)
  obtain ⟨b, e, rfl⟩ := Option.map_eq_some_iff.mp h
  exact ok_in' (fr := fr) C F H κ Q x y b u v cu (RepB.top rx) (RepB.top ry) e fun w H' x1 c1 r1 => q w H' x1 c1 r1 fun _ => trivial
/-! ### is -/
def rIsW (neg : Bool) : R2 := fun x y H Q => (y = .non ∧ Q (.bl (negIf neg (decide (x = .non)))) H) ∨ ∃ b, y = .bl b ∧ (∀ c, x ≠ .ty c) ∧ Q (.bl (negIf neg (decide (x = .bl b)))) H
theorem is_bool_gen {M : Model} {A : Around} {E : Value → Shared → Prop} {s : Shared} {v : Value} {b : Bool} {Q : Value → Shared → Prop} (hv : ∀ n, v ≠ .builtin n) (h : Q (.bool (v == .bool b)) s) : wpAny M A (compareOp .Is v (.bool b)) Q E s := by
  cases v <;> first | exact absurd rfl (hv _) | exact wpAny_pure h
theorem isnot_bool_gen {M : Model} {A : Around} {E : Value → Shared → Prop} {s : Shared} {v : Value} {b : Bool} {Q : Value → Shared → Prop} (hv : ∀ n, v ≠ .builtin n) (h : Q (.bool (!(v == .bool b))) s) : wpAny M A (compareOp .IsNot v (.bool b)) Q E s := by
  cases v <;> first | exact absurd rfl (hv _) | exact wpAny_pure h
theorem rel_noblt {x : V} {v : Value} (r : RelV x v) : ∀ n, v ≠ .builtin n := fun n z => by
  subst z
  cases x <;> first | (obtain ⟨_, z⟩ := r; cases z; done) | (cases r; done)
theorem rel_bool {x : V} {v : Value} {b : Bool} (r : RelV x v) : (v == .bool b) = decide (x = .bl b) := by
  cases x with
  | bl c =>
    cases r
    by_cases h : c = b
    · subst h; simp
    · rw [decide_eq_false (fun z => h (V.bl.inj z))]
      exact beq_eq_false_iff_ne.mpr fun z => h (Value.bool.inj z)
  | non => cases r; rfl
  | int _ => obtain ⟨t, rfl⟩ := r; rfl
  | str _ => obtain ⟨t, rfl⟩ := r; rfl
  | byt _ => obtain ⟨t, rfl⟩ := r; rfl
  | flt _ => obtain ⟨t, rfl⟩ := r; rfl
  | ref _ => cases r; rfl
  | ty _ => cases r; rfl
theorem is_rule {neg : Bool} : OpR X (compareOp (if neg then .IsNot else .Is)) (rIsW neg) := by
  intro pins s σ H x y v u Q I rx ry h
  rcases h with ⟨rfl, q⟩ | ⟨b, rfl, _, q⟩
  · cases ry
    cases neg with
    | false => exact is_none_gen ⟨.bl _, H, I, by rw [rx.none_iff]; rfl, q⟩
    | true => exact isnot_none_gen ⟨.bl _, H, I, by rw [rx.none_iff]; rfl, q⟩
  · cases ry
    cases neg with
    | false => exact is_bool_gen (rel_noblt rx) ⟨.bl _, H, I, by rw [rel_bool rx]; rfl, q⟩
    | true => exact isnot_bool_gen (rel_noblt rx) ⟨.bl _, H, I, by rw [rel_bool rx]; rfl, q⟩
/-- a value is None, is that bool -/
theorem rT_dec {R : Rc} {H : Hp} {F : Addr → Prop} {x : D} {v : V} (h : RepT R H F x v) : (v = .non ↔ x = .non) ∧ (∀ b, v = .bl b ↔ x = .bl b) ∧ (∀ c, v ≠ .ty c) := by
  cases x with
  | non => have := rT_non h; subst this; exact ⟨⟨fun _ => rfl, fun _ => rfl⟩, fun b => ⟨fun z => (nomatch z), fun z => (nomatch z)⟩, fun c z => nomatch z⟩
  | bl k => have := rT_bl h; subst this; exact ⟨⟨fun z => (nomatch z), fun z => (nomatch z)⟩, fun b => ⟨fun z => by cases z; rfl, fun z => by cases z; rfl⟩, fun c z => nomatch z⟩
  | int k => have := rT_int h; subst this; exact ⟨⟨fun z => (nomatch z), fun z => (nomatch z)⟩, fun b => ⟨fun z => (nomatch z), fun z => (nomatch z)⟩, fun c z => nomatch z⟩
  | str k => have := rT_str h; subst this; exact ⟨⟨fun z => (nomatch z), fun z => (nomatch z)⟩, fun b => ⟨fun z => (nomatch z), fun z => (nomatch z)⟩, fun c z => nomatch z⟩
  | und => simp only [RepT, Rep] at h
  | tup _ => obtain ⟨a, vs, rfl, _⟩ := h; exact ⟨⟨fun z => (nomatch z), fun z => (nomatch z)⟩, fun b => ⟨fun z => (nomatch z), fun z => (nomatch z)⟩, fun c z => nomatch z⟩
  | lst _ => obtain ⟨a, vs, rfl, _⟩ := h; exact ⟨⟨fun z => (nomatch z), fun z => (nomatch z)⟩, fun b => ⟨fun z => (nomatch z), fun z => (nomatch z)⟩, fun c z => nomatch z⟩
  | dic _ _ _ => obtain ⟨a, vs, rfl, _⟩ := h; exact ⟨⟨fun z => (nomatch z), fun z => (nomatch z)⟩, fun b => ⟨fun z => (nomatch z), fun z => (nomatch z)⟩, fun c z => nomatch z⟩
  | rng _ _ => obtain ⟨a, rfl, _⟩ := rT_rng h; exact ⟨⟨fun z => (nomatch z), fun z => (nomatch z)⟩, fun b => ⟨fun z => (nomatch z), fun z => (nomatch z)⟩, fun c z => nomatch z⟩
  | cup => simp only [RepT, Rep] at h; obtain ⟨a, _, rfl⟩ := h; exact ⟨⟨fun z => (nomatch z), fun z => (nomatch z)⟩, fun b => ⟨fun z => (nomatch z), fun z => (nomatch z)⟩, fun c z => nomatch z⟩
  | fn _ => simp only [RepT, Rep] at h; obtain ⟨a, _, rfl⟩ := h; exact ⟨⟨fun z => (nomatch z), fun z => (nomatch z)⟩, fun b => ⟨fun z => (nomatch z), fun z => (nomatch z)⟩, fun c z => nomatch z⟩
  | scr _ => simp only [RepT, Rep] at h; obtain ⟨a, rfl, _⟩ := h; exact ⟨⟨fun z => (nomatch z), fun z => (nomatch z)⟩, fun b => ⟨fun z => (nomatch z), fun z => (nomatch z)⟩, fun c z => nomatch z⟩
theorem ok_is' {neg : Bool} : ∀ (C : Option Addr) (F : Addr → Prop) (H : Hp) (κ : MP.K) (Q : VK) (x y : D) (b : Bool) (u v : V), Cup C H κ →
    RepT (W.rc X C) H F x u → RepT (W.rc X C) H F y v → isB x y = some b →
    (∀ w H', Ext C H H' → Cup C H' κ → Rep (W.rc X C) H' F (.bl (negIf neg b)) w → Q w H') → rIsW neg u v H Q := by
  intro C F H κ Q x y b u v cu rx ry h q
  have fin : Q (.bl (negIf neg b)) H := q _ H Ext.refl cu rep_bl
  obtain ⟨x1, x2, x3⟩ := rT_dec rx
  obtain ⟨y1, y2, _⟩ := rT_dec ry
  unfold isB at h
  split at h
  · cases h
    rename_i a c
    rw [rT_bl rx, rT_bl ry]
    refine .inr ⟨c, rfl, (fun _ z => nomatch z), ?_⟩
    have : decide (V.bl a = V.bl c) = (a == c) := dec_bl
    rw [this]; exact fin
  · cases h
    exact .inl ⟨y1.mpr rfl, by rw [decide_eq_true (x1.mpr rfl)]; exact fin⟩
  · cases h
  · cases h
  · rename_i _ n1 n2
    cases h
    refine .inl ⟨y1.mpr rfl, ?_⟩
    rw [decide_eq_false (fun z => n1 (x1.mp z))]; exact fin
  · rename_i _ c n1 n2
    cases h
    refine .inr ⟨c, (y2 c).mpr rfl, x3, ?_⟩
    rw [decide_eq_false (fun z => n1 _ ((x2 c).mp z))]; exact fin
  · cases h
theorem ok_is {fr : Bool} : Ok2 W X fr .is (rIsW false) := by
  intro C F H κ Q x y d u v cf fh cu rx ry h q
  have h := opt_ok (show opt ((isB x y).map D.bl) κ = .ok d κ from h)
  obtain ⟨b, e, rfl⟩ := Option.map_eq_some_iff.mp h
  exact ok_is' C F H κ Q x y b u v cu (RepB.top rx) (RepB.top ry) e fun w H' x1 c1 r1 => q w H' x1 c1 r1 fun _ => trivial
theorem ok_isnot {fr : Bool} : Ok2 W X fr .isnot (rIsW true) := by
  intro C F H κ Q x y d u v cf fh cu rx ry h q
  have h := opt_ok (show opt ((isB x y).map fun b => D.bl (!b)) κ = .ok d κ from h)
  obtain ⟨b, e, rfl⟩ := Option.map_eq_some_iff.mp h
  exact ok_is' C F H κ Q x y b u v cu (RepB.top rx) (RepB.top ry) e fun w H' x1 c1 r1 => q w H' x1 c1 r1 fun _ => trivial
end
end MP
set_option Elab.async false
set_option linter.all false
set_option maxRecDepth 100000
set_option maxHeartbeats 2000000
/-! MP8: products, items, slices, builtins. -/
namespace MP
open PySem PySem.Spec PyProof.Rows L2
theorem atD_eq {α : Type} (xs : List α) (i : Int) : atD xs i = atI xs i := rfl
theorem Reps.at {R : Rc} {H : Hp} {F : Addr → Prop} {ds : List D} {vs : List V} {i : Int} {d : D} (h : Reps R H F ds vs) (e : atD ds i = some d) : ∃ v, atI vs i = some v ∧ Rep R H F d v := by
  unfold atD at e
  obtain ⟨j, e1, e2⟩ := Option.bind_eq_some_iff.mp e
  obtain ⟨v, e3, r⟩ := h.get e2
  refine ⟨v, ?_, r⟩
  unfold atI
  have : ixN vs.length i = some j := by rw [h.length]; exact e1
  rw [this]; exact e3
section
variable {W : Wc} {X : Cx}
/-! ### products -/
theorem tuple_mul1 (l : Addr) (items : Array Value) (n : Nat) (dd : Option Addr) (sl : Array (Option Value)) (u : Tok) :
    Meets (Builtin.«tuple.__mul__» ⟨[.ref l, .int 1 u], []⟩) (fun _ R s => s.heap.get? l = some { cls := .type "tuple", dict := dd, data := .seq items n, slots := sl } ∧
      R (.ok (.ret (Value.ref l))) s) :=
  .of_wp fun prog w A R s h => by
    obtain ⟨hp, g, d, tk, os⟩ := s
    obtain ⟨hl, h⟩ := h
    have f1 := AutoSeq1.idx_int
    have c1 : (items.isEmpty || (1 : Int) == 1) = true := by rw [show ((1 : Int) == 1) = true from rfl, Bool.or_true]
    wp_walk using wpAny_loadPart' hl
    exact ⟨_, rfl, h⟩
def rRepT1 (K : PySem.W.Frag) : R2 := fun x y H Q => ∃ l xs, x = .ref l ∧ y = .int 1 ∧ SqT K H l xs ∧ Q (.ref l) H
theorem op_repT1 : OpR X (binaryOp .Mult) (rRepT1 X.K) := by
  intro pins s σ H x y v u Q I rx ry h
  obtain ⟨l, xs, rfl, rfl, hT, q⟩ := h
  cases rx
  obtain ⟨t, rfl⟩ := ry
  obtain ⟨its, r, ⟨⟨cls, dd, data, sl⟩, ho, hc, n, hd⟩, hs⟩ := I.tuple hT
  simp only at hc hd
  subst hc hd
  refine wpAny_binaryOp_repeat_ref (T := "tuple") (U := "int") (by decide) ⟨_, ho, rfl⟩ (fun s' => typeIs_int s' 1 t) noFill_tuple_mul F.fills_int_mul F.slot_int_rmul repeat_tuple F.slot_int_index.lookup
    (call_meets F.slot_int_rmul (typeIs_int s 1 t) F.entry_int_rmul (F.args_int_rmul_2 _ _) (int_rmul_tuple 1 t l its.toArray n dd sl)
      ⟨ho, rfl, ⟨_, ho, rfl⟩, call_meets F.slot_tuple_mul ⟨_, ho, rfl⟩ F.entry_tuple_mul (F.args_tuple_mul_2 _ _) (tuple_mul1 l its.toArray n dd sl t) ⟨ho, ?_⟩⟩)
  exact ⟨.ref l, _, I, rfl, q⟩
def rMulW (K : PySem.W.Frag) : R2 := fun x y H Q => rI CMul (fun i j => .int (i * j)) x y H Q ∨ rRep x y H Q ∨ rRepT K x y H Q ∨ rRepT1 K x y H Q
theorem op_mulW' : OpR X (binaryOp .Mult) (rMulW X.K) := OpR.or op_mul (OpR.or op_rep (OpR.or op_repT op_repT1))
theorem ok_mul : Ok2 W X true .mul (rMulW X.K) := by
  intro C F H κ Q x y d u v cf fh cu rx ry h q
  have rx : Rep (W.rc X C) H F x u := rx
  have ry : Rep (W.rc X C) H F y v := ry
  have h := opt_ok (show opt (mulD x y) κ = .ok d κ from h)
  unfold mulD at h
  split at h
  · split at h
    · rename_i hz
      cases h; rw [rT_int rx.top, rT_int ry.top]
      refine .inl ⟨_, _, rfl, rfl, ?_, q _ H Ext.refl cu rep_int fun _ => trivial⟩
      unfold mulOk at hz
      simpa [CMul] using hz
    · cases h
  · split at h
    · rename_i hz
      cases h
      obtain ⟨a, vs, rfl, _, s1, r1⟩ := Rep.top rx
      rw [rT_int ry.top]
      refine .inr (.inl ⟨a, _, vs, rfl, rfl, s1, hz.1, hz.2.1, by rw [r1.length, line_eq]; exact hz.2.2, fun p hp => ?_⟩)
      exact q _ _ (Ext.upd hp) (cu.upd hp) (rep_new_lst hp cu fh (r1.flat _)) fun _ => newT_lst hp cu (r1.flat _)
    · cases h
  · split at h
    · rename_i k _ _ _ hz
      cases h
      obtain ⟨a, vs, rfl, s1, r1⟩ := rep_tup rx
      rw [rT_int ry.top]
      by_cases k1 : k = 1
      · subst k1
        refine .inr (.inr (.inr ⟨a, vs, rfl, rfl, s1.sq, ?_⟩))
        refine q _ H Ext.refl cu ?_ fun _ => trivial
        have : ∀ xs : List D, (List.replicate (1 : Int).toNat xs).flatten = xs := fun xs => by simp
        rw [this]
        exact rx
      refine .inr (.inr (.inl ⟨a, _, vs, rfl, rfl, s1.sq, fun z => ?_, by omega, hz.2.2.1, by rw [r1.length]; exact hz.2.2.2, fun p hp => ?_⟩))
      · have := r1.length
        rw [z] at this
        have h1 := hz.1
        rw [← this] at h1
        exact absurd h1 (by decide)
      · exact q _ _ (Ext.upd hp) (cu.upd hp) (rep_new_tup hp (r1.flat _)) fun _ => trivial
    · cases h
  · cases h
/-! ### items -/
def rIxDc (K : PySem.W.Frag) : R2 := fun x y H Q => ∃ a v, x = .ref a ∧ DGetS K H a y (some v) ∧ Q v H
theorem ix_dc (hu : X.A.units + 1 < cLine) : IxR X (rIxDc X.K) := by
  intro value slice pins s σ H x y v u Q I rx ry h hs
  obtain ⟨a, w, rfl, g, q⟩ := h
  obtain rfl : v = Value.ref a := rx
  exact tail_any (isD_at I (ds_isD g)).1 PySem.F.slot_dict_getitem.lookup (ds_getItem hu I g ry fun w' s' I' rw' => ⟨w, H, I', rw', q⟩) hs
def rIxW (K : PySem.W.Frag) : R2 := fun x y H Q => rIx K x y H Q ∨ rIxDc K x y H Q
theorem ix_rule (hu : X.A.units + 1 < cLine) : IxR X (rIxW X.K) := ix_seq.or (ix_dc hu)
theorem ok_ix {fr : Bool} (hf : fr = false) : Ok2 W X fr .ix (rIxW X.K) := by
  intro C F H κ Q x y d u v cf fh cu rx ry h q
  have rx := RepB.top rx
  have ry := RepB.top ry
  have h := opt_ok (show opt (ixK x y κ) κ = .ok d κ from h)
  have fin : ∀ w, Rep (W.rc X C) H F d w → Q w H := fun w r => q w H Ext.refl cu r fun z => by rw [hf] at z; cases z
  unfold ixK at h
  split at h
  · have rx : ∃ c, C = some c ∧ u = .ref c := by simpa only [RepT, Rep] using rx
    obtain ⟨c, hc, rfl⟩ := rx
    unfold cupV at h
    split at h
    · rw [rT_int ry]
      split at h
      · rename_i i _ h0
        cases h
        subst h0
        exact .inl (.inl ⟨c, _, _, _, rfl, rfl, .inl (.inl (cu c hc)), by rfl, fin _ rep_int⟩)
      · split at h
        · rename_i i _ h0 h1
          cases h
          subst h1
          exact .inl (.inl ⟨c, _, _, _, rfl, rfl, .inl (.inl (cu c hc)), by rfl, fin _ rep_int⟩)
        · cases h
    · cases h
  · unfold ixD at h
    split at h
    · obtain ⟨a, vs, rfl, s1, r1⟩ := rx
      rw [rT_int ry]
      obtain ⟨w, e, r⟩ := r1.at h
      exact .inl (.inr (.inl ⟨a, vs, _, w, rfl, rfl, s1, e, fin w r⟩))
    · obtain ⟨a, vs, rfl, _, s1, r1⟩ := rx
      rw [rT_int ry]
      obtain ⟨w, e, r⟩ := r1.at h
      exact .inl (.inl ⟨a, vs, _, w, rfl, rfl, .inl (.inl s1), e, fin w r⟩)
    · split at h
      · rename_i hz
        obtain ⟨c, e, rfl⟩ := Option.map_eq_some_iff.mp h
        rw [rT_str rx, rT_int ry]
        refine .inl (.inr (.inr ⟨_, _, c, rfl, rfl, by rw [str_len, line_eq]; exact hz, e, fin _ ?_⟩))
        exact rep_str (i := [c])
      · cases h
    · split at h
      · rename_i t ks ws hk
        obtain ⟨a, vs, rfl, hd, rs⟩ := rx
        obtain ⟨o, g, hl⟩ := dic_get hd rs hk ry
        rw [h] at hl
        obtain ⟨w, rfl, r⟩ := hl
        exact .inr ⟨a, w, rfl, g, fin w r⟩
      · cases h
    · cases h
end
end MP
set_option Elab.async false
set_option linter.all false
set_option maxRecDepth 100000
set_option maxHeartbeats 2000000
/-! MP9: tests, and/or, comparisons, builtins. -/
namespace MP
open PySem PySem.Spec PyProof.Rows L2
theorem okB_less {md : Nat → Nat} {c : E} (h : okB true md c = true) : okB false md c = true := by
  cases c with
  | var i =>
    have h1 : (md i == 0) = true := h
    show (md i != 2) = true
    have h2 : md i = 0 := by simpa using h1
    rw [h2]; rfl
  | glb d => exact absurd (show false = true from h) (by decide)
  | _ => exact h
theorem okB_of {b : Bool} {md : Nat → Nat} {c : E} (h : okB true md c = true) : okB b md c = true := by
  cases b with
  | true => exact h
  | false => exact okB_less h
theorem tru_of {R : Rc} {H : Hp} {F : Addr → Prop} {d : D} {v : V} {b : Bool} (r : RepT R H F d v) (h : truth d = some b) : TruV R.K v H b := by
  cases d with
  | non => rw [rT_non r]; cases h; rfl
  | bl c => rw [rT_bl r]; cases h; rfl
  | int i => rw [rT_int r]; cases h; rfl
  | str s =>
    rw [rT_str r]
    have h1 : (if s.length ≤ line then some (!s.isEmpty) else none) = some b := h
    split at h1
    · rename_i hz
      cases h1
      refine ⟨by rw [str_len, line_eq]; exact hz, ?_⟩
      rw [str_len]
      cases s <;> simp <;> omega
    · cases h1
  | tup xs =>
    obtain ⟨a, vs, rfl, s1, r1⟩ := r
    cases h
    refine .inr (.inl ⟨vs, s1, ?_⟩)
    have := r1.length
    cases xs <;> cases vs <;> simp_all
  | lst xs =>
    obtain ⟨a, vs, rfl, _, s1, r1⟩ := r
    cases h
    refine .inl ⟨vs, .inl (.inl s1), ?_⟩
    have := r1.length
    cases xs <;> cases vs <;> simp_all
  | dic t ks ws =>
    cases t with
    | true => cases h
    | false =>
      obtain ⟨a, vs, rfl, ⟨kvs, e, rfl, rfl⟩, r1⟩ := r
      cases h
      refine .inr (.inr ⟨kvs, e, ?_⟩)
      cases kvs <;> rfl
  | _ => cases h
/-- a test's reading -/
def tT (W : Wc) (X : Cx) (c : E) : TT := fun σ H Q =>
  ∃ C F md ρ κ, okB false md c = true ∧ Sit (W.rc X C) F md σ H ρ κ ∧
    wpO (bnd (ev W.call c ρ) (fun x => opt (truth x)) κ) (fun b κ' => ∀ H', Ext C H H' → Cup C H' κ' → Q b H') fun x κ' => ∀ H', Ext C H H' → Cup C H' κ' → W.XW x κ' H'
abbrev ST (W : Wc) (X : Cx) (e : Expr) (c : E) : Prop := PT X e (tT W X c)
section
variable {W : Wc} {X : Cx}
/-- a test by its value -/
theorem tT_tE {c : E} {σ : L2.St} {H : Hp} {Q : Bool → Hp → Prop} (h : tT W X c σ H Q) : tE W X false c σ H fun x H' => ∃ k, TruV X.K x H' k ∧ Q k H' := by
  obtain ⟨C, F, md, ρ, κ, hb, s, q⟩ := h
  refine sub (f := fun x => opt (truth x)) hb s q fun d v H1 κ1 x1 s1 r1 _ q1 => ?_
  obtain ⟨b, e, q2⟩ := wpO_opt q1
  exact ⟨b, tru_of (R := W.rc X C) r1 e, q2 H1 x1 s1.cup⟩
theorem st_val {e : Expr} {c : E} (h : SE W X false e c) (he : ∀ whole, isTrue e X.env whole = (do let v ← whole; standAt e.pos; holding [v] (truthy v))) : ST W X e c :=
  PT.imp (pt_truth h he) fun σ H Q q => tT_tE q
/-- of a bool -/
def isBl (c : E) : Prop := ∀ (C : Nat → List D → M D) (ρ : List D) (κ κ' : MP.K) (d : D), ev C c ρ κ = .ok d κ' → ∃ b, d = .bl b
theorem wpO_bl {C : Nat → List D → M D} {ρ : List D} {κ : MP.K} {c : E} (hc : isBl c) {Q : D → MP.K → Prop} {Z : Exn → MP.K → Prop} (h : wpO (ev C c ρ κ) Q Z) : wpO (ev C c ρ κ) (fun d κ' => (∃ b, d = .bl b) ∧ Q d κ') Z := by
  cases e : ev C c ρ κ with
  | ok d κ' => rw [e] at h; exact ⟨hc _ _ _ _ _ e, h⟩
  | exc x k => rw [e] at h; exact h
  | bad => rw [e] at h; exact h
theorem tT_bl {c : E} (hc : isBl c) {σ : L2.St} {H : Hp} {Q : Bool → Hp → Prop} (h : tT W X c σ H Q) : tE W X false c σ H fun x H' => ∃ k, x = .bl k ∧ Q k H' := by
  obtain ⟨C, F, md, ρ, κ, hb, s, q⟩ := h
  refine ⟨C, F, md, ρ, κ, hb, s, ?_⟩
  refine wpO_mono (wpO_bl hc (wpO_bnd q)) (fun d κ' ⟨⟨b, e⟩, hd⟩ v H' x cu r n => ?_) fun x κ' hx => hx
  subst e
  exact ⟨b, rT_bl (RepB.top r), hd H' x cu⟩
theorem st_not {a : Expr} {c : E} {pos} (h : ST W X a c) : ST W X (.UnaryOp .Not a pos) (.op1 .not c) := by
  refine PT.imp (pt_not h) fun σ H Q ⟨C, F, md, ρ, κ, hb, s, q⟩ => ?_
  refine ⟨C, F, md, ρ, κ, hb, s, ?_⟩
  have q1 := wpO_bnd q
  have q2 := wpO_bnd (m := ev W.call c ρ) (f := fun x => opt (op1 .not x)) q1
  unfold bnd
  cases e : ev W.call c ρ κ with
  | ok d κ' =>
    rw [e] at q2
    obtain ⟨y, e2, q3⟩ := wpO_opt (show wpO (opt (op1 .not d) κ') _ _ from q2)
    obtain ⟨b, e3, rfl⟩ := Option.map_eq_some_iff.mp (show (truth d).map (fun b => D.bl (!b)) = some y from e2)
    obtain ⟨b', e4, q4⟩ := wpO_opt q3
    cases e4
    show wpO (opt (truth d) κ') _ _
    rw [e3]
    exact q4
  | exc x k => rw [e] at q2; exact q2
  | bad => rw [e] at q2; exact False.elim q2
/-- a chain of and, or as a test -/
structure SW (W : Wc) (X : Cx) (e : Expr) (c : E) : Prop where
  run : PW X e (tT W X c)
theorem PW.imp {X : Cx} {e : Expr} {t t' : TT} (h : PW X e t) (i : ∀ σ H Q, t' σ H Q → t σ H Q) : PW X e t' := ⟨fun wh pins s σ H Q I q => h.run wh pins s σ H Q I (i σ H Q q)⟩
theorem sw_and1 {a : Expr} {c : E} {pos} (h : ST W X a c) : SW W X (.BoolOp .And [a] pos) c := ⟨pw_and1 h⟩
theorem sw_or1 {a : Expr} {c : E} {pos} (h : ST W X a c) : SW W X (.BoolOp .Or [a] pos) c := ⟨pw_or1 h⟩
theorem bnd_assoc {α β γ : Type} (m : M α) (f : α → M β) (g : β → M γ) : bnd (bnd m f) g = bnd m fun a => bnd (f a) g := by
  funext κ
  unfold bnd
  cases m κ <;> rfl
theorem bnd_ret {α β : Type} (a : α) (f : α → M β) : bnd (ret a) f = f a := rfl
theorem opt_some {α β : Type} {a : α} (f : α → M β) : bnd (opt (some a)) f = f a := rfl
theorem sub_T {C : Option Addr} {F : Addr → Prop} {md : Nat → Nat} {σ : L2.St} {H : Hp} {ρ : List D} {κ : MP.K} {c : E} {α : Type} {f : D → Bool → M α} {P : α → MP.K → Prop} (hb : okB false md c = true) (s : Sit (W.rc X C) F md σ H ρ κ)
    (h : wpO (bnd (ev W.call c ρ) (fun x => bnd (opt (truth x)) (f x)) κ) P fun x κ' => ∀ H', Ext C H H' → Cup C H' κ' → W.XW x κ' H') {Q' : Bool → Hp → Prop}
    (q : ∀ d b H' κ', Ext C H H' → truth d = some b → Sit (W.rc X C) F md σ H' ρ κ' → wpO (f d b κ') P (fun x κ'' => ∀ H'', Ext C H' H'' → Cup C H'' κ'' → W.XW x κ'' H'') → Q' b H') : tT W X c σ H Q' := by
  refine ⟨C, F, md, ρ, κ, hb, s, ?_⟩
  have h1 := wpO_bnd h
  unfold bnd
  cases e : ev W.call c ρ κ with
  | ok d κ' =>
    rw [e] at h1
    obtain ⟨b, e1, h2⟩ := wpO_opt (wpO_bnd (show wpO (bnd (opt (truth d)) (f d) κ') _ _ from h1))
    show wpO (opt (truth d) κ') _ _
    rw [e1]
    exact fun H' x cu => q d b H' κ' x e1 (s.ext x cu) (wpO_mono h2 (fun _ _ z => z) fun y κ'' hy H'' x' cu' => hy H'' (x.trans x') cu')
  | exc x k => rw [e] at h1; exact h1
  | bad => rw [e] at h1; exact h1
theorem truth_and {C : Nat → List D → M D} {a c : E} {ρ : List D} : bnd (ev C (.and a c) ρ) (fun x => opt (truth x)) = bnd (ev C a ρ) fun x => bnd (opt (truth x)) fun t => if t then bnd (ev C c ρ) (fun x => opt (truth x)) else opt (truth x) := by
  rw [ev, bnd_assoc]
  congr 1
  funext x
  rw [bnd_assoc]
  congr 1
  funext t
  cases t <;> rfl
theorem truth_or {C : Nat → List D → M D} {a c : E} {ρ : List D} : bnd (ev C (.or a c) ρ) (fun x => opt (truth x)) = bnd (ev C a ρ) fun x => bnd (opt (truth x)) fun t => if t then opt (truth x) else bnd (ev C c ρ) (fun x => opt (truth x)) := by
  rw [ev, bnd_assoc]
  congr 1
  funext x
  rw [bnd_assoc]
  congr 1
  funext t
  cases t <;> rfl
theorem sw_and {a b : Expr} {rest : List Expr} {ca cb : E} {pos} (ha : ST W X a ca) (hb : SW W X (.BoolOp .And (b :: rest) pos) cb) : SW W X (.BoolOp .And (a :: b :: rest) pos) (.and ca cb) := by
  refine ⟨PW.imp (pw_and ha hb.run) fun σ H Q ⟨C, F, md, ρ, κ, hk, s, q⟩ => ?_⟩
  have hk' : okB true md ca = true ∧ okB true md cb = true := Bool.and_eq_true_iff.mp hk
  rw [truth_and] at q
  refine sub_T (f := fun x t => if t = true then bnd (ev W.call cb ρ) (fun x => opt (truth x)) else opt (truth x)) (okB_less hk'.1) s q fun d t H1 κ1 x1 e1 s1 q1 => ?_
  cases t with
  | true =>
    show tT W X cb σ H1 Q
    exact ⟨C, F, md, ρ, κ1, okB_less hk'.2, s1, wpO_mono (show wpO (bnd (ev W.call cb ρ) _ κ1) _ _ from q1) (fun b κ2 z H2 x2 c2 => z H2 (x1.trans x2) c2) fun _ _ z => z⟩
  | false =>
    show Q false H1
    obtain ⟨b, e2, q2⟩ := wpO_opt (show wpO (opt (truth d) κ1) _ _ from q1)
    rw [e1] at e2; cases e2
    exact q2 H1 x1 s1.cup
theorem sw_or {a b : Expr} {rest : List Expr} {ca cb : E} {pos} (ha : ST W X a ca) (hb : SW W X (.BoolOp .Or (b :: rest) pos) cb) : SW W X (.BoolOp .Or (a :: b :: rest) pos) (.or ca cb) := by
  refine ⟨PW.imp (pw_or ha hb.run) fun σ H Q ⟨C, F, md, ρ, κ, hk, s, q⟩ => ?_⟩
  have hk' : okB true md ca = true ∧ okB true md cb = true := Bool.and_eq_true_iff.mp hk
  rw [truth_or] at q
  refine sub_T (f := fun x t => if t = true then opt (truth x) else bnd (ev W.call cb ρ) (fun x => opt (truth x))) (okB_less hk'.1) s q fun d t H1 κ1 x1 e1 s1 q1 => ?_
  cases t with
  | false =>
    show tT W X cb σ H1 Q
    exact ⟨C, F, md, ρ, κ1, okB_less hk'.2, s1, wpO_mono (show wpO (bnd (ev W.call cb ρ) _ κ1) _ _ from q1) (fun b κ2 z H2 x2 c2 => z H2 (x1.trans x2) c2) fun _ _ z => z⟩
  | true =>
    show Q true H1
    obtain ⟨b, e2, q2⟩ := wpO_opt (show wpO (opt (truth d) κ1) _ _ from q1)
    rw [e1] at e2; cases e2
    exact q2 H1 x1 s1.cup
theorem SW.st {e : Expr} {c : E} (h : SW W X e c) : ST W X e c := h.run.pt
/-! ### as values -/
/-- a value, and its truth -/
theorem sub_V {b : Bool} {C : Option Addr} {F : Addr → Prop} {md : Nat → Nat} {σ : L2.St} {H : Hp} {ρ : List D} {κ : MP.K} {c : E} {α : Type} {f : D → Bool → M α} {P : α → MP.K → Prop} (hb : okB b md c = true) (s : Sit (W.rc X C) F md σ H ρ κ)
    (h : wpO (bnd (ev W.call c ρ) (fun x => bnd (opt (truth x)) (f x)) κ) P fun x κ' => ∀ H', Ext C H H' → Cup C H' κ' → W.XW x κ' H') {Q' : VK}
    (q : ∀ d v b' H' κ', Ext C H H' → truth d = some b' → RepB b (W.rc X C) H' F d v → (frE W.fr c = true → NewT (W.rc X C) H H' F d v) → Sit (W.rc X C) F md σ H' ρ κ' → wpO (f d b' κ') P (fun x κ'' => ∀ H'', Ext C H' H'' → Cup C H'' κ'' → W.XW x κ'' H'') → Q' v H') : tE W X b c σ H Q' := by
  refine sub (f := fun x => bnd (opt (truth x)) (f x)) hb s h fun d v H1 κ1 x1 s1 r1 n1 q1 => ?_
  obtain ⟨b', e1, h2⟩ := wpO_opt (wpO_bnd q1)
  exact q d v b' H1 κ1 x1 e1 r1 n1 s1 h2
theorem se_and {bb : Bool} {a b : Expr} {rest : List Expr} {ca cb : E} {pos} (ha : SE W X true a ca) (hb : SE W X bb (.BoolOp .And (b :: rest) pos) cb) : SE W X bb (.BoolOp .And (a :: b :: rest) pos) (.and ca cb) := by
  refine PE.imp (pe_andT ha hb) fun σ H Q ⟨C, F, md, ρ, κ, hk, s, q⟩ => ?_
  have hk' : okB true md ca = true ∧ okB true md cb = true := Bool.and_eq_true_iff.mp hk
  refine sub_V (f := fun x t => if t = true then ev W.call cb ρ else ret x) hk'.1 s q fun d v t H1 κ1 x1 e1 r1 _ s1 q1 => ?_
  refine ⟨t, tru_of (Rep.top r1) e1, ?_⟩
  cases t with
  | true =>
    show tE W X bb cb σ H1 Q
    refine ⟨C, F, md, ρ, κ1, okB_of hk'.2, s1, wpO_mono (show wpO (ev W.call cb ρ κ1) _ _ from q1) (fun y κ2 z v2 H2 x2 c2 r2 _ => ?_) fun _ _ z => z⟩
    exact z v2 H2 (x1.trans x2) c2 r2 fun z => by cases z
  | false =>
    exact (show ∀ v H', _ from q1) v H1 x1 s1.cup (Rep.toB r1) fun z => by cases z
theorem se_or {bb : Bool} {a b : Expr} {rest : List Expr} {ca cb : E} {pos} (ha : SE W X true a ca) (hb : SE W X bb (.BoolOp .Or (b :: rest) pos) cb) : SE W X bb (.BoolOp .Or (a :: b :: rest) pos) (.or ca cb) := by
  refine PE.imp (pe_orT ha hb) fun σ H Q ⟨C, F, md, ρ, κ, hk, s, q⟩ => ?_
  have hk' : okB true md ca = true ∧ okB true md cb = true := Bool.and_eq_true_iff.mp hk
  refine sub_V (f := fun x t => if t = true then ret x else ev W.call cb ρ) hk'.1 s q fun d v t H1 κ1 x1 e1 r1 _ s1 q1 => ?_
  refine ⟨t, tru_of (Rep.top r1) e1, ?_⟩
  cases t with
  | false =>
    show tE W X bb cb σ H1 Q
    refine ⟨C, F, md, ρ, κ1, okB_of hk'.2, s1, wpO_mono (show wpO (ev W.call cb ρ κ1) _ _ from q1) (fun y κ2 z v2 H2 x2 c2 r2 _ => ?_) fun _ _ z => z⟩
    exact z v2 H2 (x1.trans x2) c2 r2 fun z => by cases z
  | true =>
    exact (show ∀ v H', _ from q1) v H1 x1 s1.cup (Rep.toB r1) fun z => by cases z
theorem se_one {bb : Bool} {op} {a : Expr} {c : E} {pos} (h : SE W X bb a c) : SE W X bb (.BoolOp op [a] pos) c := pe_one h
theorem se_not {bb : Bool} {a : Expr} {c : E} {pos} (ha : SE W X false a c) : SE W X bb (.UnaryOp .Not a pos) (.op1 .not c) := by
  refine se_o1 (o := .not) (r := fun x H Q => ∃ k, TruV X.K x H k ∧ Q (.bl (!k)) H) (pe_notT ha) ?_
  intro C F H κ Q x d u cf fh cu rx h q
  obtain ⟨b, e, rfl⟩ := Option.map_eq_some_iff.mp (show (truth x).map (fun b => D.bl (!b)) = some d from h)
  exact ⟨b, tru_of (RepB.top rx) e, q _ H Ext.refl cu rep_bl fun _ => trivial⟩
theorem se_ite {bb : Bool} {c a b : Expr} {cc ca cb : E} {pos} (hc : ST W X c cc) (ha : SE W X bb a ca) (hb : SE W X bb b cb) : SE W X bb (.IfExp c a b pos) (.ite cc ca cb) := by
  refine PE.imp (pe_ifExp hc ha hb) fun σ H Q ⟨C, F, md, ρ, κ, hk, s, q⟩ => ?_
  have hk0 : (okB true md cc && okB true md ca && okB true md cb) = true := hk
  obtain ⟨hk1, hk3⟩ := Bool.and_eq_true_iff.mp hk0
  obtain ⟨hk1, hk2⟩ := Bool.and_eq_true_iff.mp hk1
  refine sub_T (f := fun x t => if t = true then ev W.call ca ρ else ev W.call cb ρ) (okB_less hk1) s q fun d t H1 κ1 x1 e1 s1 q1 => ?_
  cases t with
  | true =>
    show tE W X bb ca σ H1 Q
    refine ⟨C, F, md, ρ, κ1, okB_of hk2, s1, wpO_mono (show wpO (ev W.call ca ρ κ1) _ _ from q1) (fun y κ2 z v2 H2 x2 c2 r2 n2 => ?_) fun _ _ z => z⟩
    exact z v2 H2 (x1.trans x2) c2 r2 fun z => newTop_up (R := W.rc X C) x1 s1.cup (n2 (Bool.and_eq_true_iff.mp z).1)
  | false =>
    show tE W X bb cb σ H1 Q
    refine ⟨C, F, md, ρ, κ1, okB_of hk3, s1, wpO_mono (show wpO (ev W.call cb ρ κ1) _ _ from q1) (fun y κ2 z v2 H2 x2 c2 r2 n2 => ?_) fun _ _ z => z⟩
    exact z v2 H2 (x1.trans x2) c2 r2 fun z => newTop_up (R := W.rc X C) x1 s1.cup (n2 (Bool.and_eq_true_iff.mp z).2)
/-! ### comparisons -/
/-- an operator whose answers are bools -/
def blO (o : Op2) : Prop := ∀ (x y : D) (κ κ' : MP.K) (d : D), op2M o x y κ = .ok d κ' → ∃ b, d = .bl b
theorem bl_map {α : Type} {o : Option α} {f : α → Bool} {κ κ' : MP.K} {d : D} (h : opt (o.map fun a => D.bl (f a)) κ = .ok d κ') : ∃ b, d = .bl b := by
  cases o with
  | none => cases h
  | some a => cases h; exact ⟨_, rfl⟩
theorem bl_lt : blO .lt := fun x y κ κ' d h => by
  have h : opt (ltDD x y) κ = .ok d κ' := h
  unfold ltDD at h
  split at h
  · cases h; exact ⟨_, rfl⟩
  · cases h
theorem bl_eq : blO .eq := fun x y κ κ' d h => bl_map (f := id) (o := eqD x y) h
theorem bl_ne : blO .ne := fun x y κ κ' d h => bl_map (f := fun b => !b) (o := eqD x y) h
theorem bl_is : blO .is := fun x y κ κ' d h => bl_map (f := id) (o := isB x y) h
theorem bl_isnot : blO .isnot := fun x y κ κ' d h => bl_map (f := fun b => !b) (o := isB x y) h
theorem bl_in : blO .isin := fun x y κ κ' d h => bl_map (f := id) (o := inD x y) h
theorem bl_notin : blO .notin := fun x y κ κ' d h => bl_map (f := fun b => !b) (o := inD x y) h
theorem opt_ok' {α : Type} {o : Option α} {κ κ' : MP.K} {d : α} (h : opt o κ = .ok d κ') : o = some d ∧ κ' = κ := by
  cases o with
  | none => cases h
  | some a => cases h; exact ⟨rfl, rfl⟩
theorem bl_le : blO .le := fun x y κ κ' d h => by
  have h := (opt_ok' (show opt (leD x y) κ = .ok d κ' from h)).1
  unfold leD at h
  split at h
  · cases h; exact ⟨_, rfl⟩
  · cases h
theorem bl_gt : blO .gt := fun x y κ κ' d h => by
  have h := (opt_ok' (show opt (gtD x y) κ = .ok d κ' from h)).1
  unfold gtD at h
  split at h
  · cases h; exact ⟨_, rfl⟩
  · cases h
theorem bl_ge : blO .ge := fun x y κ κ' d h => by
  have h := (opt_ok' (show opt (geD x y) κ = .ok d κ' from h)).1
  unfold geD at h
  split at h
  · cases h; exact ⟨_, rfl⟩
  · cases h
theorem bnd_ok {α β : Type} {m : M α} {f : α → M β} {κ κ' : MP.K} {b : β} (h : bnd m f κ = .ok b κ') : ∃ a κ1, m κ = .ok a κ1 ∧ f a κ1 = .ok b κ' := by
  unfold bnd at h
  cases e : m κ with
  | ok a κ1 => rw [e] at h; exact ⟨a, κ1, rfl, h⟩
  | exc x k => rw [e] at h; cases h
  | bad => rw [e] at h; cases h
theorem isBl_o2 {o : Op2} {a b : E} (h : blO o) : isBl (.op2 o a b) := fun C ρ κ κ' d e => by
  rw [ev] at e
  obtain ⟨x, κ1, _, e1⟩ := bnd_ok e
  obtain ⟨y, κ2, _, e2⟩ := bnd_ok e1
  exact h _ _ _ _ _ e2
theorem isBl_c2 {o p : Op2} {a b c : E} (h : blO p) : isBl (.cmp2 o p a b c) := fun C ρ κ κ' d e => by
  rw [ev] at e
  obtain ⟨x, κ1, _, e1⟩ := bnd_ok e
  obtain ⟨y, κ2, _, e2⟩ := bnd_ok e1
  obtain ⟨u, κ3, _, e3⟩ := bnd_ok e2
  split at e3
  · obtain ⟨z, κ4, _, e4⟩ := bnd_ok e3
    exact h _ _ _ _ _ e4
  · cases e3; exact ⟨_, rfl⟩
  · cases e3
theorem PT.of_tE {e : Expr} {c : E} {t : TT} (h : PT X e t) (i : ∀ σ H Q, tT W X c σ H Q → t σ H Q) : ST W X e c := PT.imp h i
theorem imp_o2 {bb : Bool} {o : Op2} {a b : E} {r : R2} (hk : Ok2 W X (frE W.fr (.op2 o a b)) o r) {σ : L2.St} {H : Hp} {Q : VK} (h : tE W X bb (.op2 o a b) σ H Q) : tOp r (tE W X (al2 o) a) (tE W X (al2 o) b) σ H Q := by
  obtain ⟨C, F, md, ρ, κ, hb, s, q⟩ := h
  have hb' : okB (al2 o) md a = true ∧ okB (al2 o) md b = true := Bool.and_eq_true_iff.mp hb
  refine sub (b := al2 o) (c := a) (f := fun x => bnd (ev W.call b ρ) fun y => op2M o x y) hb'.1 s q fun x u H1 κ1 x1 s1 r1 _ q1 => ?_
  refine sub (b := al2 o) (c := b) (f := fun y => op2M o x y) hb'.2 s1 q1 fun y v H2 κ2 x2 s2 r2 _ q2 => ?_
  rcases op2M_ok (o := o) (x := x) (y := y) (κ := κ2) with ⟨d, e⟩ | e
  · rw [e] at q2
    refine hk C F H2 κ2 Q x y d u v s2.cf s2.fh s2.cup (RepB.ext x2 r1) r2 e fun w H3 x3 c3 r3 n3 => ?_
    have q3 : ∀ v H', _ := q2
    exact q3 w H3 ((x1.trans x2).trans x3) c3 r3.toB fun z => newTop_up (R := W.rc X C) (x1.trans x2) s2.cup (n3 z)
  · rw [e] at q2; exact False.elim q2
theorem se_cmp {bb : Bool} {o : Op2} {op : CmpOp} {a b : Expr} {ca cb : E} {r : R2} {pos} (ho : OpR X (compareOp op) r) (hk : Ok2 W X (frE W.fr (.op2 o ca cb)) o r) (ha : SE W X (al2 o) a ca) (hb : SE W X (al2 o) b cb) (hm : behindInMarks op b = false) :
    SE W X bb (.Compare a [op] [b] pos) (.op2 o ca cb) := PE.imp (pe_cmpR ho ha hb hm) fun _ _ _ h => imp_o2 hk h
theorem st_cmp {o : Op2} {op : CmpOp} {a b : Expr} {ca cb : E} {r : R2} {pos} (hbl : blO o) (ho : OpR X (compareOp op) r) (hk : Ok2 W X (frE W.fr (.op2 o ca cb)) o r) (ha : SE W X (al2 o) a ca) (hb : SE W X (al2 o) b cb) (hm : behindInMarks op b = false) :
    ST W X (.Compare a [op] [b] pos) (.op2 o ca cb) := PT.imp (pt_cmpR ho ha hb hm) fun _ _ _ h => imp_o2 hk (tT_bl (isBl_o2 hbl) h)
theorem imp_c2 {bb : Bool} {o p : Op2} {a b c : E} {r r' : R2} (h1 : al2 o = false) (h2 : al2 p = false) (hbl : blO o) (hk : Ok2 W X false o r) (hk' : Ok2 W X false p r') {σ : L2.St} {H : Hp} {Q : VK} (h : tE W X bb (.cmp2 o p a b c) σ H Q) :
    tChain r r' (tE W X false a) (tE W X false b) (tE W X false c) σ H Q := by
  obtain ⟨C, F, md, ρ, κ, hb, s, q⟩ := h
  have hb0 : (okB false md a && okB false md b && okB false md c) = true := hb
  obtain ⟨hb1, hb3⟩ := Bool.and_eq_true_iff.mp hb0
  obtain ⟨hb1, hb2⟩ := Bool.and_eq_true_iff.mp hb1
  rw [ev] at q
  refine sub (b := false) (c := a) (f := fun x => bnd (ev W.call b ρ) fun y => bnd (op2M o x y) fun u => match u with
    | .bl true => bnd (ev W.call c ρ) fun z => op2M p y z
    | .bl false => ret (.bl false)
    | _ => bad) hb1 s q fun x u H1 κ1 x1 s1 r1 _ q1 => ?_
  refine sub (b := false) (c := b) (f := fun y => bnd (op2M o x y) fun u => match u with
    | .bl true => bnd (ev W.call c ρ) fun z => op2M p y z
    | .bl false => ret (.bl false)
    | _ => bad) hb2 s1 q1 fun y v H2 κ2 x2 s2 r2 _ q2 => ?_
  rcases op2M_ok (o := o) (x := x) (y := y) (κ := κ2) with ⟨d, e⟩ | e
  · obtain ⟨k, rfl⟩ := hbl _ _ _ _ _ e
    have q3 := wpO_bnd q2
    rw [e] at q3
    refine hk C F H2 κ2 _ x y (.bl k) u v s2.cf s2.fh s2.cup (by rw [h1]; exact RepB.ext x2 r1) (by rw [h1]; exact r2) e fun w H3 x3 c3 r3 _ => ?_
    have ew : w = .bl k := rT_bl (Rep.top r3)
    subst ew
    refine ⟨k, rfl, ?_⟩
    cases k with
    | true =>
      have s3 := s2.ext x3 c3
      refine sub (b := false) (c := c) (f := fun z => op2M p y z) (P := fun d κ' => ∀ v H', Ext C H3 H' → Cup C H' κ' → RepB bb (W.rc X C) H' F d v → (frE W.fr (E.cmp2 o p a b c) = true → NewT (W.rc X C) H H' F d v) → Q v H') hb3 s3 ?_ fun z w2 H4 κ4 x4 s4 r4 _ q4 => ?_
      · refine wpO_mono (show wpO (bnd (ev W.call c ρ) (fun z => op2M p y z) κ2) _ _ from q3) (fun d κ' z v H' x' => z v H' (((x1.trans x2).trans x3).trans x')) fun y κ' z H' x' cu' => z H' (x3.trans x') cu'
      · rcases op2M_ok (o := p) (x := y) (y := z) (κ := κ4) with ⟨d', e'⟩ | e'
        · rw [e'] at q4
          refine hk' C F H4 κ4 Q y z d' v w2 s4.cf s4.fh s4.cup (by rw [h2]; exact RepB.ext (x3.trans x4) r2) (by rw [h2]; exact r4) e' fun w5 H5 x5 c5 r5 _ => ?_
          exact (show ∀ v H', _ from q4) w5 H5 (x4.trans x5) c5 r5.toB fun z => by cases z
        · rw [e'] at q4; exact False.elim q4
    | false =>
      exact (show ∀ v H', _ from q3) (.bl false) H3 ((x1.trans x2).trans x3) c3 (rep_bl).toB fun z => by cases z
  · have q3 := wpO_bnd q2
    rw [e] at q3; exact False.elim q3
theorem se_cmp2 {bb : Bool} {o p : Op2} {op op' : CmpOp} {a b c : Expr} {ca cb cc : E} {r r' : R2} {pos} (h1 : al2 o = false) (h2 : al2 p = false) (hbl : blO o) (ho : OpR X (compareOp op) r) (ho' : OpR X (compareOp op') r') (hk : Ok2 W X false o r) (hk' : Ok2 W X false p r')
    (ha : SE W X false a ca) (hb : SE W X false b cb) (hc : SE W X false c cc) (hm : lastMarks [op, op'] [b, c] = false) : SE W X bb (.Compare a [op, op'] [b, c] pos) (.cmp2 o p ca cb cc) :=
  PE.imp (pe_chain ho ho' ha hb hc hm) fun _ _ _ h => imp_c2 h1 h2 hbl hk hk' h
theorem st_cmp2 {o p : Op2} {op op' : CmpOp} {a b c : Expr} {ca cb cc : E} {r r' : R2} {pos} (h1 : al2 o = false) (h2 : al2 p = false) (hbl : blO o) (hbl' : blO p) (ho : OpR X (compareOp op) r) (ho' : OpR X (compareOp op') r') (hk : Ok2 W X false o r) (hk' : Ok2 W X false p r')
    (ha : SE W X false a ca) (hb : SE W X false b cb) (hc : SE W X false c cc) (hm : lastMarks [op, op'] [b, c] = false) : ST W X (.Compare a [op, op'] [b, c] pos) (.cmp2 o p ca cb cc) :=
  PT.imp (pt_chain ho ho' ha hb hc hm) fun _ _ _ h => imp_c2 h1 h2 hbl hk hk' (tT_bl (isBl_c2 hbl') h)
end
end MP
set_option Elab.async false
set_option linter.all false
set_option maxRecDepth 100000
set_option maxHeartbeats 2000000
/-! MP10: builtins, slices. -/
namespace MP
open PySem PySem.Spec PyProof.Rows L2
section
variable {W : Wc} {X : Cx}
theorem se_neg {bb : Bool} {a : Expr} {c : E} {pos} (ha : SE W X false a c) : SE W X bb (.UnaryOp .USub a pos) (.op1 .neg c) := by
  refine se_o1 (o := .neg) (r := rU fun i => .int (-i)) (pe_un un_neg ha) ?_
  intro C F H κ Q x d u cf fh cu rx h q
  have h : negD x = some d := h
  unfold negD at h
  split at h
  · cases h; exact ⟨_, rT_int (RepB.top rx), q _ H Ext.refl cu rep_int fun _ => trivial⟩
  · cases h
/-- a builtin's call with one argument -/
theorem se_b1 {bb : Bool} {o : Op1} {id : String} {r : List V → Hp → VK → Prop} {e : Expr} {c : E} {x : Str} {p pos : Pos} (hc : CallR X (.builtin id) r) (hk : Ok1 W X (frE W.fr (.op1 o c)) o fun u => r [u]) (hv : bootBuiltins x = some (.builtin id)) (hg : Gl X x) (hm : X.mg x = none) (ha : SE W X (al1 o) e c)
    (hs : starEach [e] X.env = (false, eval e X.env) :: starEach [] X.env) (hn : x ≠ "__name__") (hdb : (x == ("__debug__" : Str)) = false) : SE W X bb (.Call (.Name x p) [e] [] pos) (.op1 o c) :=
  se_o1 (o := o) (r := fun u => r [u]) (pe_callB hc hg hm hv (pa_cons ha pa_nil hs) hn hdb hs) hk
theorem se_t1 {bb : Bool} {o : Op1} {T : String} {r : List V → Hp → VK → Prop} {e : Expr} {c : E} {x : Str} {p pos : Pos} (hc : CallR X (.type T) r) (hk : Ok1 W X (frE W.fr (.op1 o c)) o fun u => r [u]) (hv : bootBuiltins x = some (.type T)) (hg : Gl X x) (hm : X.mg x = none) (ha : SE W X (al1 o) e c)
    (hs : starEach [e] X.env = (false, eval e X.env) :: starEach [] X.env) (hn : x ≠ "__name__") (hdb : (x == ("__debug__" : Str)) = false) : SE W X bb (.Call (.Name x p) [e] [] pos) (.op1 o c) :=
  se_o1 (o := o) (r := fun u => r [u]) (pe_callTy hc hg hm hv (pa_cons ha pa_nil hs) hn hdb hs) hk
theorem se_b2 {bb : Bool} {o : Op2} {id : String} {r : List V → Hp → VK → Prop} {e f : Expr} {c d : E} {x : Str} {p pos : Pos} (hc : CallR X (.builtin id) r) (hk : Ok2 W X (frE W.fr (.op2 o c d)) o fun u v => r [u, v]) (hv : bootBuiltins x = some (.builtin id)) (hg : Gl X x) (hm : X.mg x = none) (ha : SE W X (al2 o) e c) (hb : SE W X (al2 o) f d)
    (hs : starEach [e, f] X.env = (false, eval e X.env) :: starEach [f] X.env) (hs2 : starEach [f] X.env = (false, eval f X.env) :: starEach [] X.env) (hn : x ≠ "__name__") (hdb : (x == ("__debug__" : Str)) = false) (hpl : (backTo pos (starEach [f] X.env)).any (·.1) = false) : SE W X bb (.Call (.Name x p) [e, f] [] pos) (.op2 o c d) :=
  se_o2 (o := o) (r := fun u v => r [u, v]) (pe_callB hc hg hm hv (pa_cons ha (pa_cons hb pa_nil hs2) hs) hn hdb hs hpl) hk
theorem se_t2 {bb : Bool} {o : Op2} {T : String} {r : List V → Hp → VK → Prop} {e f : Expr} {c d : E} {x : Str} {p pos : Pos} (hc : CallR X (.type T) r) (hk : Ok2 W X (frE W.fr (.op2 o c d)) o fun u v => r [u, v]) (hv : bootBuiltins x = some (.type T)) (hg : Gl X x) (hm : X.mg x = none) (ha : SE W X (al2 o) e c) (hb : SE W X (al2 o) f d)
    (hs : starEach [e, f] X.env = (false, eval e X.env) :: starEach [f] X.env) (hs2 : starEach [f] X.env = (false, eval f X.env) :: starEach [] X.env) (hn : x ≠ "__name__") (hdb : (x == ("__debug__" : Str)) = false) (hpl : (backTo pos (starEach [f] X.env)).any (·.1) = false) : SE W X bb (.Call (.Name x p) [e, f] [] pos) (.op2 o c d) :=
  se_o2 (o := o) (r := fun u v => r [u, v]) (pe_callTy hc hg hm hv (pa_cons ha (pa_cons hb pa_nil hs2) hs) hn hdb hs hpl) hk
/-! ### len -/
theorem call_lenD : CallR X (.builtin "len") (fun xs H Q => ∃ a kvs, xs = [V.ref a] ∧ H a = some (HO.dK kvs) ∧ Q (V.int kvs.length) H) := by
  intro pins s σ H xs us Q I r h
  obtain ⟨a, kvs, e, hd, q⟩ := h
  subst e
  obtain ⟨u, rfl, rx⟩ := vals1 r
  cases rx
  exact d_len I (.inl hd) fun t s' I' => ⟨.int kvs.length, H, I', ⟨t, rfl⟩, q⟩
theorem CallR.or {f : Value} {r r' : List V → Hp → VK → Prop} (h : CallR X f r) (h' : CallR X f r') : CallR X f (fun xs H Q => r xs H Q ∨ r' xs H Q) := by
  intro pins s σ H xs us Q I rx q
  rcases q with q | q
  · exact h pins s σ H xs us Q I rx q
  · exact h' pins s σ H xs us Q I rx q
theorem ok_len {fr : Bool} : Ok1 W X fr .len fun u H Q => (∃ x n, [u] = [x] ∧ LenV X.K x H n ∧ Q (.int n) H) ∨ ∃ a kvs, [u] = [.ref a] ∧ H a = some (.dK kvs) ∧ Q (V.int kvs.length) H := by
  intro C F H κ Q x d u cf fh cu rx h q
  have rx := RepB.top rx
  have h : lenD x = some d := h
  unfold lenD at h
  split at h
  · cases h
    obtain ⟨a, vs, rfl, s1, r1⟩ := rx
    exact .inl ⟨_, _, rfl, .inr ⟨vs, s1, (r1.length).symm⟩, q _ H Ext.refl cu rep_int fun _ => trivial⟩
  · cases h
    obtain ⟨a, vs, rfl, _, s1, r1⟩ := rx
    exact .inl ⟨_, _, rfl, .inl ⟨vs, .inl (.inl s1), (r1.length).symm⟩, q _ H Ext.refl cu rep_int fun _ => trivial⟩
  · split at h
    · rename_i hz
      cases h
      rw [rT_str rx]
      exact .inl ⟨_, _, rfl, ⟨by rw [str_len, line_eq]; exact hz, (str_len _).symm⟩, q _ H Ext.refl cu rep_int fun _ => trivial⟩
    · cases h
  · cases h
    obtain ⟨a, vs, rfl, ⟨kvs, e, rfl, rfl⟩, r1⟩ := rx
    refine .inr ⟨a, kvs, rfl, e, ?_⟩
    exact q (.int kvs.length) H Ext.refl cu (by rw [List.length_map]; exact rep_int) fun _ => trivial
  · cases h
theorem se_len {bb : Bool} {e : Expr} {c : E} {p pos : Pos} (hg : Gl X "len") (hm : X.mg "len" = none) (ha : SE W X false e c) (hs : starEach [e] X.env = (false, eval e X.env) :: starEach [] X.env := by rfl) : SE W X bb (.Call (.Name "len" p) [e] [] pos) (.op1 .len c) :=
  se_b1 (o := .len) (CallR.or call_len call_lenD) ok_len boot_len hg hm ha hs (by decide) (by decide)
/-! ### tuple, list -/
theorem reps_rg {R : Rc} {H : Hp} {F : Addr → Prop} {lo hi : Int} : Reps R H F (rangeL lo hi) (rgV lo hi) := by
  have : rangeL lo hi = ((List.range (hi - lo).toNat).map fun (k : Nat) => lo + (k : Int)).map D.int := by unfold rangeL; rw [List.map_map]; rfl
  rw [this]
  have : rgV lo hi = ((List.range (hi - lo).toNat).map fun (k : Nat) => lo + (k : Int)).map V.int := by unfold rgV; rw [List.map_map]; rfl
  rw [this]
  exact reps_ints
theorem small_of {lo hi : Int} (h : small lo hi = true) : RgOk lo hi := by
  unfold small at h
  have := of_decide_eq_true h
  exact ⟨this.1, this.2.1, this.2.2.1, this.2.2.2.1, by omega⟩
def rLstRg : List V → Hp → VK → Prop := fun xs H Q => ∃ a lo hi, xs = [.ref a] ∧ H a = some (.rng lo hi) ∧ RgOk lo hi ∧ ∀ q, H q = none → Q (.ref q) (upd H q (.lst (rgV lo hi)))
def rTupRg : List V → Hp → VK → Prop := fun xs H Q => ∃ a lo hi, xs = [.ref a] ∧ H a = some (.rng lo hi) ∧ RgOk lo hi ∧ ∀ q, H q = none → Q (.ref q) (upd H q (.tup (rgV lo hi)))
theorem call_lstRg (hc : X.calm = true) : CallR X (.type "list") rLstRg := by
  intro pins s1 σ H1 xs us Q I1 r h
  obtain ⟨ra, a, b, e, hr, ⟨b1, b2, b3, b4, b5⟩, q⟩ := h
  subst e
  obtain ⟨u, rfl, rx⟩ := vals1 r
  cases rx
  obtain ⟨t, u, v, hr⟩ := (show ObjOk X.prog X.w H1 s1.heap ra (.rng a b) from I1.hok ra _ hr)
  refine call_list_range (n := (b - a).toNat) (I1.ok.hd hc) hr (small_one b1 b2 b3 b4) (rangeSize_nat a b) b5 fun h' tk acc c' hk e' hi => ?_
  refine ⟨.ref s1.heap.objs.size, upd H1 s1.heap.objs.size (.lst (rgV a b)), I1.laid hk (Nat.le_refl _) (show ObjOk X.prog X.w _ _ _ (.lst (rgV a b)) from ⟨?_, acc.toList, c', vals_rg hi, ?_⟩), rfl, q _ (I1.hok.fresh (Nat.le_refl _))⟩
  · rw [rgV_length, sizeLine_eq]; omega
  · rw [Array.toArray_toList]; exact e'
theorem call_tupRg (hc : X.calm = true) : CallR X (.type "tuple") rTupRg := by
  intro pins s1 σ H1 xs us Q I1 r h
  obtain ⟨ra, a, b, e, hr, ⟨b1, b2, b3, b4, b5⟩, q⟩ := h
  subst e
  obtain ⟨u, rfl, rx⟩ := vals1 r
  cases rx
  obtain ⟨t, u, v, hr⟩ := (show ObjOk X.prog X.w H1 s1.heap ra (.rng a b) from I1.hok ra _ hr)
  refine call_tuple_range (n := (b - a).toNat) (I1.ok.hd hc) hr (small_one b1 b2 b3 b4) (rangeSize_nat a b) b5 fun h' tk acc hk hi => ?_
  have I2 : Inv X pins σ H1 { s1 with heap := h', toks := tk } := I1.kept hk
  refine ⟨.ref h'.objs.size, upd H1 h'.objs.size (.tup (rgV a b)), I2.laid (t' := tk) (fun c o e => Heap.get?_push_of_some _ e) (Nat.le_refl _) (show ObjOk X.prog X.w _ _ _ (.tup (rgV a b)) from ⟨?_, acc.toList, vals_rg hi, ?_⟩), rfl, q _ (I2.hok.fresh (Nat.le_refl _))⟩
  · rw [rgV_length, sizeLine_eq]; omega
  · rw [Array.toArray_toList]; exact IsTup.new _ _
def rTupOf (K : PySem.W.Frag) : List V → Hp → VK → Prop := fun xs H Q => ∃ p ys, xs = [.ref p] ∧ ((SqL K H p ys ∧ ∀ l, H l = none → Q (.ref l) (upd H l (.tup ys))) ∨ (SqT K H p ys ∧ Q (.ref p) H))
def rLstOf (K : PySem.W.Frag) : List V → Hp → VK → Prop := fun xs H Q => ∃ p ys, xs = [.ref p] ∧ (SqL K H p ys ∨ SqT K H p ys) ∧ ∀ l, H l = none → Q (.ref l) (upd H l (.lst ys))
theorem ok_tuple {fr : Bool} : Ok1 W X fr .tuple fun u H Q => rTupOf X.K [u] H Q ∨ rTupRg [u] H Q := by
  intro C F H κ Q x d u cf fh cu rx h q
  have rx : Rep (W.rc X C) H F x u := rx
  have h : tupleD x = some d := h
  unfold tupleD at h
  split at h
  · cases h
    obtain ⟨a, vs, rfl, _, s1, r1⟩ := Rep.top rx
    exact .inl ⟨a, vs, rfl, .inl ⟨.inl (.inl s1), fun p hp => q _ _ (Ext.upd hp) (cu.upd hp) (rep_new_tup hp r1) fun _ => trivial⟩⟩
  · cases h
    obtain ⟨a, vs, rfl, s1, r1⟩ := rep_tup rx
    exact .inl ⟨a, vs, rfl, .inr ⟨s1.sq, q _ H Ext.refl cu rx fun _ => trivial⟩⟩
  · split at h
    · rename_i hz
      cases h
      obtain ⟨a, rfl, e⟩ := rT_rng rx.top
      exact .inr ⟨a, _, _, rfl, e, small_of hz, fun p hp => q _ _ (Ext.upd hp) (cu.upd hp) (rep_new_tup hp reps_rg) fun _ => trivial⟩
    · cases h
  · cases h
theorem kV_rep {R : Rc} {H : Hp} {F : Addr → Prop} (k : Key) : Rep R H F (keyD k) (kV k) := by
  cases k with
  | inl i => exact rep_int
  | inr x => obtain ⟨x⟩ := x; simp only [keyD, Rep]; rfl
theorem reps_kV {R : Rc} {H : Hp} {F : Addr → Prop} : ∀ (kvs : List (Key × V)), Reps R H F (kvs.map fun p => keyD p.1) (kvs.map fun kv => kV kv.1)
  | [] => by simp only [List.map_nil, Reps]
  | p :: kvs => by
    simp only [List.map_cons, Reps]
    exact ⟨_, _, rfl, kV_rep _, reps_kV kvs⟩
theorem ok_list : Ok1 W X true .list fun u H Q => rLstOf X.K [u] H Q ∨ rLstRg [u] H Q ∨ rListD [u] H Q := by
  intro C F H κ Q x d u cf fh cu rx h q
  have rx := RepB.top rx
  have h : listD x = some d := h
  have fin : ∀ (ds : List D) (vs : List V), d = .lst ds → Reps (W.rc X C) H F ds vs → ∀ p, H p = none → Q (.ref p) (upd H p (.lst vs)) := fun ds vs e r p hp => by
    subst e
    exact q _ _ (Ext.upd hp) (cu.upd hp) (rep_new_lst hp cu fh r) fun _ => newT_lst hp cu r
  unfold listD at h
  split at h
  · rename_i ns _ _
    cases h
    have rx : ∃ a, u = .ref a ∧ ScrAt X.K H a ns := by simpa only [RepT, Rep] using rx
    obtain ⟨a, rfl, e⟩ := rx
    exact .inl ⟨a, _, rfl, .inl e.sq, fin _ _ rfl reps_ints⟩
  · cases h
    obtain ⟨a, vs, rfl, _, s1, r1⟩ := rx
    exact .inl ⟨a, vs, rfl, .inl (.inl (.inl s1)), fin _ _ rfl r1⟩
  · cases h
    obtain ⟨a, vs, rfl, s1, r1⟩ := rx
    exact .inl ⟨a, vs, rfl, .inr s1, fin _ _ rfl r1⟩
  · split at h
    · rename_i hz
      cases h
      obtain ⟨a, rfl, e⟩ := rT_rng rx
      exact .inr (.inl ⟨a, _, _, rfl, e, small_of hz, fin _ _ rfl reps_rg⟩)
    · cases h
  · cases h
    obtain ⟨a, vs, rfl, ⟨kvs, e, rfl, rfl⟩, r1⟩ := rx
    exact .inr (.inr ⟨a, kvs, rfl, e, fin _ _ rfl (reps_kV kvs)⟩)
  · cases h
theorem se_tuple {bb : Bool} {e : Expr} {c : E} {p pos : Pos} (hc : X.calm = true) (hg : Gl X "tuple") (hm : X.mg "tuple" = none) (ha : SE W X true e c) (hs : starEach [e] X.env = (false, eval e X.env) :: starEach [] X.env := by rfl) : SE W X bb (.Call (.Name "tuple" p) [e] [] pos) (.op1 .tuple c) :=
  se_t1 (o := .tuple) (CallR.or call_tuple_of (call_tupRg hc)) ok_tuple boot_tuple hg hm ha hs (by decide) (by decide)
theorem se_list {bb : Bool} {e : Expr} {c : E} {p pos : Pos} (hc : X.calm = true) (hg : Gl X "list") (hm : X.mg "list" = none) (ha : SE W X false e c) (hs : starEach [e] X.env = (false, eval e X.env) :: starEach [] X.env := by rfl) : SE W X bb (.Call (.Name "list" p) [e] [] pos) (.op1 .list c) :=
  se_t1 (o := .list) (CallR.or call_list_of (CallR.or (call_lstRg hc) (call_list_dK hc))) ok_list boot_list hg hm ha hs (by decide) (by decide)
/-! ### int, str, abs -/
theorem ok_int {fr : Bool} : Ok1 W X fr .int fun u H Q => (∃ i, [u] = [V.int i] ∧ Q (.int i) H) ∨ ∃ k, [u] = [V.bl k] ∧ Q (.int (if k then 1 else 0)) H := by
  intro C F H κ Q x d u cf fh cu rx h q
  have rx := RepB.top rx
  have h : intD x = some d := h
  unfold intD at h
  split at h
  · cases h; rw [rT_int rx]; exact .inl ⟨_, rfl, q _ H Ext.refl cu rep_int fun _ => trivial⟩
  · cases h; rw [rT_bl rx]; exact .inr ⟨_, rfl, q _ H Ext.refl cu rep_int fun _ => trivial⟩
  · cases h
theorem se_int {bb : Bool} {e : Expr} {c : E} {p pos : Pos} (hg : Gl X "int") (hm : X.mg "int" = none) (ha : SE W X false e c) (hs : starEach [e] X.env = (false, eval e X.env) :: starEach [] X.env := by rfl) : SE W X bb (.Call (.Name "int" p) [e] [] pos) (.op1 .int c) :=
  se_t1 (o := .int) call_int1 ok_int PyProof.Rows.boot_int hg hm ha hs (by decide) (by decide)
theorem ok_str {fr : Bool} : Ok1 W X fr .str fun u H Q => ∃ a, [u] = [V.str a] ∧ Q (.str a) H := by
  intro C F H κ Q x d u cf fh cu rx h q
  have rx := RepB.top rx
  have h : strD x = some d := h
  unfold strD at h
  split at h
  · cases h; rw [rT_str rx]; exact ⟨_, rfl, q _ H Ext.refl cu rep_str fun _ => trivial⟩
  · cases h
theorem se_str {bb : Bool} {e : Expr} {c : E} {p pos : Pos} (hg : Gl X "str") (hm : X.mg "str" = none) (ha : SE W X true e c) (hs : starEach [e] X.env = (false, eval e X.env) :: starEach [] X.env := by rfl) : SE W X bb (.Call (.Name "str" p) [e] [] pos) (.op1 .str c) :=
  se_t1 (o := .str) SkE.call_str_str ok_str PyProof.Rows.boot_str hg hm ha hs (by decide) (by decide)
theorem ok_abs {fr : Bool} : Ok1 W X fr .abs fun u H Q => ∃ i, [u] = [V.int i] ∧ Q (.int (if i < 0 then -i else i)) H := by
  intro C F H κ Q x d u cf fh cu rx h q
  have rx := RepB.top rx
  have h : absD x = some d := h
  unfold absD at h
  split at h
  · cases h; rw [rT_int rx]; exact ⟨_, rfl, q _ H Ext.refl cu rep_int fun _ => trivial⟩
  · cases h
theorem se_abs {bb : Bool} {e : Expr} {c : E} {p pos : Pos} (hg : Gl X "abs") (hm : X.mg "abs" = none) (ha : SE W X false e c) (hs : starEach [e] X.env = (false, eval e X.env) :: starEach [] X.env := by rfl) : SE W X bb (.Call (.Name "abs" p) [e] [] pos) (.op1 .abs c) :=
  se_b1 (o := .abs) call_abs ok_abs boot_abs hg hm ha hs (by decide) (by decide)
/-! ### all, any, sum -/
theorem reps_bls {R : Rc} {H : Hp} {F : Addr → Prop} : ∀ {bs : List Bool} {vs : List V}, Reps R H F (bs.map D.bl) vs → vs = bs.map V.bl
  | [], vs, h => by simpa only [List.map_nil, Reps] using h
  | n :: ns, vs, h => by
    simp only [List.map_cons, Reps, Rep] at h
    obtain ⟨v, r, rfl, rfl, h2⟩ := h
    rw [List.map_cons, reps_bls h2]
theorem ok_all {fr : Bool} : Ok1 W X fr .all fun u H Q => rAll X.K [u] H Q := by
  intro C F H κ Q x d u cf fh cu rx h q
  have rx := RepB.top rx
  have h : allD x = some d := h
  unfold allD lstOf at h
  obtain ⟨xs, h1, h2⟩ := Option.bind_eq_some_iff.mp h
  obtain ⟨bs, h3, rfl⟩ := Option.map_eq_some_iff.mp h2
  split at h1
  · cases h1
    obtain ⟨a, vs, rfl, _, s1, r1⟩ := rx
    rw [bools_map h3] at r1
    rw [reps_bls r1] at s1
    exact ⟨a, bs, rfl, .inl (.inl s1), q _ H Ext.refl cu rep_bl fun _ => trivial⟩
  · cases h1
theorem ok_any {fr : Bool} : Ok1 W X fr .any fun u H Q => rAny X.K [u] H Q := by
  intro C F H κ Q x d u cf fh cu rx h q
  have rx := RepB.top rx
  have h : anyD x = some d := h
  unfold anyD lstOf at h
  obtain ⟨xs, h1, h2⟩ := Option.bind_eq_some_iff.mp h
  obtain ⟨bs, h3, rfl⟩ := Option.map_eq_some_iff.mp h2
  split at h1
  · cases h1
    obtain ⟨a, vs, rfl, _, s1, r1⟩ := rx
    rw [bools_map h3] at r1
    rw [reps_bls r1] at s1
    exact ⟨a, bs, rfl, .inl (.inl s1), q _ H Ext.refl cu rep_bl fun _ => trivial⟩
  · cases h1
theorem se_all {bb : Bool} {e : Expr} {c : E} {p pos : Pos} (hc : X.calm = true) (hg : Gl X "all") (hm : X.mg "all" = none) (ha : SE W X false e c) (hs : starEach [e] X.env = (false, eval e X.env) :: starEach [] X.env := by rfl) : SE W X bb (.Call (.Name "all" p) [e] [] pos) (.op1 .all c) :=
  se_b1 (o := .all) (cr_all hc) ok_all boot_all hg hm ha hs (by decide) (by decide)
theorem se_any {bb : Bool} {e : Expr} {c : E} {p pos : Pos} (hc : X.calm = true) (hg : Gl X "any") (hm : X.mg "any" = none) (ha : SE W X false e c) (hs : starEach [e] X.env = (false, eval e X.env) :: starEach [] X.env := by rfl) : SE W X bb (.Call (.Name "any" p) [e] [] pos) (.op1 .any c) :=
  se_b1 (o := .any) (cr_any hc) ok_any boot_any hg hm ha hs (by decide) (by decide)
/-! ### range -/
theorem cr_range1 : CallR X (.type "range") (fun vs H Q => ∃ j, vs = [V.int j] ∧ ∀ p, H p = none → Q (.ref p) (upd H p (.rng 0 j))) := by
  intro pins s σ H vs us Q I r h
  obtain ⟨j, rfl, q⟩ := h
  obtain ⟨u1, rfl, ri⟩ := vals1 r
  obtain ⟨t, rfl⟩ := ri
  refine call_range_1 ⟨.ref s.heap.objs.size, upd H s.heap.objs.size (.rng 0 j), I.laid (fun b o e => Heap.get?_push_of_some _ e) (Nat.le_refl _) ?_, rfl, q _ (I.hok.fresh (Nat.le_refl _))⟩
  exact ⟨_, _, _, Heap.get?_push_size _ rfl⟩
theorem rep_new_rng {R : Rc} {H : Hp} {F : Addr → Prop} {p : Addr} {i j : Int} : Rep R (upd H p (.rng i j)) F (.rng i j) (.ref p) := by
  simp only [Rep]; exact ⟨p, rfl, upd_same⟩
theorem ok_range1 {fr : Bool} : Ok1 W X fr .range1 fun u H Q => ∃ j, [u] = [V.int j] ∧ ∀ p, H p = none → Q (.ref p) (upd H p (.rng 0 j)) := by
  intro C F H κ Q x d u cf fh cu rx h q
  have rx := RepB.top rx
  have h : range1D x = some d := h
  unfold range1D at h
  split at h
  · split at h
    · cases h; rw [rT_int rx]; exact ⟨_, rfl, fun p hp => q _ _ (Ext.upd hp) (cu.upd hp) rep_new_rng fun _ => trivial⟩
    · cases h
  · cases h
theorem se_range1 {bb : Bool} {e : Expr} {c : E} {p pos : Pos} (hg : Gl X "range") (hm : X.mg "range" = none) (ha : SE W X false e c) (hs : starEach [e] X.env = (false, eval e X.env) :: starEach [] X.env := by rfl) : SE W X bb (.Call (.Name "range" p) [e] [] pos) (.op1 .range1 c) :=
  se_t1 (o := .range1) cr_range1 ok_range1 PyProof.Rows.boot_range hg hm ha hs (by decide) (by decide)
theorem ok_range2 {fr : Bool} : Ok2 W X fr .range2 fun u v H Q => ∃ i j, [u, v] = [V.int i, V.int j] ∧ ∀ p, H p = none → Q (.ref p) (upd H p (.rng i j)) := by
  intro C F H κ Q x y d u v cf fh cu rx ry h q
  have rx := RepB.top rx
  have ry := RepB.top ry
  have h := opt_ok (show opt (range2D x y) κ = .ok d κ from h)
  unfold range2D at h
  split at h
  · split at h
    · cases h; rw [rT_int rx, rT_int ry]; exact ⟨_, _, rfl, fun p hp => q _ _ (Ext.upd hp) (cu.upd hp) rep_new_rng fun _ => trivial⟩
    · cases h
  · cases h
theorem se_range2 {bb : Bool} {e f : Expr} {c d : E} {p pos : Pos} (hg : Gl X "range") (hm : X.mg "range" = none) (ha : SE W X false e c) (hb : SE W X false f d) (hs : starEach [e, f] X.env = (false, eval e X.env) :: starEach [f] X.env := by rfl) (hs2 : starEach [f] X.env = (false, eval f X.env) :: starEach [] X.env := by rfl)
    (hpl : (backTo pos (starEach [f] X.env)).any (·.1) = false := by rfl) : SE W X bb (.Call (.Name "range" p) [e, f] [] pos) (.op2 .range2 c d) :=
  se_t2 (o := .range2) cr_range2 ok_range2 PyProof.Rows.boot_range hg hm ha hb hs hs2 (by decide) (by decide) hpl
theorem ok_max2 {fr : Bool} : Ok2 W X fr .max2 fun u v H Q => ∃ i j, [u, v] = [V.int i, V.int j] ∧ Q (.int (if j > i then j else i)) H := by
  intro C F H κ Q x y d u v cf fh cu rx ry h q
  have rx := RepB.top rx
  have ry := RepB.top ry
  have h := opt_ok (show opt (max2D x y) κ = .ok d κ from h)
  unfold max2D at h
  split at h
  · cases h; rw [rT_int rx, rT_int ry]; exact ⟨_, _, rfl, q _ H Ext.refl cu rep_int fun _ => trivial⟩
  · cases h
theorem ok_min2 {fr : Bool} : Ok2 W X fr .min2 fun u v H Q => ∃ i j, [u, v] = [V.int i, V.int j] ∧ Q (.int (if j < i then j else i)) H := by
  intro C F H κ Q x y d u v cf fh cu rx ry h q
  have rx := RepB.top rx
  have ry := RepB.top ry
  have h := opt_ok (show opt (min2D x y) κ = .ok d κ from h)
  unfold min2D at h
  split at h
  · cases h; rw [rT_int rx, rT_int ry]; exact ⟨_, _, rfl, q _ H Ext.refl cu rep_int fun _ => trivial⟩
  · cases h
theorem se_max2 {bb : Bool} {e f : Expr} {c d : E} {p pos : Pos} (hc : X.calm = true) (hg : Gl X "max") (hm : X.mg "max" = none) (ha : SE W X false e c) (hb : SE W X false f d) (hs : starEach [e, f] X.env = (false, eval e X.env) :: starEach [f] X.env := by rfl) (hs2 : starEach [f] X.env = (false, eval f X.env) :: starEach [] X.env := by rfl)
    (hpl : (backTo pos (starEach [f] X.env)).any (·.1) = false := by rfl) : SE W X bb (.Call (.Name "max" p) [e, f] [] pos) (.op2 .max2 c d) :=
  se_b2 (o := .max2) (call_max2 hc) ok_max2 boot_max hg hm ha hb hs hs2 (by decide) (by decide) hpl
theorem se_min2 {bb : Bool} {e f : Expr} {c d : E} {p pos : Pos} (hc : X.calm = true) (hg : Gl X "min") (hm : X.mg "min" = none) (ha : SE W X false e c) (hb : SE W X false f d) (hs : starEach [e, f] X.env = (false, eval e X.env) :: starEach [f] X.env := by rfl) (hs2 : starEach [f] X.env = (false, eval f X.env) :: starEach [] X.env := by rfl)
    (hpl : (backTo pos (starEach [f] X.env)).any (·.1) = false := by rfl) : SE W X bb (.Call (.Name "min" p) [e, f] [] pos) (.op2 .min2 c d) :=
  se_b2 (o := .min2) (call_min2 hc) ok_min2 boot_min hg hm ha hb hs hs2 (by decide) (by decide) hpl
/-! ### isinstance -/
def tyN : Ty → String
  | .tuple => "tuple"
  | .int => "int"
  | .bool => "bool"
  | .str => "str"
  | .list => "list"
def isiB (a b : String) : Bool := (kitB a b == some true) || (kitB a b == some false)
theorem kitI {a : String} {t : Ty} {b : Bool} (ha : a = "NoneType" ∨ a = "bool" ∨ a = "int" ∨ a = "str" ∨ a = "tuple" ∨ a = "list") (h : b = (a == tyN t || (a == "bool" && tyN t == "int"))) : kitB a (tyN t) = some b := by
  subst h
  rcases ha with rfl | rfl | rfl | rfl | rfl | rfl <;> cases t <;> decide +kernel
theorem sq_ty {K : PySem.W.Frag} {H : Hp} {a : Addr} {vs : List V} (h : SqT K H a vs) : TyX K H (.ref a) (.type "tuple") := by
  rcases h with (e | ⟨o, e⟩) | ⟨o, its, n, e, c, _⟩
  · exact .base (.tup e)
  · exact .fTuple e
  · exact .kTuple e c
theorem isi_core {R : Rc} {H : Hp} {F : Addr → Prop} {x : D} {t : Ty} {u : V} {b : Bool} (rx : RepT R H F x u) (h : isT x t = some b) : ∃ ty : String, TyX R.K H u (.type ty) ∧ kitB ty (tyN t) = some b := by
  cases x with
  | non => rw [rT_non rx]; exact ⟨_, .base .non, kitI (.inl rfl) (by cases t <;> (simp only [isT] at h; cases h; decide))⟩
  | bl k => rw [rT_bl rx]; exact ⟨_, .base (.bl k), kitI (.inr (.inl rfl)) (by cases t <;> (simp only [isT] at h; cases h; decide))⟩
  | int k => rw [rT_int rx]; exact ⟨_, .base (.int k), kitI (.inr (.inr (.inl rfl))) (by cases t <;> (simp only [isT] at h; cases h; decide))⟩
  | str k => rw [rT_str rx]; exact ⟨_, .base (.str _), kitI (.inr (.inr (.inr (.inl rfl)))) (by cases t <;> (simp only [isT] at h; cases h; decide))⟩
  | tup xs =>
    obtain ⟨a, vs, rfl, s1, _⟩ := rx
    exact ⟨_, sq_ty s1, kitI (.inr (.inr (.inr (.inr (.inl rfl))))) (by cases t <;> (simp only [isT] at h; cases h; decide))⟩
  | lst xs =>
    obtain ⟨a, vs, rfl, _, s1, _⟩ := rx
    exact ⟨_, .base (.lst s1), kitI (.inr (.inr (.inr (.inr (.inr rfl))))) (by cases t <;> (simp only [isT] at h; cases h; decide))⟩
  | _ => simp only [isT] at h; cases h
theorem pe_tyN {x : Str} {T : String} {p : Pos} (hg : Gl X x) (hm : X.mg x = none) (hv : bootBuiltins x = some (.type T)) (hn : x ≠ "__name__" := by decide) (hdb : (x == ("__debug__" : Str)) = false := by decide) : PE X (.Name x p) (tC (.ty T)) :=
  ⟨fun pins s σ H Q I h => ld_blt I hg hm hv ⟨.ty T, H, I, rfl, h⟩ hn hdb⟩
theorem se_isi {bb : Bool} {e : Expr} {c : E} {x : Str} {t : Ty} {p p2 pos : Pos} (hg : Gl X "isinstance") (hm : X.mg "isinstance" = none) (hg2 : Gl X x) (hm2 : X.mg x = none) (hv : bootBuiltins x = some (.type (tyN t))) (ha : SE W X false e c)
    (hs : starEach [e, .Name x p2] X.env = (false, eval e X.env) :: starEach [.Name x p2] X.env := by rfl) (hs2 : starEach [.Name x p2] X.env = (false, eval (.Name x p2) X.env) :: starEach [] X.env := by rfl)
    (hpl : (backTo pos (starEach [.Name x p2] X.env)).any (·.1) = false := by rfl) (hn : x ≠ "__name__" := by decide) (hdb : (x == ("__debug__" : Str)) = false := by decide) : SE W X bb (.Call (.Name "isinstance" p) [e, .Name x p2] [] pos) (.isi c t) := by
  refine PE.imp (pe_callB call_isi hg hm boot_isinstance (pa_cons ha (pa_cons (pe_tyN hg2 hm2 hv hn hdb) pa_nil hs2) hs) (by decide) (by decide) hs hpl) fun σ H Q ⟨C, F, md, ρ, κ, hb, s, q⟩ => ?_
  refine sub (b := false) (f := fun x => opt ((isT x t).map D.bl)) hb s (show wpO (bnd (ev W.call c ρ) (fun x => opt ((isT x t).map D.bl)) κ) _ _ from q) fun d v H1 κ1 x1 s1 r1 _ q1 => ?_
  obtain ⟨y, e1, q2⟩ := wpO_opt q1
  obtain ⟨b, e2, rfl⟩ := Option.map_eq_some_iff.mp e1
  obtain ⟨ty, h1, h2⟩ := isi_core (R := W.rc X C) r1 e2
  exact ⟨v, .ty (tyN t), _, _, b, rfl, .ty _, h1, kit_ty h2, q2 _ H1 x1 s1.cup (rep_bl).toB fun z => by cases z⟩
end
end MP
set_option Elab.async false
set_option linter.all false
set_option maxRecDepth 100000
set_option maxHeartbeats 2000000
/-! MP11: what stands, walks, targets. -/
namespace MP
open PySem PySem.Spec PyProof.Rows L2
/-! ### what stands while the objects of F change -/
def mutO (o : HO) : Prop := (∃ xs, o = .lst xs) ∨ (∃ kvs, o = .dK kvs) ∨ ∃ kvs, o = .dT kvs
def Keep (F : Addr → Prop) (H H' : Hp) : Prop := ∀ a o, H a = some o → H' a = some o ∨ (F a ∧ mutO o)
theorem Keep.refl {F : Addr → Prop} {H : Hp} : Keep F H H := fun _ _ e => .inl e
theorem Keep.trans {F : Addr → Prop} {H1 H2 H3 : Hp} (a : Keep F H1 H2) (b : Keep F H2 H3) : Keep F H1 H3 := fun x o e => by
  rcases a x o e with h | h
  · exact b x o h
  · exact .inr h
theorem Keep.mono {F G : Addr → Prop} {H H' : Hp} (k : Keep F H H') (h : ∀ a, F a → G a) : Keep G H H' := fun x o e => by
  rcases k x o e with q | ⟨q, m⟩
  · exact .inl q
  · exact .inr ⟨h x q, m⟩
theorem Keep.lay {F : Addr → Prop} {H : Hp} {p : Addr} {o : HO} (h : H p = none) : Keep F H (upd H p o) := fun a x e => .inl (by rw [upd_ne (ne_of_none e h)]; exact e)
theorem Keep.set {F : Addr → Prop} {H : Hp} {p : Addr} {o o' : HO} (f : F p) (h : H p = some o') (m : mutO o') : Keep F H (upd H p o) := fun a x e => by
  by_cases z : a = p
  · subst z; rw [h] at e; cases e; exact .inr ⟨f, m⟩
  · exact .inl (by rw [upd_ne z]; exact e)
theorem Ext.keep' {C : Option Addr} {F : Addr → Prop} {H H' : Hp} (x : Ext C H H') (h : ∀ c, C = some c → F c) : Keep F H H' := fun a o e => by
  rcases x a o e with q | ⟨q, xs, m⟩
  · exact .inl q
  · exact .inr ⟨h a q, .inl ⟨xs, m⟩⟩
theorem Keep.there {F : Addr → Prop} {H H' : Hp} (k : Keep F H H') {a : Addr} {o : HO} (e : H a = some o) (n : ¬ F a) : H' a = some o := by
  rcases k a o e with q | ⟨q, _⟩
  · exact q
  · exact absurd q n
theorem Keep.stay {F : Addr → Prop} {H H' : Hp} (k : Keep F H H') {a : Addr} {o : HO} (e : H a = some o) (n : ¬ mutO o) : H' a = some o := by
  rcases k a o e with q | ⟨_, q⟩
  · exact q
  · exact absurd q n
theorem not_mut_tup {xs : List V} : ¬ mutO (.tup xs) := fun z => by rcases z with ⟨_, z⟩ | ⟨_, z⟩ | ⟨_, z⟩ <;> cases z
theorem not_mut_frz {o : Obj} {h : HO} : ¬ mutO (.frz o h) := fun z => by rcases z with ⟨_, z⟩ | ⟨_, z⟩ | ⟨_, z⟩ <;> cases z
theorem not_mut_rng {a b : Int} : ¬ mutO (.rng a b) := fun z => by rcases z with ⟨_, z⟩ | ⟨_, z⟩ | ⟨_, z⟩ <;> cases z
theorem Keep.sqT {F : Addr → Prop} {H H' : Hp} {K : PySem.W.Frag} (k : Keep F H H') {a : Addr} {xs : List V} (r : SqT K H a xs) : SqT K H' a xs := by
  rcases r with (r | ⟨o, r⟩) | r
  · exact .inl (.inl (k.stay r not_mut_tup))
  · exact .inl (.inr ⟨o, k.stay r not_mut_frz⟩)
  · exact .inr r
theorem Keep.tupAt {R : Rc} {F : Addr → Prop} {H H' : Hp} (k : Keep F H H') {a : Addr} {vs : List V} (h : TupAt R H a vs) : TupAt R H' a vs := by
  unfold TupAt at h ⊢
  split
  · rename_i e; rw [if_pos e] at h; exact k.sqT h
  · rename_i e; rw [if_neg e] at h; exact k.stay h not_mut_tup
theorem Keep.dic {R : Rc} {F : Addr → Prop} {H H' : Hp} (k : Keep F H H') {a : Addr} {t : Bool} {ks : List D} {vs : List V} (n : ¬ F a) (r : DicAt R H a t ks vs) : DicAt R H' a t ks vs := by
  cases t with
  | true =>
    obtain ⟨z, kvs, e, r⟩ := r
    exact ⟨z, kvs, k.there e n, r⟩
  | false =>
    obtain ⟨kvs, e, r⟩ := r
    exact ⟨kvs, k.there e n, r⟩
section
variable {R : Rc} {H H' : Hp} {F G : Addr → Prop}
mutual
theorem Rep.keep (x : Keep F H H') : ∀ (d : D) (v : V), Rep R H F d v → Rep R H' F d v
  | .und, _, h => by simp only [Rep] at h
  | .non, _, h => by simpa only [Rep] using h
  | .bl _, _, h => by simpa only [Rep] using h
  | .int _, _, h => by simpa only [Rep] using h
  | .str _, _, h => by simpa only [Rep] using h
  | .tup ds, v, h => by
    simp only [Rep] at h ⊢
    obtain ⟨a, vs, e, s, r⟩ := h
    exact ⟨a, vs, e, x.tupAt s, Reps.keep x ds vs r⟩
  | .lst ds, v, h => by
    simp only [Rep] at h ⊢
    obtain ⟨a, vs, e, m, n, s, r⟩ := h
    exact ⟨a, vs, e, m, n, x.there s n, Reps.keep x ds vs r⟩
  | .dic t ks ws, v, h => by
    simp only [Rep] at h ⊢
    obtain ⟨a, vs, e, n, s, r⟩ := h
    exact ⟨a, vs, e, n, x.dic n s, Reps.keep x ws vs r⟩
  | .rng _ _, v, h => by
    simp only [Rep] at h ⊢
    obtain ⟨a, e, s⟩ := h
    exact ⟨a, e, x.stay s not_mut_rng⟩
  | .cup, _, h => by simpa only [Rep] using h
  | .fn _, _, h => by simpa only [Rep] using h
  | .scr ns, v, h => by
    simp only [Rep] at h ⊢
    obtain ⟨a, e, s⟩ := h
    exact ⟨a, e, s.imp (fun ⟨o, s⟩ => ⟨o, x.stay s not_mut_frz⟩) id⟩
theorem Reps.keep (x : Keep F H H') : ∀ (ds : List D) (vs : List V), Reps R H F ds vs → Reps R H' F ds vs
  | [], _, h => by simpa only [Reps] using h
  | d :: ds, vs, h => by
    simp only [Reps] at h ⊢
    obtain ⟨v, r, e, h1, h2⟩ := h
    exact ⟨v, r, e, Rep.keep x d v h1, Reps.keep x ds r h2⟩
end
end
/-! ### walks -/
/-- F and all that is new -/
abbrev fut (F : Addr → Prop) (H : Hp) : Addr → Prop := fun a => F a ∨ H a = none
/-- a walk that gives these, while only the objects of S, and new ones, change -/
def WalkD (R : Rc) (F S : Addr → Prop) (H0 : Hp) (ds : List D) (J : L2.It) : Prop :=
  ∃ (G : Hp → Prop) (Y : Nat → Hp → V → Hp → Prop), Walk J ds.length G Y ∧ G H0 ∧ (∀ H H', G H → Keep (fut S H0) H H' → G H') ∧
    ∀ i H x H', i < ds.length → G H → Y i H x H' → ∃ d, ds[i]? = some d ∧ Ext none H H' ∧ Rep R H' (fut F H0) d x
theorem reps_keep {R : Rc} {F S : Addr → Prop} (hs : ∀ a, S a → F a) {H H' H0 : Hp} {ds : List D} {vs : List V} (k : Keep (fut S H0) H H') (r : Reps R H (fut F H0) ds vs) : Reps R H' (fut F H0) ds vs :=
  Reps.keep (k.mono fun a z => z.imp (hs a) id) ds vs r
theorem wd_list {R : Rc} {F S : Addr → Prop} {H : Hp} {ds : List D} {vs : List V} {a : Addr} (hs : ∀ a, S a → F a) (na : ¬ S a) (h : H a = some (.lst vs)) (r : Reps R H F ds vs) : WalkD R F S H ds (Itl R.K a) := by
  have hl := r.length
  refine ⟨fun H1 => H1 a = some (.lst vs) ∧ Reps R H1 (fut F H) ds vs, YAt vs, ?_, ⟨h, Reps.wide (fun _ z => z) ds vs r⟩, fun H1 H2 ⟨g1, g2⟩ k => ⟨k.there g1 fun z => z.elim na fun z => (by rw [h] at z; cases z), reps_keep hs k g2⟩, ?_⟩
  · rw [← hl]
    exact Walk.mono walk_list (fun H1 g => .inl (.inl g.1)) fun _ _ _ _ _ _ y => y
  · rintro i H1 x H2 hi ⟨g1, g2⟩ ⟨rfl, e⟩
    obtain ⟨d, e1, e2⟩ := g2.get' e
    exact ⟨d, e1, Ext.refl, e2⟩
theorem wd_tup {R : Rc} {F S : Addr → Prop} {H : Hp} {ds : List D} {vs : List V} {a : Addr} (hs : ∀ a, S a → F a) (h : SqT R.K H a vs) (r : Reps R H F ds vs) : WalkD R F S H ds (Itt R.K a) := by
  have hl := r.length
  refine ⟨fun H1 => SqT R.K H1 a vs ∧ Reps R H1 (fut F H) ds vs, YAt vs, ?_, ⟨h, Reps.wide (fun _ z => z) ds vs r⟩, fun H1 H2 ⟨g1, g2⟩ k => ⟨k.sqT g1, reps_keep hs k g2⟩, ?_⟩
  · rw [← hl]
    exact Walk.mono walk_tup (fun H1 g => g.1) fun _ _ _ _ _ _ y => y
  · rintro i H1 x H2 hi ⟨g1, g2⟩ ⟨rfl, e⟩
    obtain ⟨d, e1, e2⟩ := g2.get' e
    exact ⟨d, e1, Ext.refl, e2⟩
theorem wd_rng {R : Rc} {F S : Addr → Prop} {H : Hp} {lo hi : Int} : WalkD R F S H (rangeL lo hi) (Itr lo (hi - lo).toNat) := by
  have hl : (rangeL lo hi).length = (hi - lo).toNat := by simp [rangeL]
  refine ⟨fun _ => True, YFn fun i => .int (lo + i), by rw [hl]; exact walk_range, trivial, fun _ _ _ _ => trivial, ?_⟩
  rintro i H1 x H2 hi' _ ⟨rfl, rfl⟩
  rw [hl] at hi'
  refine ⟨.int (lo + i), ?_, Ext.refl, rep_int⟩
  unfold rangeL
  rw [List.getElem?_map, List.getElem?_range hi']; rfl
theorem wd_str {R : Rc} {F S : Addr → Prop} {H : Hp} {s : List Nat} : WalkD R F S H (s.map fun c => .str [c]) (Its ⟨s.toArray⟩) := by
  refine ⟨fun _ => True, fun i H v H' => H' = H ∧ ∃ c, (⟨s.toArray⟩ : Str).cps[i]? = some c ∧ v = .str ⟨#[c]⟩, ?_, trivial, fun _ _ _ _ => trivial, ?_⟩
  · rw [List.length_map]; exact walk_str
  · rintro i H1 x H2 hi' _ ⟨rfl, c, e, rfl⟩
    refine ⟨.str [c], ?_, Ext.refl, rep_str (i := [c])⟩
    rw [List.getElem?_map]
    have : s[i]? = some c := by simpa using e
    rw [this]; rfl
/-- what an iterable leaves; b: no owned list is walked -/
abbrev Sof (b : Bool) (C : Option Addr) (F : Addr → Prop) : Addr → Prop := fun a => if b = true then F a else C = some a
theorem Sof.sub {b : Bool} {C : Option Addr} {F : Addr → Prop} (cf : ∀ c, C = some c → F c) : ∀ a, Sof b C F a → F a := fun a h => by
  cases b with
  | true => exact h
  | false => exact cf a h
def tI (W : Wc) (X : Cx) (b : Bool) (it : MP.It) : TI := fun σ H Q =>
  ∃ C F md ρ κ, okI b md it = true ∧ Sit (W.rc X C) F md σ H ρ κ ∧
    wpO (evi W.call it ρ κ) (fun ds κ' => ∀ J H', Ext C H H' → Cup C H' κ' → WalkD (W.rc X C) F (Sof b C F) H' ds J → Q J H') fun x κ' => ∀ H', Ext C H H' → Cup C H' κ' → W.XW x κ' H'
abbrev SI (W : Wc) (X : Cx) (b : Bool) (tg e : Expr) (it : MP.It) : Prop := PI X tg e (tI W X b it)
section
variable {W : Wc} {X : Cx}
/-- a range object, walked -/
theorem range_obj {pins : List (Addr × Obj)} {σ : L2.St} {H : Hp} {s : Shared} {tg : Expr} {R : L2.It → Hp → Prop} {E : Value → Shared → Prop} {lo hi : Int} {a : Addr} (I : Inv X pins σ H s) (e : H a = some (.rng lo hi)) (h1 : -(2 ^ 62) ≤ lo) (h2 : lo < 2 ^ 62) (h3 : -(2 ^ 62) ≤ hi) (h4 : hi < 2 ^ 62)
    (q : R (Itr lo (hi - lo).toNat) H) : wpAny (model X.prog X.w) X.A (pyIter (.ref a)) (PIE X pins σ tg R) E s := by
  obtain ⟨t, u, v, hr⟩ := (show ObjOk X.prog X.w H s.heap a (.rng lo hi) from I.hok a _ e)
  refine wpAny_pyIter_range hr (small_one h1 h2 h3 h4) ?_
  refine ⟨s.heap.objs.size, [s.heap.objs.size], _, _, H, rfl, I.kept (t' := s.toks) fun b o e => Heap.get?_push_of_some _ e, turn_range _ lo (hi - lo).toNat, ?_, fun b hb => ?_, q⟩
  · have e1 : lo + ((0 : Nat) : Int) * 1 = lo := by simp
    have e2 : (((hi - lo).toNat : Nat) : Int) - ((0 : Nat) : Int) = Builtin.Range.rangeSize lo hi 1 := by rw [rangeSize_one]; split <;> omega
    show IsRangeIter _ _ (lo + ((0 : Nat) : Int) * 1) ((((hi - lo).toNat : Nat) : Int) - ((0 : Nat) : Int)) 1
    rw [e1, e2]
    exact Heap.get?_push_size _ rfl
  · have e : b = s.heap.objs.size := by simpa using hb
    subst e
    exact I.fpOk (Nat.le_refl _) (I.hok.fresh (Nat.le_refl _))
def Rng62 (lo hi : Int) : Prop := -(2 ^ 62) ≤ lo ∧ lo < 2 ^ 62 ∧ -(2 ^ 62) ≤ hi ∧ hi < 2 ^ 62
/-- what an iterator of a value may be -/
inductive ItV (K : PySem.W.Frag) (H : Hp) : V → L2.It → Prop where
  | list {a : Addr} {xs : List V} (h : SqL K H a xs) : ItV K H (.ref a) (Itl K a)
  | tup {a : Addr} {xs : List V} (h : SqT K H a xs) : ItV K H (.ref a) (Itt K a)
  | rng {a : Addr} {lo hi : Int} (h : H a = some (.rng lo hi)) (r : Rng62 lo hi) : ItV K H (.ref a) (Itr lo (hi - lo).toNat)
  | str {x : Str} : ItV K H (.str x) (Its x)
theorem pi_val {tg l : Expr} {tl : TE} (hl : PE X l tl) : PI X tg l (fun σ H R => tl σ H fun x H1 => ∃ J, ItV X.K H1 x J ∧ R J H1) := by
  refine ⟨fun pins s σ H R I h => ?_⟩
  refine thn (hl.run pins s σ H _ I h) fun v s1 ⟨x, H1, I1, r1, J, iv, q⟩ => ?_
  cases iv with
  | list hq =>
    cases r1
    obtain ⟨its, rv, p, hz⟩ := I1.list hq
    refine wpAny_pyIter_list p.isList ?_
    refine ⟨s1.heap.objs.size, [s1.heap.objs.size], _, _, H1, rfl, I1.kept (t' := s1.toks) fun b o e => Heap.get?_push_of_some _ e, turn_list _ _, ⟨_, Heap.get?_push_size _ rfl, rfl, rfl⟩, fun b hb => ?_, q⟩
    have e : b = s1.heap.objs.size := by simpa using hb
    subst e
    exact I1.fpOk (Nat.le_refl _) (I1.hok.fresh (Nat.le_refl _))
  | tup hq =>
    cases r1
    obtain ⟨its, rv, p, hz⟩ := I1.tuple hq
    refine wpAny_pyIter_tuple (show s1.heap.IsTuple _ its.toArray from p) ?_
    refine ⟨s1.heap.objs.size, [s1.heap.objs.size], _, _, H1, rfl, I1.kept (t' := s1.toks) fun b o e => Heap.get?_push_of_some _ e, turn_tuple _ _, ⟨_, Heap.get?_push_size _ rfl, rfl, rfl⟩, fun b hb => ?_, q⟩
    have e : b = s1.heap.objs.size := by simpa using hb
    subst e
    exact I1.fpOk (Nat.le_refl _) (I1.hok.fresh (Nat.le_refl _))
  | rng hq rr =>
    cases r1
    exact range_obj I1 hq rr.1 rr.2.1 rr.2.2.1 rr.2.2.2 q
  | str =>
    rename_i x
    obtain ⟨t, rfl⟩ := r1
    cases ha : x.cps.all (· < 128)
    · exact wpAny_pyIter_wide ha (pi_one (tk := s1.toks) I1 _ (turn_str _ x t "str_iterator" (.inr rfl)) ⟨_, Heap.get?_push_size _ rfl, rfl, rfl⟩ q)
    · exact wpAny_pyIter_ascii ha (pi_one (tk := s1.toks) I1 _ (turn_str _ x t "str_ascii_iterator" (.inl rfl)) ⟨_, Heap.get?_push_size _ rfl, rfl, rfl⟩ q)
theorem PI.imp {X : Cx} {tg e : Expr} {t t' : TI} (h : PI X tg e t) (i : ∀ σ H Q, t' σ H Q → t σ H Q) : PI X tg e t' := ⟨fun pins s σ H Q I q => h.run pins s σ H Q I (i σ H Q q)⟩
theorem repS {b : Bool} {R : Rc} {F : Addr → Prop} {H : Hp} {ds : List D} {v : V} (cf : ∀ c, R.C = some c → F c) (r : RepB b R H F (.lst ds) v) : ∃ a vs, v = .ref a ∧ R.C ≠ some a ∧ ¬ Sof b R.C F a ∧ H a = some (.lst vs) ∧ Reps R H F ds vs := by
  cases b with
  | true =>
    have r : Rep R H F (.lst ds) v := r
    simp only [Rep] at r
    obtain ⟨a, vs, e, m, n, s, r⟩ := r
    exact ⟨a, vs, e, m, n, s, r⟩
  | false =>
    obtain ⟨a, vs, e, m, s, r⟩ := r
    exact ⟨a, vs, e, m, m, s, r⟩
theorem si_e {b : Bool} {tg e : Expr} {c : E} (h : SE W X b e c) : SI W X b tg e (.e c) := by
  refine PI.imp (pi_val h) fun σ H Q ⟨C, F, md, ρ, κ, hb, s, q⟩ => ?_
  refine sub (b := b) (f := fun d => opt (MP.walkD d)) hb s (show wpO (bnd (ev W.call c ρ) (fun d => opt (MP.walkD d)) κ) _ _ from q) fun d v H1 κ1 x1 s1 r1 _ q1 => ?_
  obtain ⟨ds, e1, q2⟩ := wpO_opt q1
  unfold MP.walkD at e1
  split at e1
  · cases e1
    obtain ⟨a, vs, rfl, st, rs⟩ := RepB.top r1
    exact ⟨_, .tup st, q2 _ H1 x1 s1.cup (wd_tup (Sof.sub s1.cf) st rs)⟩
  · cases e1
    obtain ⟨a, vs, rfl, _, na, hl, rs⟩ := repS s1.cf r1
    exact ⟨_, .list (.inl (.inl hl)), q2 _ H1 x1 s1.cup (wd_list (Sof.sub s1.cf) na hl rs)⟩
  · split at e1
    · rename_i hz
      cases e1
      obtain ⟨a, rfl, hr⟩ := rT_rng (RepB.top r1)
      exact ⟨_, .rng hr hz, q2 _ H1 x1 s1.cup wd_rng⟩
    · cases e1
  · cases e1
    rw [rT_str (RepB.top r1)]
    exact ⟨_, .str, q2 _ H1 x1 s1.cup wd_str⟩
  · cases e1
/-! ### enumerate, zip -/
theorem enumL_get : ∀ (xs : List D) (n i : Nat), (enumL n xs)[i]? = xs[i]?.map fun x => .tup [.int ((n + i : Nat) : Int), x]
  | [], n, i => by simp [enumL]
  | x :: xs, n, 0 => by simp [enumL]
  | x :: xs, n, i + 1 => by
    simp only [enumL, List.getElem?_cons_succ]
    rw [enumL_get xs (n + 1) i]
    congr 1
    funext y
    congr 4
    omega
theorem enumL_len : ∀ (xs : List D) (n : Nat), (enumL n xs).length = xs.length
  | [], n => rfl
  | x :: xs, n => by simp only [enumL, List.length_cons]; rw [enumL_len xs (n + 1)]
theorem zipL_get : ∀ (xs ys : List D) (i : Nat) (x y : D), xs[i]? = some x → ys[i]? = some y → (zipL xs ys)[i]? = some (.tup [x, y])
  | [], _, _, _, _, h, _ => by simp at h
  | _ :: _, [], _, _, _, _, h => by simp at h
  | a :: xs, b :: ys, 0, x, y, h, g => by simp at h g; subst h g; rfl
  | a :: xs, b :: ys, i + 1, x, y, h, g => by
    simp only [zipL, List.getElem?_cons_succ]
    exact zipL_get xs ys i x y (by simpa using h) (by simpa using g)
theorem zipL_len : ∀ (xs ys : List D), (zipL xs ys).length = min xs.length ys.length
  | [], ys => by simp [zipL]
  | x :: xs, [] => by simp [zipL]
  | x :: xs, y :: ys => by simp only [zipL, List.length_cons]; rw [zipL_len xs ys]; omega
theorem rep_pair {R : Rc} {H : Hp} {F : Addr → Prop} {T : Addr} {d e : D} {v w : V} (hp : H T = none) (r1 : Rep R H F d v) (r2 : Rep R H F e w) : Rep R (upd H T (.tup [v, w])) F (.tup [d, e]) (.ref T) :=
  rep_new_tup hp (by simp only [Reps]; exact ⟨v, [w], rfl, r1, w, [], rfl, r2, rfl⟩)
theorem wd_enum {R : Rc} {F S : Addr → Prop} {H : Hp} {ds : List D} {vs : List V} {a : Addr} (hs : ∀ a, S a → F a) (na : ¬ S a) (h : H a = some (.lst vs)) (r : Reps R H F ds vs) : WalkD R F S H (enumL 0 ds) (Ite R.K a) := by
  have hl := r.length
  refine ⟨fun H1 => H1 a = some (.lst vs) ∧ Reps R H1 (fut F H) ds vs, YPair (fun i => some (.int (i : Nat))) (fun i => vs[i]?), ?_, ⟨h, Reps.wide (fun _ z => z) ds vs r⟩, fun H1 H2 ⟨g1, g2⟩ k => ⟨k.there g1 fun z => z.elim na fun z => (by rw [h] at z; cases z), reps_keep hs k g2⟩, ?_⟩
  · rw [enumL_len, ← hl]
    exact Walk.mono walk_enum (fun H1 g => .inl (.inl g.1)) fun _ _ _ _ _ _ y => y
  · rintro i H1 x H2 hi ⟨g1, g2⟩ ⟨T, y, z, rfl, hT, rfl, e1, e2⟩
    cases e1
    obtain ⟨d, e3, e4⟩ := g2.get' e2
    refine ⟨.tup [.int i, d], ?_, Ext.upd hT, rep_pair hT rep_int e4⟩
    rw [enumL_get, e3]
    simp
theorem wd_zip {R : Rc} {F S : Addr → Prop} {H : Hp} {ds es : List D} {vs ws : List V} {a b : Addr} (hs : ∀ a, S a → F a) (na : ¬ S a) (nb : ¬ S b) (h : H a = some (.lst vs)) (h' : H b = some (.lst ws)) (r : Reps R H F ds vs) (r' : Reps R H F es ws) : WalkD R F S H (zipL ds es) (Itz R.K a b) := by
  have hl := r.length
  have hl' := r'.length
  refine ⟨fun H1 => (H1 a = some (.lst vs) ∧ H1 b = some (.lst ws)) ∧ Reps R H1 (fut F H) ds vs ∧ Reps R H1 (fut F H) es ws, YPair (fun i => vs[i]?) (fun i => ws[i]?), ?_, ⟨⟨h, h'⟩, Reps.wide (fun _ z => z) ds vs r, Reps.wide (fun _ z => z) es ws r'⟩,
    fun H1 H2 ⟨⟨g0, g1⟩, g2, g3⟩ k => ⟨⟨k.there g0 fun z => z.elim na fun z => (by rw [h] at z; cases z), k.there g1 fun z => z.elim nb fun z => (by rw [h'] at z; cases z)⟩, reps_keep hs k g2, reps_keep hs k g3⟩, ?_⟩
  · rw [zipL_len, ← hl, ← hl']
    exact Walk.mono (walk_zip rfl) (fun H1 g => ⟨.inl (.inl g.1.1), .inl (.inl g.1.2)⟩) fun _ _ _ _ _ _ y => y
  · rintro i H1 x H2 hi ⟨_, g1, g2⟩ ⟨T, y, z, rfl, hT, rfl, e1, e2⟩
    obtain ⟨d, e3, e4⟩ := g1.get' e1
    obtain ⟨d', e5, e6⟩ := g2.get' e2
    exact ⟨.tup [d, d'], zipL_get _ _ _ _ _ e3 e5, Ext.upd hT, rep_pair hT e4 e6⟩
theorem walk_zipT {K : PySem.W.Frag} {a b : Addr} {xs ys : List V} {n : Nat} (hn : n = min xs.length ys.length) : Walk (RZ.ItzT K a b) n (fun H => SqT K H a xs ∧ SqT K H b ys) (YPair (fun i => xs[i]?) (fun i => ys[i]?)) := by
  subst hn
  refine ⟨fun i _ hi q => ?_, fun _ q => ⟨xs, ys, q.1, q.2, by omega⟩, fun i H v H' _ q y => ?_⟩
  · have h1 : i < xs.length := by omega
    have h2 : i < ys.length := by omega
    exact ⟨xs, ys, xs[i], ys[i], q.1, q.2, by simp [h1], by simp [h2]⟩
  · obtain ⟨T, x, z, h1, h2, h3, h4, h5⟩ := y
    exact ⟨T, x, z, h1, h2, h3, h4 xs q.1, h5 ys q.2⟩
theorem wd_zipT {R : Rc} {F S : Addr → Prop} {H : Hp} {ds es : List D} {vs ws : List V} {a b : Addr} (hs : ∀ a, S a → F a) (h : SqT R.K H a vs) (h' : SqT R.K H b ws) (r : Reps R H F ds vs) (r' : Reps R H F es ws) : WalkD R F S H (zipL ds es) (RZ.ItzT R.K a b) := by
  have hl := r.length
  have hl' := r'.length
  refine ⟨fun H1 => (SqT R.K H1 a vs ∧ SqT R.K H1 b ws) ∧ Reps R H1 (fut F H) ds vs ∧ Reps R H1 (fut F H) es ws, YPair (fun i => vs[i]?) (fun i => ws[i]?), ?_, ⟨⟨h, h'⟩, Reps.wide (fun _ z => z) ds vs r, Reps.wide (fun _ z => z) es ws r'⟩,
    fun H1 H2 ⟨⟨g0, g1⟩, g2, g3⟩ k => ⟨⟨k.sqT g0, k.sqT g1⟩, reps_keep hs k g2, reps_keep hs k g3⟩, ?_⟩
  · rw [zipL_len, ← hl, ← hl']
    exact Walk.mono (walk_zipT rfl) (fun H1 g => g.1) fun _ _ _ _ _ _ y => y
  · rintro i H1 x H2 hi ⟨_, g1, g2⟩ ⟨T, y, z, rfl, hT, rfl, e1, e2⟩
    obtain ⟨d, e3, e4⟩ := g1.get' e1
    obtain ⟨d', e5, e6⟩ := g2.get' e2
    exact ⟨.tup [d, d'], zipL_get _ _ _ _ _ e3 e5, Ext.upd hT, rep_pair hT e4 e6⟩
theorem si_enum {b : Bool} {e : Expr} {c : E} {p pos tpos : Pos} {elts : List Expr} {kk : Nat} (hg : Gl X "enumerate") (hm : X.mg "enumerate" = none) (ha : SE W X b e c) (hs : starEach [e] X.env = (false, eval e X.env) :: starEach [] X.env := by rfl) :
    SI W X b (.Tuple elts kk tpos) (.Call (.Name "enumerate" p) [e] [] pos) (.enum c) := by
  refine PI.imp (pi_enum hg hm (pa_cons ha pa_nil hs) hs) fun σ H Q ⟨C, F, md, ρ, κ, hb, s, q⟩ => ?_
  refine sub (b := b) (f := fun d => opt (MP.enumD d)) hb s (show wpO (bnd (ev W.call c ρ) (fun d => opt (MP.enumD d)) κ) _ _ from q) fun d v H1 κ1 x1 s1 r1 _ q1 => ?_
  obtain ⟨ds, e1, q2⟩ := wpO_opt q1
  unfold MP.enumD at e1
  split at e1
  · cases e1
    obtain ⟨a, vs, rfl, _, na, hl, rs⟩ := repS s1.cf r1
    exact ⟨a, vs, rfl, .inl (.inl hl), q2 _ H1 x1 s1.cup (wd_enum (Sof.sub s1.cf) na hl rs)⟩
  · cases e1
theorem si_zip {b : Bool} {e f : Expr} {c c' : E} {p pos tpos : Pos} {elts : List Expr} {kk : Nat} (hg : Gl X "zip") (hm : X.mg "zip" = none) (ha : SE W X b e c) (hb : SE W X b f c') (hs : starEach [e, f] X.env = (false, eval e X.env) :: starEach [f] X.env := by rfl)
    (hs2 : starEach [f] X.env = (false, eval f X.env) :: starEach [] X.env := by rfl) (hpl : (backTo pos (starEach [f] X.env)).any (·.1) = false := by rfl) :
    SI W X b (.Tuple elts kk tpos) (.Call (.Name "zip" p) [e, f] [] pos) (.zip c c') := by
  refine PI.imp (RZ.pi_zipA hg hm (pa_cons ha (pa_cons hb pa_nil hs2) hs) hs hpl) fun σ H Q ⟨C, F, md, ρ, κ, hk, s, q⟩ => ?_
  have hk' : okB b md c = true ∧ okB b md c' = true := Bool.and_eq_true_iff.mp hk
  refine sub (b := b) (f := fun d => bnd (ev W.call c' ρ) fun d' => opt (MP.zipD d d')) hk'.1 s (show wpO (bnd (ev W.call c ρ) (fun d => bnd (ev W.call c' ρ) fun d' => opt (MP.zipD d d')) κ) _ _ from q) fun d v H1 κ1 x1 s1 r1 _ q1 => ?_
  refine sub (b := b) (f := fun d' => opt (MP.zipD d d')) hk'.2 s1 q1 fun d' v' H2 κ2 x2 s2 r2 _ q2 => ?_
  obtain ⟨ds, e1, q3⟩ := wpO_opt q2
  have r1 := RepB.ext (R := W.rc X C) x2 r1
  unfold MP.zipD at e1
  split at e1
  · cases e1
    obtain ⟨a, vs, rfl, _, na, hl, rs⟩ := repS s2.cf r1
    obtain ⟨a', vs', rfl, _, na', hl', rs'⟩ := repS s2.cf r2
    exact ⟨a, a', vs, vs', rfl, .inl ⟨.inl (.inl hl), .inl (.inl hl'), q3 _ H2 (x1.trans x2) s2.cup (wd_zip (Sof.sub s2.cf) na na' hl hl' rs rs')⟩⟩
  · cases e1
    obtain ⟨a, vs, rfl, st, rs⟩ := RepB.top r1
    obtain ⟨a', vs', rfl, st', rs'⟩ := RepB.top r2
    exact ⟨a, a', vs, vs', rfl, .inr ⟨st, st', q3 _ H2 (x1.trans x2) s2.cup (wd_zipT (Sof.sub s2.cf) st st' rs rs')⟩⟩
  · cases e1
end
end MP
set_option Elab.async false
set_option linter.all false
set_option maxRecDepth 100000
set_option maxHeartbeats 2000000
/-! MP12: targets. -/
namespace MP
open PySem PySem.Spec PyProof.Rows L2
def tgS : Tg → List Nat
  | .nm i => [i]
  | .t2 a b => tgS a ++ tgS b
  | .t3 a b c => tgS a ++ (tgS b ++ tgS c)
  | .t4 a b c d => tgS a ++ (tgS b ++ (tgS c ++ tgS d))
  | .t5 a b c d e => tgS a ++ (tgS b ++ (tgS c ++ (tgS d ++ tgS e)))
  | .t6 a b c d e f => tgS a ++ (tgS b ++ (tgS c ++ (tgS d ++ (tgS e ++ tgS f))))
/-- some slots stored -/
structure AsgR (R : Rc) (H : Hp) (F : Addr → Prop) (is : List Nat) (σ σ' : L2.St) (ρ ρ' : List D) : Prop where
  ls : σ'.length = σ.length
  lr : ρ'.length = ρ.length
  out : ∀ i, i ∉ is → σ'[i]? = σ[i]? ∧ ρ'[i]? = ρ[i]?
  ats : ∀ i, i ∈ is → ∀ d, ρ'[i]? = some d → ∃ v, σ'[i]? = some (some v) ∧ Rep R H F d v
theorem AsgR.refl {R : Rc} {H : Hp} {F : Addr → Prop} {σ : L2.St} {ρ : List D} : AsgR R H F [] σ σ ρ ρ := ⟨rfl, rfl, fun _ _ => ⟨rfl, rfl⟩, fun _ h => by simp at h⟩
theorem AsgR.comp {R : Rc} {H : Hp} {F : Addr → Prop} {is js : List Nat} {σ σ1 σ2 : L2.St} {ρ ρ1 ρ2 : List D} (a : AsgR R H F is σ σ1 ρ ρ1) (b : AsgR R H F js σ1 σ2 ρ1 ρ2) : AsgR R H F (is ++ js) σ σ2 ρ ρ2 := by
  refine ⟨b.ls.trans a.ls, b.lr.trans a.lr, fun i hi => ?_, fun i hi d hd => ?_⟩
  · have h1 : i ∉ is := fun z => hi (List.mem_append.mpr (.inl z))
    have h2 : i ∉ js := fun z => hi (List.mem_append.mpr (.inr z))
    exact ⟨(b.out i h2).1.trans (a.out i h1).1, (b.out i h2).2.trans (a.out i h1).2⟩
  · by_cases h2 : i ∈ js
    · exact b.ats i h2 d hd
    · have h1 : i ∈ is := (List.mem_append.mp hi).resolve_right h2
      obtain ⟨e1, e2⟩ := b.out i h2
      rw [e1]
      exact a.ats i h1 d (by rw [← e2]; exact hd)
theorem AsgR.one {R : Rc} {H : Hp} {F : Addr → Prop} {i : Nat} {σ : L2.St} {ρ : List D} {d : D} {v : V} (l : ρ.length = σ.length) (r : Rep R H F d v) : AsgR R H F [i] σ (σ.set i (some v)) ρ (ρ.set i d) := by
  refine ⟨List.length_set, List.length_set, fun j hj => ?_, fun j hj e he => ?_⟩
  · have : i ≠ j := fun z => hj (by rw [z]; exact List.mem_singleton.mpr rfl)
    rw [List.getElem?_set_ne this, List.getElem?_set_ne this]
    exact ⟨rfl, rfl⟩
  · rw [List.mem_singleton] at hj
    subst hj
    have hlt : j < ρ.length := by
      have := (List.getElem?_eq_some_iff.mp he).1
      rwa [List.length_set] at this
    rw [List.getElem?_set_self hlt] at he
    cases he
    exact ⟨v, List.getElem?_set_self (by omega), r⟩
def asgL : List Tg → List D → List D → Option (List D)
  | [], [], ρ => some ρ
  | t :: ts, d :: ds, ρ => (asg t d ρ).bind (asgL ts ds)
  | _, _, _ => none
def tgSs : List Tg → List Nat
  | [] => []
  | t :: ts => tgS t ++ tgSs ts
def gT (W : Wc) (X : Cx) (t : Tg) : TG := fun v σ H Q =>
  ∃ C F d ρ ρ', Rep (W.rc X C) H F d v ∧ asg t d ρ = some ρ' ∧ ρ.length = σ.length ∧ ∀ σ', AsgR (W.rc X C) H F (tgS t) σ σ' ρ ρ' → Q σ' H
def gL (W : Wc) (X : Cx) (ts : List Tg) : TGs := fun vs σ H Q =>
  ∃ C F ds ρ ρ', Reps (W.rc X C) H F ds vs ∧ asgL ts ds ρ = some ρ' ∧ ρ.length = σ.length ∧ ∀ σ', AsgR (W.rc X C) H F (tgSs ts) σ σ' ρ ρ' → Q σ' H
abbrev SG (W : Wc) (X : Cx) (tg : Expr) (t : Tg) : Prop := PG X tg (gT W X t)
abbrev SGs (W : Wc) (X : Cx) (tgs : List Expr) (ts : List Tg) : Prop := PGs X tgs (gL W X ts)
theorem PG.imp {X : Cx} {e : Expr} {t t' : TG} (h : PG X e t) (i : ∀ v σ H Q, t' v σ H Q → t v σ H Q) : PG X e t' := ⟨fun pins s σ H v u Q I r q => h.run pins s σ H v u Q I r (i v σ H Q q)⟩
section
variable {W : Wc} {X : Cx}
theorem sg_nm {i : Nat} {x : Str} {pos : Pos} (hN : X.N.Nodup) (hi : X.N[i]? = some x) (hx : Loc X.env.scope x) (hf : X.fn x = true ∨ X.env.scope.names.lookup x = some .local) : SG W X (.Name x pos) (.nm i) := by
  refine PG.imp (pg_name hN hi hx hf) fun v σ H Q ⟨C, F, d, ρ, ρ', r, e, l, q⟩ => ?_
  have e : some (ρ.set i d) = some ρ' := e
  cases e
  exact q _ (AsgR.one l r)
theorem sgs_nil : SGs W X [] [] := by
  refine ⟨fun pins s σ H vs us Q I r ⟨C, F, ds, ρ, ρ', rr, e, l, q⟩ => pgs_nil.run pins s σ H vs us Q I r ?_⟩
  cases ds with
  | nil =>
    have e : some ρ = some ρ' := e
    cases e
    simp only [Reps] at rr
    exact ⟨rr, q σ AsgR.refl⟩
  | cons d ds => cases (show none = some ρ' from e)
theorem sgs_cons {e : Expr} {es : List Expr} {t : Tg} {ts : List Tg} (h1 : SG W X e t) (h2 : SGs W X es ts) (hs : (assignEach (e :: es) X.env).map (·.2) = assign e X.env :: (assignEach es X.env).map (·.2) := by rfl) : SGs W X (e :: es) (t :: ts) := by
  refine ⟨fun pins s σ H vs us Q I r ⟨C, F, ds, ρ, ρ', rr, ee, l, q⟩ => (pgs_cons h1 h2 hs).run pins s σ H vs us Q I r ?_⟩
  cases ds with
  | nil => cases (show none = some ρ' from ee)
  | cons d ds =>
    obtain ⟨ρ1, e1, e2⟩ := Option.bind_eq_some_iff.mp (show (asg t d ρ).bind (asgL ts ds) = some ρ' from ee)
    simp only [Reps] at rr
    obtain ⟨v, vr, rfl, r1, r2⟩ := rr
    refine ⟨v, vr, rfl, C, F, d, ρ, ρ1, r1, e1, l, fun σ1 a1 => ⟨C, F, ds, ρ1, ρ', r2, e2, by rw [a1.lr, a1.ls]; exact l, fun σ2 a2 => q σ2 (a1.comp a2)⟩⟩
theorem PG.or {X : Cx} {e : Expr} {t t' : TG} (h : PG X e t) (h' : PG X e t') : PG X e (fun v σ H Q => t v σ H Q ∨ t' v σ H Q) :=
  ⟨fun pins s σ H v u Q I r q => q.elim (h.run pins s σ H v u Q I r) (h'.run pins s σ H v u Q I r)⟩
theorem sg_tup {es : List Expr} {k : Nat} {pos : Pos} {t : Tg} {ts : List Tg} (hc : X.calm = true) (h : SGs W X es ts) (hS : tgS t = tgSs ts) (ht : ∀ d ρ ρ', asg t d ρ = some ρ' → ∃ ds, tlOf d = some ds ∧ ds.length = ts.length ∧ asgL ts ds ρ = some ρ')
    (hn : (assignEach es X.env).length = ts.length) (hst : (assignEach es X.env).findIdx? (·.1) = none) : SG W X (.Tuple es k pos) t := by
  refine PG.imp (PG.or (pg_tup hc h hn hst) (pg_unl hc h hn hst)) fun v σ H Q ⟨C, F, d, ρ, ρ', r, e, l, q⟩ => ?_
  obtain ⟨ds, hd, hl, e2⟩ := ht _ _ _ e
  clear e
  cases d with
  | tup xs =>
    cases hd
    obtain ⟨a, vs, rfl, st, rs⟩ := rep_tup r
    exact .inl ⟨a, vs, rfl, st.sq, by rw [rs.length, hl], C, F, _, ρ, ρ', rs, e2, l, fun σ' z => q σ' (by rw [hS]; exact z)⟩
  | lst xs =>
    cases hd
    obtain ⟨a, vs, rfl, _, st, rs⟩ := Rep.top r
    exact .inr ⟨a, vs, rfl, .inl (.inl st), by rw [rs.length, hl], C, F, _, ρ, ρ', rs, e2, l, fun σ' z => q σ' (by rw [hS]; exact z)⟩
  | _ => cases hd
theorem asg_t2 {a b : Tg} {d : D} {ρ ρ' : List D} (h : asg (.t2 a b) d ρ = some ρ') : ∃ ds, tlOf d = some ds ∧ ds.length = [a, b].length ∧ asgL [a, b] ds ρ = some ρ' := by
  unfold asg at h
  split at h
  · rename_i e0
    refine ⟨_, e0, rfl, ?_⟩
    obtain ⟨r1, e1, h⟩ := Option.bind_eq_some_iff.mp h
    simp only [asgL, e1, h, Option.bind_some]
  · cases h
theorem asg_t3 {a b c : Tg} {d : D} {ρ ρ' : List D} (h : asg (.t3 a b c) d ρ = some ρ') : ∃ ds, tlOf d = some ds ∧ ds.length = [a, b, c].length ∧ asgL [a, b, c] ds ρ = some ρ' := by
  unfold asg at h
  split at h
  · rename_i e0
    refine ⟨_, e0, rfl, ?_⟩
    obtain ⟨r1, e1, h⟩ := Option.bind_eq_some_iff.mp h
    obtain ⟨r2, e2, h⟩ := Option.bind_eq_some_iff.mp h
    simp only [asgL, e1, e2, h, Option.bind_some]
  · cases h
theorem asg_t4 {a b c f : Tg} {d : D} {ρ ρ' : List D} (h : asg (.t4 a b c f) d ρ = some ρ') : ∃ ds, tlOf d = some ds ∧ ds.length = [a, b, c, f].length ∧ asgL [a, b, c, f] ds ρ = some ρ' := by
  unfold asg at h
  split at h
  · rename_i e0
    refine ⟨_, e0, rfl, ?_⟩
    obtain ⟨r1, e1, h⟩ := Option.bind_eq_some_iff.mp h
    obtain ⟨r2, e2, h⟩ := Option.bind_eq_some_iff.mp h
    obtain ⟨r3, e3, h⟩ := Option.bind_eq_some_iff.mp h
    simp only [asgL, e1, e2, e3, h, Option.bind_some]
  · cases h
theorem asg_t5 {a b c f g : Tg} {d : D} {ρ ρ' : List D} (h : asg (.t5 a b c f g) d ρ = some ρ') : ∃ ds, tlOf d = some ds ∧ ds.length = [a, b, c, f, g].length ∧ asgL [a, b, c, f, g] ds ρ = some ρ' := by
  unfold asg at h
  split at h
  · rename_i e0
    refine ⟨_, e0, rfl, ?_⟩
    obtain ⟨r1, e1, h⟩ := Option.bind_eq_some_iff.mp h
    obtain ⟨r2, e2, h⟩ := Option.bind_eq_some_iff.mp h
    obtain ⟨r3, e3, h⟩ := Option.bind_eq_some_iff.mp h
    obtain ⟨r4, e4, h⟩ := Option.bind_eq_some_iff.mp h
    simp only [asgL, e1, e2, e3, e4, h, Option.bind_some]
  · cases h
theorem asg_t6 {a b c f g i : Tg} {d : D} {ρ ρ' : List D} (h : asg (.t6 a b c f g i) d ρ = some ρ') : ∃ ds, tlOf d = some ds ∧ ds.length = [a, b, c, f, g, i].length ∧ asgL [a, b, c, f, g, i] ds ρ = some ρ' := by
  unfold asg at h
  split at h
  · rename_i e0
    refine ⟨_, e0, rfl, ?_⟩
    obtain ⟨r1, e1, h⟩ := Option.bind_eq_some_iff.mp h
    obtain ⟨r2, e2, h⟩ := Option.bind_eq_some_iff.mp h
    obtain ⟨r3, e3, h⟩ := Option.bind_eq_some_iff.mp h
    obtain ⟨r4, e4, h⟩ := Option.bind_eq_some_iff.mp h
    obtain ⟨r5, e5, h⟩ := Option.bind_eq_some_iff.mp h
    simp only [asgL, e1, e2, e3, e4, e5, h, Option.bind_some]
  · cases h
theorem sg_t2 {es : List Expr} {k : Nat} {pos : Pos} {a b : Tg} (hc : X.calm = true) (h : SGs W X es [a, b]) (hn : (assignEach es X.env).length = 2 := by rfl) (hst : (assignEach es X.env).findIdx? (·.1) = none := by rfl) : SG W X (.Tuple es k pos) (.t2 a b) :=
  sg_tup hc h (by simp [tgS, tgSs]) (fun _ _ _ => asg_t2) hn hst
theorem sg_t3 {es : List Expr} {k : Nat} {pos : Pos} {a b c : Tg} (hc : X.calm = true) (h : SGs W X es [a, b, c]) (hn : (assignEach es X.env).length = 3 := by rfl) (hst : (assignEach es X.env).findIdx? (·.1) = none := by rfl) : SG W X (.Tuple es k pos) (.t3 a b c) :=
  sg_tup hc h (by simp [tgS, tgSs]) (fun _ _ _ => asg_t3) hn hst
theorem sg_t4 {es : List Expr} {k : Nat} {pos : Pos} {a b c d : Tg} (hc : X.calm = true) (h : SGs W X es [a, b, c, d]) (hn : (assignEach es X.env).length = 4 := by rfl) (hst : (assignEach es X.env).findIdx? (·.1) = none := by rfl) : SG W X (.Tuple es k pos) (.t4 a b c d) :=
  sg_tup hc h (by simp [tgS, tgSs]) (fun _ _ _ => asg_t4) hn hst
theorem sg_t5 {es : List Expr} {k : Nat} {pos : Pos} {a b c d e : Tg} (hc : X.calm = true) (h : SGs W X es [a, b, c, d, e]) (hn : (assignEach es X.env).length = 5 := by rfl) (hst : (assignEach es X.env).findIdx? (·.1) = none := by rfl) : SG W X (.Tuple es k pos) (.t5 a b c d e) :=
  sg_tup hc h (by simp [tgS, tgSs]) (fun _ _ _ => asg_t5) hn hst
theorem sg_t6 {es : List Expr} {k : Nat} {pos : Pos} {a b c d e f : Tg} (hc : X.calm = true) (h : SGs W X es [a, b, c, d, e, f]) (hn : (assignEach es X.env).length = 6 := by rfl) (hst : (assignEach es X.env).findIdx? (·.1) = none := by rfl) : SG W X (.Tuple es k pos) (.t6 a b c d e f) :=
  sg_tup hc h (by simp [tgS, tgSs]) (fun _ _ _ => asg_t6) hn hst
/-! ### the tests of a clause -/
def tTs (W : Wc) (X : Cx) (cs : Es) : TT := fun σ H Q =>
  ∃ C F md ρ κ, okEs md cs = true ∧ Sit (W.rc X C) F md σ H ρ κ ∧
    wpO (evt W.call cs ρ κ) (fun b κ' => ∀ H', Ext C H H' → Cup C H' κ' → Q b H') fun x κ' => ∀ H', Ext C H H' → Cup C H' κ' → W.XW x κ' H'
abbrev STs (W : Wc) (X : Cx) (es : List Expr) (cs : Es) : Prop := PTs X es (tTs W X cs)
theorem sts_nil : STs W X [] .nil := by
  refine ⟨fun pins s σ H Q I ⟨C, F, md, ρ, κ, hb, st, q⟩ => pts_nil.run pins s σ H Q I ?_⟩
  rw [evt] at q
  exact (show ∀ H', _ from q) H Ext.refl st.cup
theorem sts_one {e : Expr} {c : E} (h : ST W X e c) : STs W X [e] (.cons c .nil) := by
  refine ⟨fun pins s σ H Q I ⟨C, F, md, ρ, κ, hb, st, q⟩ => (pts_one h).run pins s σ H Q I ?_⟩
  have hb' : okB true md c = true ∧ okEs md .nil = true := Bool.and_eq_true_iff.mp (show (okB true md c && okEs md .nil) = true from hb)
  rw [evt] at q
  refine sub_T (f := fun x b => if b = true then evt W.call .nil ρ else ret false) (okB_less hb'.1) st q fun d b H1 κ1 x1 e1 s1 q1 => ?_
  cases b with
  | true =>
    have q1 : wpO (evt W.call .nil ρ κ1) _ _ := q1
    rw [evt] at q1
    exact (show ∀ H', _ from q1) H1 x1 s1.cup
  | false => exact (show ∀ H', _ from q1) H1 x1 s1.cup
end
end MP
set_option Elab.async false
set_option linter.all false
set_option maxRecDepth 100000
set_option maxHeartbeats 2000000
/-! MP13: list comprehensions. -/
namespace MP
open PySem PySem.Spec PyProof.Rows L2
theorem wipe_get (σ : L2.St) (i : Nat) : ∀ vs : List Nat, (wipe σ vs)[i]? = if i ∈ vs then (if i < σ.length then some none else none) else σ[i]?
  | [] => by simp [wipe]
  | v :: vs => by
    unfold wipe
    by_cases e : v = i
    · subst e
      rw [if_pos (List.mem_cons_self ..)]
      by_cases l : v < σ.length
      · rw [List.getElem?_set_self (by rw [wipe_length]; exact l), if_pos l]
      · rw [List.getElem?_eq_none (by rw [List.length_set, wipe_length]; omega), if_neg l]
    · rw [List.getElem?_set_ne e, wipe_get σ i vs]
      have : (i ∈ v :: vs) = (i ∈ vs) := by
        rw [List.mem_cons]
        exact propext ⟨fun z => z.elim (fun z => absurd z.symm e) id, .inr⟩
      simp only [this]
theorem wipeD_len (ρ : List D) : ∀ vs : List Nat, (wipeD ρ vs).length = ρ.length
  | [] => rfl
  | v :: vs => by unfold wipeD; rw [List.length_set, wipeD_len ρ vs]
theorem wipeD_get (ρ : List D) (i : Nat) : ∀ vs : List Nat, (wipeD ρ vs)[i]? = if i ∈ vs then (if i < ρ.length then some .und else none) else ρ[i]?
  | [] => by simp [wipeD]
  | v :: vs => by
    unfold wipeD
    by_cases e : v = i
    · subst e
      rw [if_pos (List.mem_cons_self ..)]
      by_cases l : v < ρ.length
      · rw [List.getElem?_set_self (by rw [wipeD_len]; exact l), if_pos l]
      · rw [List.getElem?_eq_none (by rw [List.length_set, wipeD_len]; omega), if_neg l]
    · rw [List.getElem?_set_ne e, wipeD_get ρ i vs]
      have : (i ∈ v :: vs) = (i ∈ vs) := by
        rw [List.mem_cons]
        exact propext ⟨fun z => z.elim (fun z => absurd z.symm e) id, .inr⟩
      simp only [this]
theorem wipe_eq {σ σ' : L2.St} {vs : List Nat} (l : σ'.length = σ.length) (h : ∀ i, i ∉ vs → σ'[i]? = σ[i]?) : wipe σ' vs = wipe σ vs := by
  apply List.ext_getElem?
  intro i
  rw [wipe_get, wipe_get]
  by_cases e : i ∈ vs
  · rw [if_pos e, if_pos e, l]
  · rw [if_neg e, if_neg e, h i e]
theorem RepT.wide {R : Rc} {H : Hp} {F G : Addr → Prop} (hs : ∀ a, G a → F a ∨ H a = none) {d : D} {v : V} (h : RepT R H F d v) : RepT R H G d v := by
  cases d with
  | tup ds =>
    obtain ⟨a, vs, e, s, r⟩ := h
    exact ⟨a, vs, e, s, Reps.wide hs ds vs r⟩
  | lst ds =>
    obtain ⟨a, vs, e, m, s, r⟩ := h
    exact ⟨a, vs, e, m, s, Reps.wide hs ds vs r⟩
  | dic t ks ws =>
    obtain ⟨a, vs, e, s, r⟩ := h
    exact ⟨a, vs, e, s, Reps.wide hs ws vs r⟩
  | _ => exact Rep.wide hs _ v h
theorem RepB.wide {b : Bool} {R : Rc} {H : Hp} {F G : Addr → Prop} (hs : ∀ a, G a → F a ∨ H a = none) {d : D} {v : V} (h : RepB b R H F d v) : RepB b R H G d v := by
  cases b with
  | true => exact Rep.wide hs d v h
  | false => exact RepT.wide hs h
/-- the modes within a block -/
def mdB (own : List Nat) (md : Nat → Nat) : Nat → Nat := fun i => if own.contains i then 0 else md i
section
variable {W : Wc} {X : Cx} {R : Rc}
/-- the situation behind a clause's store -/
theorem blk_sit {F : Addr → Prop} {md : Nat → Nat} {own is : List Nat} {σ σ2 : L2.St} {ρ ρ2 : List D} {H : Hp} {κ : MP.K} (s : Sit R F md σ H ρ κ) (a : AsgR R H F is (wipe σ own) σ2 (wipeD ρ own) ρ2) : Sit R F (mdB own md) σ2 H ρ2 κ := by
  refine ⟨s.cf, s.fh, fun i d e n m => ?_, s.cup, by rw [a.lr, a.ls, wipe_length, wipeD_len]; exact s.len⟩
  by_cases hi : i ∈ is
  · obtain ⟨v, e1, r⟩ := a.ats i hi d e
    exact ⟨v, e1, r.toB⟩
  · obtain ⟨e1, e2⟩ := a.out i hi
    rw [e1]
    rw [e2, wipeD_get] at e
    rw [wipe_get]
    by_cases ho : i ∈ own
    · rw [if_pos ho] at e
      split at e
      · cases e; exact absurd rfl n
      · cases e
    · rw [if_neg ho] at e ⊢
      have h0 : own.contains i = false := by simpa using ho
      have hm : mdB own md i = md i := by unfold mdB; rw [h0]; rfl
      rw [hm] at m ⊢
      exact s.env i d e n m
theorem asg_sit {F : Addr → Prop} {md : Nat → Nat} {is : List Nat} {σ σ2 : L2.St} {ρ ρ2 : List D} {H : Hp} {κ : MP.K} (s : Sit R F md σ H ρ κ) (a : AsgR R H F is (wipe σ is) σ2 ρ ρ2) : Sit R F md σ2 H ρ2 κ := by
  refine ⟨s.cf, s.fh, fun i d e n m => ?_, s.cup, by rw [a.lr, a.ls, wipe_length]; exact s.len⟩
  by_cases hi : i ∈ is
  · obtain ⟨v, e1, r⟩ := a.ats i hi d e
    exact ⟨v, e1, r.toB⟩
  · obtain ⟨e1, e2⟩ := a.out i hi
    rw [e1, wipe_get, if_neg hi]
    exact s.env i d (by rw [← e2]; exact e) n m
/-- .. with a new owned object -/
theorem Sit.wide {F G : Addr → Prop} {md : Nat → Nat} {σ : L2.St} {ρ : List D} {H : Hp} {κ : MP.K} (s : Sit R F md σ H ρ κ) (h1 : ∀ a, F a → G a) {H' : Hp} (x : Ext R.C H H') (c : Cup R.C H' κ) (hs : ∀ a, G a → F a ∨ H a = none) (fh : ∀ a, G a → H' a ≠ none) : Sit R G md σ H' ρ κ := by
  refine ⟨fun c e => h1 c (s.cf c e), fh, fun i d e n m => ?_, c, s.len⟩
  obtain ⟨v, e1, r⟩ := s.env i d e n m
  exact ⟨v, e1, RepB.ext x (RepB.wide hs r)⟩
theorem Sit.cup' {F : Addr → Prop} {md : Nat → Nat} {σ : L2.St} {ρ : List D} {H H' : Hp} {κ κ' : MP.K} (s : Sit R F md σ H ρ κ) (x : Ext R.C H H') (c : Cup R.C H' κ') : Sit R F md σ H' ρ κ' := s.ext x c
/-- what stands within a comprehension: the new list at L0 holds acc -/
structure LS (R : Rc) (F : Addr → Prop) (H1 : Hp) (L0 : Addr) (acc : List D) (κ : MP.K) (H : Hp) : Prop where
  x : Ext R.C H1 H
  cup : Cup R.C H κ
  d : ∃ vs, H L0 = some (.lst vs) ∧ Reps R H (FD F L0) acc vs
theorem LS.start {F : Addr → Prop} {H1 : Hp} {L0 : Addr} {κ : MP.K} (hD : H1 L0 = none) (c : Cup R.C H1 κ) : LS R F H1 L0 [] κ (upd H1 L0 (.lst [])) :=
  ⟨Ext.upd hD, c.upd hD, [], upd_same, by simp only [Reps]⟩
theorem LS.ext {F : Addr → Prop} {H1 H H' : Hp} {L0 : Addr} {acc : List D} {κ κ' : MP.K} (cf : R.C ≠ some L0) (s : LS R F H1 L0 acc κ H) (x : Ext R.C H H') (c : Cup R.C H' κ') : LS R F H1 L0 acc κ' H' := by
  obtain ⟨vs, e, r⟩ := s.d
  exact ⟨s.x.trans x, c, vs, x.lst e cf, Reps.ext x acc vs r⟩
theorem LS.push {F : Addr → Prop} {H1 H : Hp} {L0 : Addr} {acc : List D} {κ : MP.K} (hD : H1 L0 = none) (cf : R.C ≠ some L0) (s : LS R F H1 L0 acc κ H) {d : D} {v : V} (r : Rep R H (FD F L0) d v) {vs : List V} (e : H L0 = some (.lst vs)) : LS R F H1 L0 (acc ++ [d]) κ (upd H L0 (.lst (vs ++ [v]))) := by
  obtain ⟨ws, e', rs⟩ := s.d
  rw [e] at e'; cases e'
  have k : Keep (FD F L0) H (upd H L0 (.lst (vs ++ [v]))) := Keep.set (.inr rfl) e (.inl ⟨_, rfl⟩)
  refine ⟨fun a o ea => ?_, fun c hc => ?_, _, upd_same, ?_⟩
  · have na : a ≠ L0 := fun z => by rw [z, hD] at ea; cases ea
    rw [upd_ne na]
    exact s.x a o ea
  · have na : c ≠ L0 := fun z => cf (by rw [hc, z])
    rw [upd_ne na]
    exact s.cup c hc
  · exact (Reps.keep k acc vs rs).append (by simp only [Reps]; exact ⟨v, [], rfl, Rep.keep k d v r, rfl⟩)
theorem LS.len {F : Addr → Prop} {H1 H : Hp} {L0 : Addr} {acc : List D} {κ : MP.K} (s : LS R F H1 L0 acc κ H) {vs : List V} (e : H L0 = some (.lst vs)) : vs.length = acc.length := by
  obtain ⟨ws, e', rs⟩ := s.d
  rw [e] at e'; cases e'
  exact rs.length
/-- a situation of the start, within -/
theorem LS.sit {F : Addr → Prop} {md : Nat → Nat} {σ : L2.St} {ρ : List D} {H1 H : Hp} {L0 : Addr} {acc : List D} {κ κ1 : MP.K} (s : Sit R F md σ H1 ρ κ1) (hD : H1 L0 = none) (l : LS R F H1 L0 acc κ H) : Sit R (FD F L0) md σ H ρ κ := by
  have s1 := s.ext l.x l.cup
  refine ⟨fun c e => .inl (s.cf c e), fun a fa => ?_, fun i d e n m => ?_, l.cup, s.len⟩
  · rcases fa with fa | rfl
    · exact s1.fh a fa
    · obtain ⟨vs, e, _⟩ := l.d
      rw [e]; exact fun z => nomatch z
  · obtain ⟨v, e1, r⟩ := s.env i d e n m
    exact ⟨v, e1, RepB.ext l.x (RepB.wide (fun a z => z.imp id fun z => by rw [z]; exact hD) r)⟩
theorem collect_ok {f : D → M (List D)} {d : D} {ds r : List D} {κ κ' : MP.K} (h : collect f (d :: ds) κ = .ok r κ') : ∃ a κ1 b, f d κ = .ok a κ1 ∧ collect f ds κ1 = .ok b κ' ∧ r = a ++ b := by
  rw [collect] at h
  obtain ⟨a, κ1, e1, h⟩ := bnd_ok h
  obtain ⟨b, κ2, e2, h⟩ := bnd_ok h
  cases h
  exact ⟨a, κ1, b, e1, e2, rfl⟩
theorem wpO_eq {α : Type} {o : Out α} {a : α} {κ : MP.K} {Q : α → MP.K → Prop} {Z : Exn → MP.K → Prop} (h : o = .ok a κ) (q : Q a κ) : wpO o Q Z := by rw [h]; exact q
theorem opt_eq {α : Type} {o : Option α} {a : α} {κ κ' : MP.K} (h : opt o κ = .ok a κ') : o = some a ∧ κ' = κ := opt_ok' h
/-- an element, appended -/
theorem el_push {F : Addr → Prop} {md : Nat → Nat} {σ : L2.St} {ρ : List D} {H1 H : Hp} {L0 : Addr} {acc : List D} {κ κ' : MP.K} {C : Option Addr} {e : E} {y : D} {Post : Hp → Prop} (hb : okB true md e = true) (s : Sit (W.rc X C) (FD F L0) md σ H ρ κ) (hD : H1 L0 = none) (cf : C ≠ some L0) (l : LS (W.rc X C) F H1 L0 acc κ H)
    (he : ev W.call e ρ κ = .ok y κ') (hz : acc.length < line) (q : ∀ H', LS (W.rc X C) F H1 L0 (acc ++ [y]) κ' H' → Keep (fun a => C = some a ∨ a = L0) H H' → Post H') :
    tE W X true e σ H fun y H4 => ∃ accV, H4 L0 = some (.lst accV) ∧ accV.length < sizeLine ∧ Post (upd H4 L0 (.lst (accV ++ [y]))) := by
  refine ⟨C, FD F L0, md, ρ, κ, hb, s, wpO_eq he fun v H' x c r _ => ?_⟩
  have l2 := LS.ext (R := W.rc X C) cf l x c
  obtain ⟨vs, e1, _⟩ := id l2.d
  refine ⟨vs, e1, by rw [l2.len e1, line_eq]; exact hz, q _ (LS.push (R := W.rc X C) hD cf l2 r e1) ?_⟩
  refine Keep.trans (Ext.keep' x fun c hc => .inl hc) (Keep.set (.inr rfl) e1 (.inl ⟨_, rfl⟩))
/-- the tests -/
theorem ts_ok {F : Addr → Prop} {md : Nat → Nat} {σ : L2.St} {ρ : List D} {H : Hp} {κ κ' : MP.K} {C : Option Addr} {ifs : Es} {b : Bool} {Q : Bool → Hp → Prop} (hb : okEs md ifs = true) (s : Sit (W.rc X C) F md σ H ρ κ) (he : evt W.call ifs ρ κ = .ok b κ')
    (q : ∀ H', Ext C H H' → Cup C H' κ' → Q b H') : tTs W X ifs σ H Q := ⟨C, F, md, ρ, κ, hb, s, wpO_eq he q⟩
theorem AsgR.keep {R : Rc} {H H' : Hp} {F : Addr → Prop} {is : List Nat} {σ σ' : L2.St} {ρ ρ' : List D} (a : AsgR R H F is σ σ' ρ ρ') (k : Keep F H H') : AsgR R H' F is σ σ' ρ ρ' :=
  ⟨a.ls, a.lr, a.out, fun i hi d e => let ⟨v, e1, r⟩ := a.ats i hi d e; ⟨v, e1, Rep.keep k d v r⟩⟩
theorem Ext.none' {C : Option Addr} {H H' : Hp} (x : Ext none H H') : Ext C H H' := fun a o e => (x a o e).imp id fun z => by cases z.1
theorem Cup.none' {C : Option Addr} {H H' : Hp} {κ : MP.K} (c : Cup C H κ) (x : Ext none H H') : Cup C H' κ := fun a e => by
  rcases x a _ (c a e) with z | z
  · exact z
  · cases z.1
/-- one turn of a clause: the store, the tests -/
theorem turn {F : Addr → Prop} {md : Nat → Nat} {σw W0 : L2.St} {ρw : List D} {H1 H : Hp} {L0 : Addr} {acc a : List D} {κ κa : MP.K} {C : Option Addr} {t : Tg} {ifs : Es} {d : D} {x : V} {m : List D → M (List D)} {vs : List Nat} {K1 : L2.St → Hp → Prop} {Nx : Hp → Prop}
    (hb : okEs md ifs = true) (cf : C ≠ some L0) (l : LS (W.rc X C) F H1 L0 acc κ H) (r : Rep (W.rc X C) H (FD F L0) d x) (hlen : ρw.length = σw.length)
    (hf : bnd (opt (asg t d ρw)) (fun ρ' => bnd (evt W.call ifs ρ') fun b => if b then m ρ' else ret []) κ = .ok a κa)
    (hsit : ∀ σ2 ρ2, AsgR (W.rc X C) H (FD F L0) (tgS t) σw σ2 ρw ρ2 → Sit (W.rc X C) (FD F L0) md σ2 H ρ2 κ) (hw : ∀ σ2 ρ2, AsgR (W.rc X C) H (FD F L0) (tgS t) σw σ2 ρw ρ2 → wipe σ2 vs = W0)
    (htrue : ∀ σ2 ρ2 H3 κ3, AsgR (W.rc X C) H (FD F L0) (tgS t) σw σ2 ρw ρ2 → Sit (W.rc X C) (FD F L0) md σ2 H3 ρ2 κ3 → LS (W.rc X C) F H1 L0 acc κ3 H3 → Ext C H H3 → m ρ2 κ3 = .ok a κa → K1 σ2 H3)
    (hfalse : ∀ H3, LS (W.rc X C) F H1 L0 acc κa H3 → Ext C H H3 → a = [] → Nx H3) :
    gT W X t x σw H fun σ2 H2 => wipe σ2 vs = W0 ∧ tTs W X ifs σ2 H2 fun b H3 => if b = true then K1 σ2 H3 else Nx H3 := by
  obtain ⟨ρ2, κ2, e0, hf0⟩ := bnd_ok hf
  obtain ⟨e1, e3⟩ := opt_eq e0
  subst e3
  obtain ⟨b, κ3, e2, hf1⟩ := bnd_ok hf0
  refine ⟨C, FD F L0, d, ρw, ρ2, r, e1, hlen, fun σ2 a2 => ⟨hw σ2 ρ2 a2, ?_⟩⟩
  have s2 := hsit σ2 ρ2 a2
  refine ts_ok hb s2 e2 fun H3 x3 c3 => ?_
  have l3 := LS.ext (R := W.rc X C) cf l x3 c3
  cases b with
  | true => exact htrue σ2 ρ2 H3 κ3 a2 (s2.ext x3 c3) l3 x3 hf1
  | false =>
    have hf2 : (ret [] : M (List D)) κ3 = .ok a κa := hf1
    cases hf2
    exact hfalse H3 l3 x3 rfl
theorem drop_cons {α : Type} {xs : List α} {i : Nat} {d : α} (h : xs[i]? = some d) : xs.drop i = d :: xs.drop (i + 1) := by
  obtain ⟨hlt, rfl⟩ := List.getElem?_eq_some_iff.mp h
  exact List.drop_eq_getElem_cons hlt
/-- a comprehension by its reading: what its first loop is to do -/
theorem comp_start {bb : Bool} {vs : List Nat} {t : Tg} {it : MP.It} {ifs : Es} {g : Gs} {σ : L2.St} {H : Hp} {Q : VK} (h : tE W X bb (.comp vs (.cons t it ifs g)) σ H Q) :
    ∃ C F md ρ κ, okEs (mdB vs md) ifs = true ∧ okG true (mdB vs md) (mdB vs md) g = true ∧ Sit (W.rc X C) F md σ H ρ κ ∧
      tI W X false it σ H fun J H1 => ∀ L0, H1 L0 = none → ∃ (ds : List D) (κ1 : MP.K) (all : List D) (κ' : MP.K) (G : Hp → Prop) (Y : Nat → Hp → V → Hp → Prop), C ≠ some L0 ∧ all.length ≤ line ∧ Sit (W.rc X C) F md σ H1 ρ κ1 ∧
        collect (fun x => bnd (opt (asg t x (wipeD ρ vs))) fun ρ' => bnd (evt W.call ifs ρ') fun b => if b then evg W.call g ρ' ρ' else ret []) ds κ1 = .ok all κ' ∧
        Walk J ds.length G Y ∧ G H1 ∧ (∀ H H', G H → Keep (fut (Sof false C F) H1) H H' → G H') ∧
        (∀ i H x H', i < ds.length → G H → Y i H x H' → ∃ d, ds[i]? = some d ∧ Ext none H H' ∧ Rep (W.rc X C) H' (fut F H1) d x) ∧
        ∀ H2, LS (W.rc X C) F H1 L0 all κ' H2 → Q (.ref L0) H2 := by
  obtain ⟨C, F, md, ρ, κ, hb, s, q⟩ := h
  have hb0 : (okI false md it && okEs (mdB vs md) ifs && okG true (mdB vs md) (mdB vs md) g) = true := hb
  obtain ⟨hb1, hb3⟩ := Bool.and_eq_true_iff.mp hb0
  obtain ⟨hb1, hb2⟩ := Bool.and_eq_true_iff.mp hb1
  refine ⟨C, F, md, ρ, κ, hb2, hb3, s, C, F, md, ρ, κ, hb1, s, ?_⟩
  rw [ev] at q
  have q1 := wpO_calm (X' := fun _ _ => False) (wpO_bnd q)
  rw [evg] at q1
  refine wpO_mono (wpO_bnd q1) (fun ds κ1 q2 J H1 x1 c1 wd L0 hL => ?_) fun _ _ z => False.elim z
  have s1 := s.ext x1 c1
  obtain ⟨G, Y, w, g0, gk, gy⟩ := wd
  have cf : C ≠ some L0 := fun z => by have := c1 L0 z; rw [hL] at this; cases this
  cases e : collect (fun x => bnd (opt (asg t x (wipeD ρ vs))) fun ρ' => bnd (evt W.call ifs ρ') fun b => if b then evg W.call g ρ' ρ' else ret []) ds κ1 with
  | ok all κ' =>
    rw [e] at q2
    obtain ⟨y, e1, q3⟩ := wpO_opt (show wpO (opt ((sized all).map D.lst) κ') _ _ from q2)
    obtain ⟨z, e2, rfl⟩ := Option.map_eq_some_iff.mp e1
    unfold sized at e2
    split at e2
    · rename_i hz
      cases e2
      refine ⟨ds, κ1, all, κ', G, Y, cf, hz, s1, e, w, g0, gk, gy, fun H2 l => ?_⟩
      obtain ⟨vs', e3, rs⟩ := l.d
      have nF : ¬ F L0 := fun z => s1.fh L0 z hL
      refine q3 (.ref L0) H2 (x1.trans l.x) l.cup (Rep.toB ?_) fun _ => ?_
      · simp only [Rep]
        exact ⟨L0, vs', rfl, cf, nF, e3, Reps.less (fun a z => .inl z) all vs' rs⟩
      · exact ⟨L0, vs', rfl, x1.new c1 hL, cf, e3, rs⟩
    · cases e2
  | exc x k => rw [e] at q2; exact False.elim q2
  | bad => rw [e] at q2; exact False.elim q2
theorem imp_lc1 {bb : Bool} {vs : List Nat} {t : Tg} {it : MP.It} {ifs : Es} {e : E} {σ : L2.St} {H : Hp} {Q : VK} (hsub : ∀ i ∈ tgS t, i ∈ vs) (h : tE W X bb (.comp vs (.cons t it ifs (.fin e))) σ H Q) :
    tLc (tI W X false it) (gT W X t) (tTs W X ifs) (tE W X true e) vs σ H Q := by
  obtain ⟨C, F, md, ρ, κ, hb2, hb3, s, hI⟩ := comp_start h
  obtain ⟨C', F', md', ρ', κ0, hk, s', q⟩ := hI
  refine ⟨C', F', md', ρ', κ0, hk, s', wpO_mono q (fun ds0 κ1 q J H1 x1 c1 wd L0 hL => ?_) fun _ _ z => z⟩
  obtain ⟨ds, κ1, all, κ', G, Y, cf, hz, s1, ecol, w, g0, gk, gy, fin⟩ := q J H1 x1 c1 wd L0 hL
  let f : D → M (List D) := fun x => bnd (opt (asg t x (wipeD ρ vs))) fun ρ' => bnd (evt W.call ifs ρ') fun b => if b then evg W.call (.fin e) ρ' ρ' else ret []
  refine lc_it w (fun i H => G H ∧ ∃ acc κ, LS (W.rc X C) F H1 L0 acc κ H ∧ ∃ rest, collect f (ds.drop i) κ = .ok rest κ' ∧ acc ++ rest = all) ?_ (fun i H _ p => p.1) ?_ ?_
  · exact ⟨gk _ _ g0 (Keep.lay hL), [], κ1, LS.start hL s1.cup, all, ecol, rfl⟩
  · rintro i x H2 H3 hi ⟨gH, acc, κ2, l, rest, ec, eall⟩ y
    obtain ⟨d, ed, x3, rd⟩ := gy i H2 x H3 hi gH y
    rw [drop_cons ed] at ec
    obtain ⟨a, κa, rb, ef, ec2, er⟩ := collect_ok ec
    have l3 : LS (W.rc X C) F H1 L0 acc κ2 H3 := LS.ext (R := W.rc X C) cf l (Ext.none' x3) (Cup.none' l.cup x3)
    have g3 : G H3 := gk _ _ gH (Ext.keep' x3 fun c z => by cases z)
    have s3 : Sit (W.rc X C) (FD F L0) md σ H3 ρ κ2 := LS.sit s1 hL l3
    have toG : ∀ H4, Ext C H3 H4 → G H4 := fun H4 x4 => gk _ _ g3 (Ext.keep' x4 fun c z => .inl z)
    refine turn (md := mdB vs md) (m := fun ρ' => evg W.call (.fin e) ρ' ρ') hb2 cf l3 (Rep.less (fun b z => z.imp id fun z => by rw [z]; exact hL) d x rd) (by rw [wipeD_len, wipe_length]; exact s1.len) ef (fun σ2 ρ2 a2 => blk_sit s3 a2)
      (fun σ2 ρ2 a2 => wipe_eq (by rw [a2.ls, wipe_length]) fun j hj => ?_) (fun σ2 ρ2 H4 κ4 aR s4 l4 x4 em => ?_) fun H4 l4 x4 ea => ?_
    · rw [(a2.out j fun z => hj (hsub j z)).1, wipe_get, if_neg hj]
    · rw [evg] at em
      obtain ⟨yd, κ5, ey, em⟩ := bnd_ok em
      cases em
      refine el_push (C := C) (Post := fun H => G H ∧ ∃ acc κ, LS (W.rc X C) F H1 L0 acc κ H ∧ ∃ rest, collect f (ds.drop (i + 1)) κ = .ok rest κ' ∧ acc ++ rest = all) hb3 s4 hL cf l4 ey ?_ fun H5 l5 k5 => ?_
      · have : all.length ≤ line := hz
        rw [← eall, er] at this
        simp only [List.length_append, List.length_cons] at this
        omega
      · exact ⟨gk _ _ (toG H4 x4) (k5.mono fun b z => z.imp id fun z => by rw [z]; exact hL), acc ++ [yd], _, l5, rb, ec2, by rw [← eall, er]; simp⟩
    · subst ea
      exact ⟨toG H4 x4, acc, _, l4, rb, ec2, by rw [← eall, er]; rfl⟩
  · rintro H2 ⟨_, acc, κ2, l, rest, ec, eall⟩
    rw [List.drop_length] at ec
    have ec : (ret [] : M (List D)) κ2 = .ok rest κ' := ec
    cases ec
    rw [List.append_nil] at eall
    subst eall
    exact fin H2 l
theorem se_lc1 {bb : Bool} {elt tg iter : Expr} {ifs : List Expr} {scope : Scope} {own : List (Str × Nat)} {vs : List Nat} {pos : Pos} {t : Tg} {it : MP.It} {cifs : Es} {e : E} (hc : X.calm = true) (hN : X.N.Nodup) (hi : SI W X false tg iter it) (ok : BlkOk X.N X.env.scope scope own) (hvs : own.map (·.2) = vs)
    (hg : ∀ (s : Shared) (H : Hp) (C : Addr) (cl : List (Str × Addr)) (fp : List Addr), SG W (X.blk s H scope (compEnvC scope cl C X.env) fp) tg t) (ht : ∀ (s : Shared) (H : Hp) (C : Addr) (cl : List (Str × Addr)) (fp : List Addr), STs W (X.blk s H scope (compEnvC scope cl C X.env) fp) ifs cifs)
    (he : ∀ (s : Shared) (H : Hp) (C : Addr) (cl : List (Str × Addr)) (fp : List Addr), SE W (X.blk s H scope (compEnvC scope cl C X.env) fp) true elt e) (hsub : ∀ i ∈ tgS t, i ∈ vs) (hs : ∀ x, foldedSetIterable iter X.env x = pure x := by intro _; rfl) :
    SE W X bb (.ListComp elt [⟨tg, iter, ifs, 0⟩] scope pos) (.comp vs (.cons t it cifs (.fin e))) := by
  subst hvs
  exact PE.imp (pe_lc hc hN hi ok hg ht he hs) fun σ H Q q => imp_lc1 hsub q
theorem imp_lc2 {bb : Bool} {vs : List Nat} {t t1 : Tg} {it it1 : MP.It} {ifs ifs1 : Es} {e : E} {σ : L2.St} {H : Hp} {Q : VK} (hsub : ∀ i ∈ tgS t, i ∈ vs) (h : tE W X bb (.comp vs (.cons t it ifs (.cons t1 it1 ifs1 (.fin e)))) σ H Q) :
    tLc2 (tI W X false it) (gT W X t) (tTs W X ifs) (tI W X true it1) (gT W X t1) (tTs W X ifs1) (tE W X true e) vs (tgS t1) σ H Q := by
  obtain ⟨C, F, md, ρ, κ, hb2, hb3, s, hI⟩ := comp_start h
  obtain ⟨C', F', md', ρ', κ0, hk, s', q⟩ := hI
  refine ⟨C', F', md', ρ', κ0, hk, s', wpO_mono q (fun ds0 κ1 q J H1 x1 c1 wd L0 hL => ?_) fun _ _ z => z⟩
  obtain ⟨ds, κ1, all, κ', G, Y, cf, hz, s1, ecol, w, g0, gk, gy, fin⟩ := q J H1 x1 c1 wd L0 hL
  have hb4 : (okI true (mdB vs md) it1 && okEs (mdB vs md) ifs1 && okB true (mdB vs md) e) = true := hb3
  obtain ⟨hb4, hb7⟩ := Bool.and_eq_true_iff.mp hb4
  obtain ⟨hb5, hb6⟩ := Bool.and_eq_true_iff.mp hb4
  let f : D → M (List D) := fun x => bnd (opt (asg t x (wipeD ρ vs))) fun ρ' => bnd (evt W.call ifs ρ') fun b => if b then evg W.call (.cons t1 it1 ifs1 (.fin e)) ρ' ρ' else ret []
  let Pv : Nat → Hp → Prop := fun i H => G H ∧ ∃ acc κ, LS (W.rc X C) F H1 L0 acc κ H ∧ ∃ rest, collect f (ds.drop i) κ = .ok rest κ' ∧ acc ++ rest = all
  refine ⟨fun i m H => m = ds.length - i ∧ i ≤ ds.length ∧ Pv i H, ⟨ds.length, by simp, Nat.zero_le _, gk _ _ g0 (Keep.lay hL), [], κ1, LS.start hL s1.cup, all, ecol, rfl⟩, ?_⟩
  rintro i m H2 ⟨rfl, hi, gH, acc, κ2, l, rest, ec, eall⟩
  by_cases hlt : i < ds.length
  · refine .inr ⟨w.goes i H2 hlt gH, Pv (i + 1), fun H' p => ⟨_, by omega, rfl, by omega, p⟩, fun x H3 y => ?_⟩
    obtain ⟨d, ed, x3, rd⟩ := gy i H2 x H3 hlt gH (w.yields i H2 x H3 hlt gH y)
    rw [drop_cons ed] at ec
    obtain ⟨a, κa, rb, ef, ec2, er⟩ := collect_ok ec
    have l3 : LS (W.rc X C) F H1 L0 acc κ2 H3 := LS.ext (R := W.rc X C) cf l (Ext.none' x3) (Cup.none' l.cup x3)
    have g3 : G H3 := gk _ _ gH (Ext.keep' x3 fun c z => by cases z)
    have s3 : Sit (W.rc X C) (FD F L0) md σ H3 ρ κ2 := LS.sit s1 hL l3
    have toG : ∀ H4, Ext C H3 H4 → G H4 := fun H4 x4 => gk _ _ g3 (Ext.keep' x4 fun c z => .inl z)
    refine turn (md := mdB vs md) (m := fun ρ' => evg W.call (.cons t1 it1 ifs1 (.fin e)) ρ' ρ') hb2 cf l3 (Rep.less (fun b z => z.imp id fun z => by rw [z]; exact hL) d x rd) (by rw [wipeD_len, wipe_length]; exact s1.len) ef (fun σ2 ρ2 a2 => blk_sit s3 a2)
      (fun σ2 ρ2 a2 => wipe_eq (by rw [a2.ls, wipe_length]) fun j hj => ?_) (fun σ2 ρ2 H4 κ4 aR s4 l4 x4 em => ?_) fun H4 l4 x4 ea => ?_
    · rw [(a2.out j fun z => hj (hsub j z)).1, wipe_get, if_neg hj]
    · rw [evg] at em
      obtain ⟨ds1, κ5, ei, em⟩ := bnd_ok em
      let f1 : D → M (List D) := fun x => bnd (opt (asg t1 x ρ2)) fun ρ' => bnd (evt W.call ifs1 ρ') fun b => if b then evg W.call (.fin e) ρ' ρ' else ret []
      refine ⟨C, FD F L0, mdB vs md, ρ2, κ4, hb5, s4, wpO_eq ei fun J1 H5 x5 c5 wd1 => ?_⟩
      obtain ⟨G1, Y1, w1, g10, gk1, gy1⟩ := wd1
      have l5 := LS.ext (R := W.rc X C) cf l4 x5 c5
      have s5 := s4.ext x5 c5
      have toF : ∀ a, Sof true C (FD F L0) a → fut (Sof true C (FD F L0)) H5 a := fun a z => .inl z
      let Pv1 : Nat → Hp → Prop := fun j H => G H ∧ G1 H ∧ Keep (FD F L0) H5 H ∧ ∃ acc' κ, LS (W.rc X C) F H1 L0 acc' κ H ∧ ∃ rest', collect f1 (ds1.drop j) κ = .ok rest' κa ∧ acc' ++ rest' = acc ++ a
      refine ⟨fun j k H => k = ds1.length - j ∧ j ≤ ds1.length ∧ Pv1 j H, ⟨ds1.length, by simp, Nat.zero_le _, toG _ (x4.trans x5), g10, Keep.refl, acc, κ5, l5, a, em, rfl⟩, ?_⟩
      rintro j k H6 ⟨rfl, hj, gH6, g1H, k6, acc6, κ6, l6, rest6, ec6, eall6⟩
      by_cases hlt1 : j < ds1.length
      · refine .inr ⟨w1.goes j H6 hlt1 g1H, Pv1 (j + 1), fun H' p => ⟨_, by omega, rfl, by omega, p⟩, fun x' H7 y' => ?_⟩
        obtain ⟨d', ed', x7, rd'⟩ := gy1 j H6 x' H7 hlt1 g1H (w1.yields j H6 x' H7 hlt1 g1H y')
        rw [drop_cons ed'] at ec6
        obtain ⟨a', κa', rb', ef', ec7, er'⟩ := collect_ok ec6
        have l7 : LS (W.rc X C) F H1 L0 acc6 κ6 H7 := LS.ext (R := W.rc X C) cf l6 (Ext.none' x7) (Cup.none' l6.cup x7)
        have kn : Keep (FD F L0) H6 H7 := Ext.keep' x7 fun c z => by cases z
        have k7 : Keep (FD F L0) H5 H7 := k6.trans kn
        have g7 : G H7 := gk _ _ gH6 (Ext.keep' x7 fun c z => by cases z)
        have g17 : G1 H7 := gk1 _ _ g1H (kn.mono fun b z => .inl z)
        have k37 : Keep (FD F L0) H3 H7 := ((Ext.keep' x4 fun c z => s4.cf c z).trans (Ext.keep' x5 fun c z => s4.cf c z)).trans k7
        have s7 : Sit (W.rc X C) (FD F L0) (mdB vs md) σ2 H7 ρ2 κ6 := blk_sit (LS.sit s1 hL l7) (aR.keep k37)
        have toG' : ∀ H8, Ext C H7 H8 → G H8 ∧ G1 H8 ∧ Keep (FD F L0) H5 H8 := fun H8 x8 =>
          have k8 : Keep (FD F L0) H7 H8 := Ext.keep' x8 fun c z => s5.cf c z
          ⟨gk _ _ g7 (Ext.keep' x8 fun c z => .inl z), gk1 _ _ g17 (k8.mono fun b z => .inl z), k7.trans k8⟩
        refine turn (md := mdB vs md) (m := fun ρ' => evg W.call (.fin e) ρ' ρ') hb6 cf l7 (Rep.less (fun b z => .inl z) d' x' rd') (by rw [wipe_length]; exact s7.len) ef' (fun σ3 ρ3 a3 => asg_sit s7 a3)
          (fun σ3 ρ3 a3 => wipe_eq (by rw [a3.ls, wipe_length]) fun j hj => ?_) (fun σ3 ρ3 H8 κ8 aR8 s8 l8 x8 em8 => ?_) fun H8 l8 x8 ea8 => ?_
        · rw [(a3.out j hj).1, wipe_get, if_neg hj]
        · rw [evg] at em8
          obtain ⟨yd, κ9, ey, em8⟩ := bnd_ok em8
          cases em8
          refine el_push (C := C) (Post := Pv1 (j + 1)) hb7 s8 hL cf l8 ey ?_ fun H9 l9 k9 => ?_
          · have h1 : all.length ≤ line := hz
            have h2 : (acc6 ++ rest6).length = (acc ++ a).length := by rw [eall6]
            rw [← eall, er] at h1
            rw [er'] at h2
            simp only [List.length_append, List.length_cons] at h1 h2
            omega
          · have t8 := toG' H8 x8
            have k9' : Keep (FD F L0) H8 H9 := k9.mono fun b z => z.elim (fun z => s5.cf b z) fun z => .inr z
            exact ⟨gk _ _ t8.1 (k9.mono fun b z => z.imp id fun z => by rw [z]; exact hL), gk1 _ _ t8.2.1 (k9'.mono fun b z => .inl z), t8.2.2.trans k9', acc6 ++ [yd], _, l9, rb', ec7, by rw [← eall6, er']; simp⟩
        · subst ea8
          have t8 := toG' H8 x8
          exact ⟨t8.1, t8.2.1, t8.2.2, acc6, _, l8, rb', ec7, by rw [← eall6, er']; rfl⟩
      · have ej : j = ds1.length := by omega
        subst ej
        rw [List.drop_length] at ec6
        have ec6 : (ret [] : M (List D)) κ6 = .ok rest6 κa := ec6
        cases ec6
        rw [List.append_nil] at eall6
        subst eall6
        exact .inl ⟨w1.stops H6 g1H, gH6, _, _, l6, rb, ec2, by rw [← eall, er]; simp⟩
    · subst ea
      exact ⟨toG H4 x4, acc, _, l4, rb, ec2, by rw [← eall, er]; rfl⟩
  · have ei : i = ds.length := by omega
    subst ei
    rw [List.drop_length] at ec
    have ec : (ret [] : M (List D)) κ2 = .ok rest κ' := ec
    cases ec
    rw [List.append_nil] at eall
    subst eall
    exact .inl ⟨w.stops H2 gH, fin H2 l⟩
theorem se_lc2 {bb : Bool} {elt tg iter tg1 iter1 : Expr} {ifs ifs1 : List Expr} {scope : Scope} {own : List (Str × Nat)} {vs : List Nat} {pos : Pos} {t t1 : Tg} {it it1 : MP.It} {cifs cifs1 : Es} {e : E} (hc : X.calm = true) (hN : X.N.Nodup) (hi : SI W X false tg iter it) (ok : BlkOk X.N X.env.scope scope own) (hvs : own.map (·.2) = vs)
    (hg : ∀ (s : Shared) (H : Hp) (C : Addr) (cl : List (Str × Addr)) (fp : List Addr), SG W (X.blk s H scope (compEnvC scope cl C X.env) fp) tg t) (ht : ∀ (s : Shared) (H : Hp) (C : Addr) (cl : List (Str × Addr)) (fp : List Addr), STs W (X.blk s H scope (compEnvC scope cl C X.env) fp) ifs cifs)
    (hi1 : ∀ (s : Shared) (H : Hp) (C : Addr) (cl : List (Str × Addr)) (fp : List Addr), SI W (X.blk s H scope (compEnvC scope cl C X.env) fp) true tg1 iter1 it1)
    (hg1 : ∀ (s : Shared) (H : Hp) (C : Addr) (cl : List (Str × Addr)) (fp : List Addr), SG W (X.blk s H scope (compEnvC scope cl C X.env) fp) tg1 t1) (ht1 : ∀ (s : Shared) (H : Hp) (C : Addr) (cl : List (Str × Addr)) (fp : List Addr), STs W (X.blk s H scope (compEnvC scope cl C X.env) fp) ifs1 cifs1)
    (he : ∀ (s : Shared) (H : Hp) (C : Addr) (cl : List (Str × Addr)) (fp : List Addr), SE W (X.blk s H scope (compEnvC scope cl C X.env) fp) true elt e) (hsub : ∀ i ∈ tgS t, i ∈ vs) (hsub1 : ∀ i ∈ tgS t1, i ∈ vs) (hs : ∀ x, foldedSetIterable iter X.env x = pure x := by intro _; rfl) (hs1 : ∀ env x, foldedSetIterable iter1 env x = pure x := by intro _ _; rfl) :
    SE W X bb (.ListComp elt [⟨tg, iter, ifs, 0⟩, ⟨tg1, iter1, ifs1, 0⟩] scope pos) (.comp vs (.cons t it cifs (.cons t1 it1 cifs1 (.fin e)))) := by
  subst hvs
  exact PE.imp (pe_lc2 hc hN hi ok hsub1 hg ht hi1 hg1 ht1 he hs hs1) fun σ H Q q => imp_lc2 hsub q
end
end MP
set_option Elab.async false
set_option linter.all false
set_option maxRecDepth 100000
set_option maxHeartbeats 2000000
/-! MP14: what stands at a statement. -/
namespace MP
open PySem PySem.Spec PyProof.Rows L2
/-- modes by slots: 0 plain, 1 owns its list or dict, 2 owns the lists in it too -/
def mdL (l : List Nat) : Nat → Nat := fun i => l.getD i 0
theorem mdL_set {l : List Nat} {i m : Nat} (h : i < l.length) (j : Nat) : mdL (l.set i m) j = if j = i then m else mdL l j := by
  unfold mdL
  rw [List.getD_eq_getElem?_getD, List.getD_eq_getElem?_getD]
  by_cases e : j = i
  · subst e; rw [List.getElem?_set_self h, if_pos rfl]; rfl
  · rw [List.getElem?_set_ne (fun z => e z.symm), if_neg e]
def clr : List Nat → List Nat → List Nat
  | l, [] => l
  | l, i :: is => clr (l.set i 0) is
theorem mdL_zero (l : List Nat) (i j : Nat) : mdL (l.set i 0) j = if j = i then 0 else mdL l j := by
  unfold mdL
  rw [List.getD_eq_getElem?_getD, List.getD_eq_getElem?_getD]
  by_cases e : j = i
  · subst e
    rw [if_pos rfl]
    by_cases h : j < l.length
    · rw [List.getElem?_set_self h]; rfl
    · rw [List.getElem?_eq_none (by rw [List.length_set]; omega)]; rfl
  · rw [List.getElem?_set_ne (fun z => e z.symm), if_neg e]
theorem mdL_clr (j : Nat) : ∀ (is l : List Nat), mdL (clr l is) j = if j ∈ is then 0 else mdL l j
  | [], l => by simp [clr]
  | i :: is, l => by
    unfold clr
    rw [mdL_clr j is, mdL_zero]
    by_cases h1 : j ∈ is
    · simp [h1]
    · by_cases h2 : j = i
      · simp [h2]
      · simp [h1, h2]
/-- one list of modes promises less -/
def dem (l l' : List Nat) : Bool := (List.range (max l.length l'.length)).all fun i => mdL l' i == mdL l i || mdL l' i == 0
theorem dem_at {l l' : List Nat} (h : dem l l' = true) (i : Nat) : mdL l' i = mdL l i ∨ mdL l' i = 0 := by
  by_cases hi : i < max l.length l'.length
  · have := List.all_eq_true.mp h i (List.mem_range.mpr hi)
    simpa using this
  · refine .inr ?_
    unfold mdL
    rw [List.getD_eq_getElem?_getD, List.getElem?_eq_none (by omega)]; rfl
def Own1 (R : Rc) (H : Hp) (F : Addr → Prop) (own : List Addr) (d : D) (v : V) : Prop := match d with
  | .lst ds => ∃ a vs, v = .ref a ∧ own = [a] ∧ H a = some (.lst vs) ∧ Reps R H F ds vs
  | .dic t ks ws => ∃ a vs, v = .ref a ∧ own = [a] ∧ DicAt R H a t ks vs ∧ Reps R H F ws vs
  | d => own = [] ∧ Rep R H F d v
def Rows (R : Rc) (H : Hp) (F : Addr → Prop) : List Addr → List D → List V → Prop
  | own, [], vs => own = [] ∧ vs = []
  | own, d :: ds, vs => ∃ o1 o2 v r, own = o1 ++ o2 ∧ vs = v :: r ∧ Own1 R H F o1 d v ∧ Rows R H F o2 ds r
def Own2 (R : Rc) (H : Hp) (F : Addr → Prop) (own : List Addr) (d : D) (v : V) : Prop := match d with
  | .lst ds => ∃ a vs o, v = .ref a ∧ own = a :: o ∧ H a = some (.lst vs) ∧ Rows R H F o ds vs
  | .dic t ks ws => ∃ a vs o, v = .ref a ∧ own = a :: o ∧ DicAt R H a t ks vs ∧ Rows R H F o ws vs
  | d => own = [] ∧ Rep R H F d v
def OwnM (R : Rc) (H : Hp) (F : Addr → Prop) (m : Nat) (own : List Addr) (d : D) (v : V) : Prop := match m with
  | 0 => own = [] ∧ Rep R H F d v
  | 2 => Own2 R H F own d v
  | _ => Own1 R H F own d v
section
variable {R : Rc} {H H' : Hp} {F G : Addr → Prop}
theorem Own1.ext {own : List Addr} {d : D} {v : V} (n : ∀ a ∈ own, R.C ≠ some a) (x : Ext R.C H H') (h : Own1 R H F own d v) : Own1 R H' F own d v := by
  cases d with
  | lst ds =>
    obtain ⟨a, vs, e1, e2, e3, r⟩ := h
    subst e2
    exact ⟨a, vs, e1, rfl, x.lst e3 (n a (by simp)), Reps.ext x ds vs r⟩
  | dic t ks ws =>
    obtain ⟨a, vs, e1, e2, e3, r⟩ := h
    exact ⟨a, vs, e1, e2, x.dic e3, Reps.ext x ws vs r⟩
  | _ => exact ⟨h.1, Rep.ext x _ v h.2⟩
theorem Rows.ext (x : Ext R.C H H') : ∀ {own : List Addr} {ds : List D} {vs : List V}, (∀ a ∈ own, R.C ≠ some a) → Rows R H F own ds vs → Rows R H' F own ds vs
  | _, [], _, _, h => h
  | own, d :: ds, vs, n, h => by
    obtain ⟨o1, o2, v, r, rfl, e2, h1, h2⟩ := h
    exact ⟨o1, o2, v, r, rfl, e2, Own1.ext (fun a m => n a (List.mem_append.mpr (.inl m))) x h1, Rows.ext x (fun a m => n a (List.mem_append.mpr (.inr m))) h2⟩
theorem OwnM.ext {m : Nat} {own : List Addr} {d : D} {v : V} (n : ∀ a ∈ own, R.C ≠ some a) (x : Ext R.C H H') (h : OwnM R H F m own d v) : OwnM R H' F m own d v := by
  match m, h with
  | 0, h => exact ⟨h.1, Rep.ext x d v h.2⟩
  | 1, h => exact Own1.ext n x h
  | m + 3, h => exact Own1.ext n x h
  | 2, h =>
    have h : Own2 R H F own d v := h
    show Own2 R H' F own d v
    cases d with
    | lst ds =>
      obtain ⟨a, vs, o, e1, e2, e3, r⟩ := h
      subst e2
      exact ⟨a, vs, o, e1, rfl, x.lst e3 (n a (by simp)), Rows.ext x (fun b m => n b (List.mem_cons_of_mem _ m)) r⟩
    | dic t ks ws =>
      obtain ⟨a, vs, o, e1, e2, e3, r⟩ := h
      subst e2
      exact ⟨a, vs, o, e1, rfl, x.dic e3, Rows.ext x (fun b m => n b (List.mem_cons_of_mem _ m)) r⟩
    | _ => exact ⟨h.1, Rep.ext x _ v h.2⟩
theorem Own1.less (hs : ∀ a, G a → F a) {own : List Addr} {d : D} {v : V} (h : Own1 R H F own d v) : Own1 R H G own d v := by
  cases d with
  | lst ds => obtain ⟨a, vs, e1, e2, e3, r⟩ := h; exact ⟨a, vs, e1, e2, e3, Reps.less hs ds vs r⟩
  | dic t ks ws => obtain ⟨a, vs, e1, e2, e3, r⟩ := h; exact ⟨a, vs, e1, e2, e3, Reps.less hs ws vs r⟩
  | _ => exact ⟨h.1, Rep.less hs _ v h.2⟩
theorem Rows.less (hs : ∀ a, G a → F a) : ∀ {own : List Addr} {ds : List D} {vs : List V}, Rows R H F own ds vs → Rows R H G own ds vs
  | _, [], _, h => h
  | own, d :: ds, vs, h => by
    obtain ⟨o1, o2, v, r, e1, e2, h1, h2⟩ := h
    exact ⟨o1, o2, v, r, e1, e2, Own1.less hs h1, Rows.less hs h2⟩
theorem OwnM.less (hs : ∀ a, G a → F a) {m : Nat} {own : List Addr} {d : D} {v : V} (h : OwnM R H F m own d v) : OwnM R H G m own d v := by
  match m, h with
  | 0, h => exact ⟨h.1, Rep.less hs d v h.2⟩
  | 1, h => exact Own1.less hs h
  | m + 3, h => exact Own1.less hs h
  | 2, h =>
    have h : Own2 R H F own d v := h
    show Own2 R H G own d v
    cases d with
    | lst ds => obtain ⟨a, vs, o, e1, e2, e3, r⟩ := h; exact ⟨a, vs, o, e1, e2, e3, Rows.less hs r⟩
    | dic t ks ws => obtain ⟨a, vs, o, e1, e2, e3, r⟩ := h; exact ⟨a, vs, o, e1, e2, e3, Rows.less hs r⟩
    | _ => exact ⟨h.1, Rep.less hs _ v h.2⟩
theorem Own1.wide (hs : ∀ a, G a → F a ∨ H a = none) {own : List Addr} {d : D} {v : V} (h : Own1 R H F own d v) : Own1 R H G own d v := by
  cases d with
  | lst ds => obtain ⟨a, vs, e1, e2, e3, r⟩ := h; exact ⟨a, vs, e1, e2, e3, Reps.wide hs ds vs r⟩
  | dic t ks ws => obtain ⟨a, vs, e1, e2, e3, r⟩ := h; exact ⟨a, vs, e1, e2, e3, Reps.wide hs ws vs r⟩
  | _ => exact ⟨h.1, Rep.wide hs _ v h.2⟩
theorem Rows.wide (hs : ∀ a, G a → F a ∨ H a = none) : ∀ {own : List Addr} {ds : List D} {vs : List V}, Rows R H F own ds vs → Rows R H G own ds vs
  | _, [], _, h => h
  | own, d :: ds, vs, h => by
    obtain ⟨o1, o2, v, r, e1, e2, h1, h2⟩ := h
    exact ⟨o1, o2, v, r, e1, e2, Own1.wide hs h1, Rows.wide hs h2⟩
theorem OwnM.wide (hs : ∀ a, G a → F a ∨ H a = none) {m : Nat} {own : List Addr} {d : D} {v : V} (h : OwnM R H F m own d v) : OwnM R H G m own d v := by
  match m, h with
  | 0, h => exact ⟨h.1, Rep.wide hs d v h.2⟩
  | 1, h => exact Own1.wide hs h
  | m + 3, h => exact Own1.wide hs h
  | 2, h =>
    have h : Own2 R H F own d v := h
    show Own2 R H G own d v
    cases d with
    | lst ds => obtain ⟨a, vs, o, e1, e2, e3, r⟩ := h; exact ⟨a, vs, o, e1, e2, e3, Rows.wide hs r⟩
    | dic t ks ws => obtain ⟨a, vs, o, e1, e2, e3, r⟩ := h; exact ⟨a, vs, o, e1, e2, e3, Rows.wide hs r⟩
    | _ => exact ⟨h.1, Rep.wide hs _ v h.2⟩
/-- given up: a plain value -/
theorem Own1.free (hs : ∀ a, G a → F a) {own : List Addr} {d : D} {v : V} (n : ∀ a ∈ own, R.C ≠ some a ∧ ¬ G a) (h : Own1 R H F own d v) : Rep R H G d v := by
  cases d with
  | lst ds =>
    obtain ⟨a, vs, e1, e2, e3, r⟩ := h
    subst e2
    simp only [Rep]
    exact ⟨a, vs, e1, (n a (by simp)).1, (n a (by simp)).2, e3, Reps.less hs ds vs r⟩
  | dic t ks ws =>
    obtain ⟨a, vs, e1, e2, e3, r⟩ := h
    subst e2
    simp only [Rep]
    exact ⟨a, vs, e1, (n a (by simp)).2, e3, Reps.less hs ws vs r⟩
  | _ => exact Rep.less hs _ v h.2
theorem Rows.free (hs : ∀ a, G a → F a) : ∀ {own : List Addr} {ds : List D} {vs : List V}, (∀ a ∈ own, R.C ≠ some a ∧ ¬ G a) → Rows R H F own ds vs → Reps R H G ds vs
  | _, [], _, _, h => by simp only [Reps]; exact h.2
  | own, d :: ds, vs, n, h => by
    obtain ⟨o1, o2, v, r, rfl, e2, h1, h2⟩ := h
    simp only [Reps]
    exact ⟨v, r, e2, Own1.free hs (fun a m => n a (List.mem_append.mpr (.inl m))) h1, Rows.free hs (fun a m => n a (List.mem_append.mpr (.inr m))) h2⟩
theorem OwnM.free (hs : ∀ a, G a → F a) {m : Nat} {own : List Addr} {d : D} {v : V} (n : ∀ a ∈ own, R.C ≠ some a ∧ ¬ G a) (h : OwnM R H F m own d v) : Rep R H G d v := by
  match m, h with
  | 0, h => exact Rep.less hs d v h.2
  | 1, h => exact Own1.free hs n h
  | m + 3, h => exact Own1.free hs n h
  | 2, h =>
    have h : Own2 R H F own d v := h
    cases d with
    | lst ds =>
      obtain ⟨a, vs, o, e1, e2, e3, r⟩ := h
      subst e2
      simp only [Rep]
      exact ⟨a, vs, e1, (n a (by simp)).1, (n a (by simp)).2, e3, Rows.free hs (fun b m => n b (List.mem_cons_of_mem _ m)) r⟩
    | dic t ks ws =>
      obtain ⟨a, vs, o, e1, e2, e3, r⟩ := h
      subst e2
      simp only [Rep]
      exact ⟨a, vs, e1, (n a (by simp)).2, e3, Rows.free hs (fun b m => n b (List.mem_cons_of_mem _ m)) r⟩
    | _ => exact Rep.less hs _ v h.2
theorem Own1.top (n : ∀ a ∈ own, R.C ≠ some a) {d : D} {v : V} (h : Own1 R H F own d v) : RepT R H F d v := by
  cases d with
  | lst ds =>
    obtain ⟨a, vs, e1, e2, e3, r⟩ := h
    subst e2
    exact ⟨a, vs, e1, n a (by simp), e3, r⟩
  | dic t ks ws =>
    obtain ⟨a, vs, e1, e2, e3, r⟩ := h
    exact ⟨a, vs, e1, e3, r⟩
  | _ => exact Rep.top h.2
/-- all that is not to be handed on -/
def ownF (R : Rc) (F0 : Addr → Prop) (O : Nat → List Addr) : Addr → Prop := fun a => F0 a ∨ R.C = some a ∨ ∃ i, a ∈ O i
structure OwnOk (R : Rc) (H0 H : Hp) (O : Nat → List Addr) : Prop where
  new : ∀ i a, a ∈ O i → H0 a = none ∧ R.C ≠ some a ∧ H a ≠ none
  one : ∀ i j a, i ≠ j → a ∈ O i → a ∉ O j
  nod : ∀ i, (O i).Nodup
structure SRelO (R : Rc) (F0 : Addr → Prop) (H0 : Hp) (O : Nat → List Addr) (l : List Nat) (σ : L2.St) (H : Hp) (ρ : List D) (κ : MP.K) : Prop where
  len : ρ.length = σ.length
  x : Ext R.C H0 H
  cup : Cup R.C H κ
  f0 : ∀ a, F0 a → H0 a ≠ none
  ok : OwnOk R H0 H O
  at' : ∀ i d, ρ[i]? = some d → d ≠ .und → ∃ v, σ[i]? = some (some v) ∧ OwnM R H (ownF R F0 O) (mdL l i) (O i) d v
  cn : ∀ i, mdL l i = 7 → R.C = none
/-- what has changed since: only objects of F, or new ones; only these, or new ones, are held back -/
structure Fr (F : Addr → Prop) (H : Hp) (F' : Addr → Prop) (H' : Hp) : Prop where
  keep : Keep F H H'
  sub : ∀ a, F' a → fut F H a
theorem Fr.refl {F : Addr → Prop} {H : Hp} : Fr F H F H := ⟨Keep.refl, fun _ h => .inl h⟩
theorem Fr.trans {F F1 F2 : Addr → Prop} {H H1 H2 : Hp} (a : Fr F H F1 H1) (b : Fr F1 H1 F2 H2) : Fr F H F2 H2 := by
  refine ⟨fun x o e => ?_, fun x h => ?_⟩
  · rcases a.keep x o e with q | q
    · rcases b.keep x o q with z | ⟨z, m⟩
      · exact .inl z
      · rcases a.sub x z with y | y
        · exact .inr ⟨y, m⟩
        · rw [e] at y; cases y
    · exact .inr q
  · rcases b.sub x h with q | q
    · exact a.sub x q
    · cases e : H x with
      | none => exact .inr e
      | some o =>
        rcases a.keep x o e with z | z
        · rw [q] at z; cases z
        · exact .inl z.1
def SRelF (R : Rc) (F0 : Addr → Prop) (H0 : Hp) (F : Addr → Prop) (Hs : Hp) (l : List Nat) (σ : L2.St) (H : Hp) (ρ : List D) (κ : MP.K) : Prop := ∃ O, SRelO R F0 H0 O l σ H ρ κ ∧ Fr F Hs (ownF R F0 O) H
theorem live_up {H H' : Hp} {κ : MP.K} (x : Ext R.C H H') (c : Cup R.C H' κ) {a : Addr} (h : H a ≠ none) : H' a ≠ none := fun z => by
  cases e : H a with
  | none => exact h e
  | some o =>
    rcases x a o e with q | ⟨q, _⟩
    · rw [q] at z; cases z
    · rw [c a q] at z; cases z
variable {F0 : Addr → Prop} {H0 : Hp} {O : Nat → List Addr} {l : List Nat} {σ : L2.St} {ρ : List D} {κ κ' : MP.K}
theorem SRelO.sit (s : SRelO R F0 H0 O l σ H ρ κ) : Sit R (ownF R F0 O) (mdL l) σ H ρ κ := by
  refine ⟨fun c e => .inr (.inl e), fun a h => ?_, fun i d e n m => ?_, s.cup, s.len⟩
  · rcases h with h | h | ⟨i, h⟩
    · exact live_up s.x s.cup (s.f0 a h)
    · rw [s.cup a h]; exact fun z => nomatch z
    · exact (s.ok.new i a h).2.2
  · obtain ⟨v, e1, r⟩ := s.at' i d e n
    refine ⟨v, e1, ?_⟩
    match hm : mdL l i, r, m with
    | 0, r, _ => exact r.2
    | 1, r, _ => exact Own1.top (fun a h => (s.ok.new i a h).2.1) r
    | 2, r, m => exact absurd rfl m
    | k + 3, r, _ => exact Own1.top (fun a h => (s.ok.new i a h).2.1) r
theorem SRelO.ext (s : SRelO R F0 H0 O l σ H ρ κ) (x : Ext R.C H H') (c : Cup R.C H' κ') : SRelO R F0 H0 O l σ H' ρ κ' := by
  refine ⟨s.len, s.x.trans x, c, s.f0, ⟨fun i a h => ⟨(s.ok.new i a h).1, (s.ok.new i a h).2.1, live_up x c (s.ok.new i a h).2.2⟩, s.ok.one, s.ok.nod⟩, fun i d e n => ?_, s.cn⟩
  obtain ⟨v, e1, r⟩ := s.at' i d e n
  exact ⟨v, e1, OwnM.ext (fun a h => (s.ok.new i a h).2.1) x r⟩
theorem ownF.sub {O O' : Nat → List Addr} (h : ∀ i a, a ∈ O' i → a ∈ O i) : ∀ a, ownF R F0 O' a → ownF R F0 O a := fun a q => by
  rcases q with q | q | ⟨i, q⟩
  · exact .inl q
  · exact .inr (.inl q)
  · exact .inr (.inr ⟨i, h i a q⟩)
theorem OwnOk.sub {O O' : Nat → List Addr} (k : OwnOk R H0 H O) (h : ∀ i, O' i = [] ∨ O' i = O i) : OwnOk R H0 H O' := by
  have h' : ∀ i a, a ∈ O' i → a ∈ O i := fun i a q => by
    rcases h i with e | e
    · rw [e] at q; cases q
    · rw [e] at q; exact q
  refine ⟨fun i a q => k.new i a (h' i a q), fun i j a n q z => k.one i j a n (h' i a q) (h' j a z), fun i => ?_⟩
  rcases h i with e | e
  · rw [e]; exact List.nodup_nil
  · rw [e]; exact k.nod i
/-- given up -/
theorem SRelO.demote {l' : List Nat} (hd : dem l l' = true) (s : SRelO R F0 H0 O l σ H ρ κ) : SRelF R F0 H0 (ownF R F0 O) H l' σ H ρ κ := by
  let O' : Nat → List Addr := fun i => if mdL l' i = 0 then [] else O i
  have hO : ∀ i, O' i = [] ∨ O' i = O i := fun i => by
    show (if mdL l' i = 0 then [] else O i) = [] ∨ _
    split
    · exact .inl rfl
    · rename_i n; exact .inr (if_neg n)
  have hsub : ∀ i a, a ∈ O' i → a ∈ O i := fun i a q => by
    rcases hO i with e | e
    · rw [e] at q; cases q
    · rw [e] at q; exact q
  refine ⟨O', ⟨s.len, s.x, s.cup, s.f0, s.ok.sub hO, fun i d e n => ?_, fun i h => s.cn i (((dem_at hd i).resolve_right fun z => by rw [h] at z; cases z).symm.trans h)⟩, ⟨Keep.refl, fun a h => .inl (ownF.sub hsub a h)⟩⟩
  obtain ⟨v, e1, r⟩ := s.at' i d e n
  refine ⟨v, e1, ?_⟩
  by_cases h0 : mdL l' i = 0
  · have e0 : O' i = [] := if_pos h0
    rw [h0]
    refine ⟨e0, OwnM.free (ownF.sub hsub) (fun a ha => ⟨(s.ok.new i a ha).2.1, fun z => ?_⟩) r⟩
    rcases z with z | z | ⟨j, z⟩
    · exact s.f0 a z (s.ok.new i a ha).1
    · exact (s.ok.new i a ha).2.1 z
    · by_cases ej : i = j
      · subst ej; rw [e0] at z; cases z
      · exact s.ok.one i j a ej ha (hsub j a z)
  · have e1 : O' i = O i := if_neg h0
    rw [e1, (dem_at hd i).resolve_right h0]
    exact OwnM.less (ownF.sub hsub) r
/-- plain stores -/
theorem SRelO.store {is : List Nat} {σ' : L2.St} {ρ' : List D} (s : SRelO R F0 H0 O l σ H ρ κ) (a : AsgR R H (ownF R F0 O) is σ σ' ρ ρ') : SRelF R F0 H0 (ownF R F0 O) H (clr l is) σ' H ρ' κ := by
  let O' : Nat → List Addr := fun i => if i ∈ is then [] else O i
  have hO : ∀ i, O' i = [] ∨ O' i = O i := fun i => by
    show (if i ∈ is then [] else O i) = [] ∨ _
    split
    · exact .inl rfl
    · rename_i n; exact .inr (if_neg n)
  have hsub : ∀ i a, a ∈ O' i → a ∈ O i := fun i a q => by
    rcases hO i with e | e
    · rw [e] at q; cases q
    · rw [e] at q; exact q
  refine ⟨O', ⟨by rw [a.lr, a.ls]; exact s.len, s.x, s.cup, s.f0, s.ok.sub hO, fun i d e n => ?_, fun i h => s.cn i (by rw [mdL_clr] at h; split at h; cases h; exact h)⟩, ⟨Keep.refl, fun a h => .inl (ownF.sub hsub a h)⟩⟩
  by_cases hi : i ∈ is
  · obtain ⟨v, e1, r⟩ := a.ats i hi d e
    refine ⟨v, e1, ?_⟩
    rw [mdL_clr, if_pos hi]
    exact ⟨if_pos hi, Rep.less (ownF.sub hsub) d v r⟩
  · obtain ⟨e1, e2⟩ := a.out i hi
    rw [e2] at e
    obtain ⟨v, e3, r⟩ := s.at' i d e n
    refine ⟨v, e1.trans e3, ?_⟩
    rw [mdL_clr, if_neg hi]
    have e4 : O' i = O i := if_neg hi
    rw [e4]
    exact OwnM.less (ownF.sub hsub) r
/-- a store of a new thing owning these -/
theorem SRelO.own {i m : Nat} {d : D} {v : V} {own : List Addr} {H1 : Hp} {κ1 : MP.K} (s : SRelO R F0 H0 O l σ H ρ κ) (x : Ext R.C H H1) (c : Cup R.C H1 κ1) (hm : m ≠ 7) (hi : i < l.length) (hn : ∀ a ∈ own, H a = none ∧ R.C ≠ some a ∧ H1 a ≠ none) (nd : own.Nodup)
    (r : OwnM R H1 (fun a => ownF R F0 O a ∨ a ∈ own) m own d v) : SRelF R F0 H0 (ownF R F0 O) H (l.set i m) (σ.set i (some v)) H1 (ρ.set i d) κ1 := by
  let O' : Nat → List Addr := fun j => if j = i then own else O j
  have hF : ∀ a, ownF R F0 O' a → ownF R F0 O a ∨ a ∈ own := fun a q => by
    rcases q with q | q | ⟨j, q⟩
    · exact .inl (.inl q)
    · exact .inl (.inr (.inl q))
    · by_cases e : j = i
      · have e2 : O' j = own := if_pos e
        rw [e2] at q; exact .inr q
      · have e2 : O' j = O j := if_neg e
        rw [e2] at q; exact .inl (.inr (.inr ⟨j, q⟩))
  refine ⟨O', ⟨by rw [List.length_set, List.length_set]; exact s.len, s.x.trans x, c, s.f0, ⟨fun j a q => ?_, fun j k a n q z => ?_, fun j => ?_⟩, fun j e he n => ?_, fun j h => s.cn j (by rw [mdL_set hi] at h; split at h; exact absurd h hm; exact h)⟩, ⟨Ext.keep' x fun c e => .inr (.inl e), fun a h => (hF a h).imp id fun z => (hn a z).1⟩⟩
  · by_cases e : j = i
    · have e2 : O' j = own := if_pos e
      rw [e2] at q
      obtain ⟨h1, h2, h3⟩ := hn a q
      exact ⟨s.x.new s.cup h1, h2, h3⟩
    · have e2 : O' j = O j := if_neg e
      rw [e2] at q
      obtain ⟨h1, h2, h3⟩ := s.ok.new j a q
      exact ⟨h1, h2, live_up x c h3⟩
  · by_cases e : j = i
    · have e2 : O' j = own := if_pos e
      have e3 : O' k = O k := if_neg fun z => n (e.trans z.symm)
      rw [e2] at q
      rw [e3] at z
      exact (s.ok.new k a z).2.2 (hn a q).1
    · have e2 : O' j = O j := if_neg e
      rw [e2] at q
      by_cases e' : k = i
      · have e3 : O' k = own := if_pos e'
        rw [e3] at z
        exact (s.ok.new j a q).2.2 (hn a z).1
      · have e3 : O' k = O k := if_neg e'
        rw [e3] at z
        exact s.ok.one j k a n q z
  · by_cases e : j = i
    · have e2 : O' j = own := if_pos e
      rw [e2]; exact nd
    · have e2 : O' j = O j := if_neg e
      rw [e2]; exact s.ok.nod j
  · by_cases ej : j = i
    · subst ej
      have hlt : j < ρ.length := by
        have := (List.getElem?_eq_some_iff.mp he).1
        rwa [List.length_set] at this
      rw [List.getElem?_set_self hlt] at he
      cases he
      refine ⟨v, List.getElem?_set_self (by rw [← s.len]; exact hlt), ?_⟩
      have e2 : O' j = own := if_pos rfl
      rw [mdL_set hi, if_pos rfl, e2]
      exact OwnM.less hF r
    · rw [List.getElem?_set_ne (fun z => ej z.symm)] at he
      obtain ⟨w, e1, q⟩ := s.at' j e he n
      refine ⟨w, by rw [List.getElem?_set_ne (fun z => ej z.symm)]; exact e1, ?_⟩
      have e2 : O' j = O j := if_neg ej
      rw [mdL_set hi, if_neg ej, e2]
      refine OwnM.less hF (OwnM.ext (fun a h => (s.ok.new j a h).2.1) x (OwnM.wide (fun a z => ?_) q))
      rcases z with z | z
      · exact .inl z
      · exact .inr (hn a z).1
theorem SRelO.extF (s : SRelO R F0 H0 O l σ H ρ κ) (x : Ext R.C H H') (c : Cup R.C H' κ') : Fr (ownF R F0 O) H (ownF R F0 O) H' := ⟨Ext.keep' x fun c e => .inr (.inl e), fun a h => .inl h⟩
theorem SRelF.up {F F1 : Addr → Prop} {Hs H1 : Hp} (f : Fr F Hs F1 H1) (s : SRelF R F0 H0 F1 H1 l σ H ρ κ) : SRelF R F0 H0 F Hs l σ H ρ κ := let ⟨O, s, g⟩ := s; ⟨O, s, f.trans g⟩
theorem newT_own {H H1 : Hp} {F : Addr → Prop} {d : D} {v : V} (n : NewT R H H1 F d v) (r : Rep R H1 F d v) : ∃ own, (∀ a ∈ own, H a = none ∧ R.C ≠ some a ∧ H1 a ≠ none) ∧ own.Nodup ∧ OwnM R H1 (fun a => F a ∨ a ∈ own) 1 own d v := by
  cases d with
  | lst ds =>
    obtain ⟨a, vs, rfl, h, c, e, rs⟩ := n
    refine ⟨[a], fun b hb => ?_, by simp, a, vs, rfl, rfl, e, Reps.less (fun b z => z.imp id fun z => by simpa using z) ds vs rs⟩
    have : b = a := by simpa using hb
    subst this
    exact ⟨h, c, by rw [e]; exact fun z => nomatch z⟩
  | dic t ks ws =>
    obtain ⟨a, vs, rfl, h, c, e, rs⟩ := n
    refine ⟨[a], fun b hb => ?_, by simp, a, vs, rfl, rfl, e, Reps.less (fun b z => z.imp id fun z => by simpa using z) ws vs rs⟩
    have : b = a := by simpa using hb
    subst this
    exact ⟨h, c, e.live⟩
  | _ => exact ⟨[], fun b hb => by simp at hb, List.nodup_nil, rfl, Rep.less (fun b z => z.elim id fun z => by simp at z) _ v r⟩
end
end MP
set_option Elab.async false
set_option linter.all false
set_option maxRecDepth 100000
set_option maxHeartbeats 2000000
/-! MP15: statements. -/
namespace MP
open PySem PySem.Spec PyProof.Rows L2
abbrev Later (m : Bool) (C C' : Option Addr) : Prop := (m = true ∧ C = none) ∨ C' = C
theorem Later.trans {m : Bool} {A B C : Option Addr} (h : Later m A B) (g : Later m B C) : Later m A C := by
  rcases h with h | h
  · exact .inl h
  · subst h; exact g
/-- what an outcome of statements leaves -/
def Aft (W : Wc) (X : Cx) (r : Bool) (F0 : Addr → Prop) (H0 : Hp) (C : Option Addr) (F : Addr → Prop) (Hs : Hp) (l' cl : List Nat) (D : Ends) : Fl → MP.K → Prop
  | .nx ρ', κ' => ∀ C' σ' H', Later W.mkc C C' → SRelF (W.rc X C') F0 H0 F Hs l' σ' H' ρ' κ' → D.nx σ' H'
  | .ct ρ', κ' => ∀ C' σ' H', Later W.mkc C C' → SRelF (W.rc X C') F0 H0 F Hs cl σ' H' ρ' κ' → D.ct σ' H'
  | .rt d, κ' => ∀ C' v H', Later W.mkc C C' → Ext C' H0 H' → Cup C' H' κ' → Rep (W.rc X C') H' F0 d v → (r = true → NewT (W.rc X C') H0 H' F0 d v) → D.rt v H'
  | .bk _, _ => False
def XWs (W : Wc) (H0 : Hp) (C : Option Addr) : Exn → MP.K → Prop := fun x κ' => ∀ C' H', Later W.mkc C C' → Ext C' H0 H' → Cup C' H' κ' → W.XW x κ' H'
def tS (W : Wc) (X : Cx) (r : Bool) (l l' cl : List Nat) (m : List D → M Fl) : TS := fun D σ H =>
  ∃ C F0 H0 O ρ κ, SRelO (W.rc X C) F0 H0 O l σ H ρ κ ∧ wpO (m ρ κ) (Aft W X r F0 H0 C (ownF (W.rc X C) F0 O) H l' cl D) (XWs W H0 C)
abbrev SS (W : Wc) (X : Cx) (r : Bool) (l l' cl : List Nat) (st : List Stmt) (c : Ss) : Prop := PSs X st (tS W X r l l' cl (exs W.call c))
abbrev S1 (W : Wc) (X : Cx) (r : Bool) (l l' cl : List Nat) (st : Stmt) (c : S) : Prop := PS X st (tS W X r l l' cl (ex W.call c))
theorem PS.imp {X : Cx} {e : Stmt} {t t' : TS} (h : PS X e t) (i : ∀ D σ H, t' D σ H → t D σ H) : PS X e t' := ⟨fun pins s σ H D I q => h.run pins s σ H D I (i D σ H q)⟩
theorem PSs.imp {X : Cx} {e : List Stmt} {t t' : TS} (h : PSs X e t) (i : ∀ D σ H, t' D σ H → t D σ H) : PSs X e t' := ⟨fun pins s σ H D I q => h.run pins s σ H D I (i D σ H q)⟩
/-- constants alone -/
def okR : Es → Bool
  | .nil => true
  | .cons (.cst _) es => okR es
  | _ => false
theorem evs_cst {C : Nat → List D → M D} {ρ : List D} {κ : MP.K} : ∀ {es : Es}, okR es = true → ∃ ds, evs C es ρ κ = .ok ds κ
  | .nil, _ => ⟨[], by rw [evs]; rfl⟩
  | .cons c es, h => by
    cases c with
    | cst d =>
      obtain ⟨ds, e⟩ := evs_cst (C := C) (ρ := ρ) (κ := κ) (es := es) h
      refine ⟨d :: ds, ?_⟩
      rw [evs, ev]
      show bnd (evs C es ρ) (fun ds => ret (d :: ds)) κ = _
      unfold bnd
      rw [e]; rfl
    | _ => cases h
section
variable {W : Wc} {X : Cx} {r : Bool} {l l' cl : List Nat} {F0 : Addr → Prop} {H0 H : Hp} {C C' : Option Addr} {D : Ends} {σ : L2.St} {ρ : List MP.D} {κ κ' : MP.K}
theorem XWs.up (h : Later W.mkc C C') {x : Exn} (q : XWs W H0 C x κ) : XWs W H0 C' x κ := fun C'' H' g e c => q C'' H' (h.trans g) e c
theorem Aft.up {F F1 : Addr → Prop} {Hs H1 : Hp} (h : Later W.mkc C C') (f : Fr F Hs F1 H1) {fl : Fl} (q : Aft W X r F0 H0 C F Hs l' cl D fl κ) : Aft W X r F0 H0 C' F1 H1 l' cl D fl κ := by
  cases fl with
  | nx ρ' => exact fun C'' σ' H' g s => q C'' σ' H' (h.trans g) (s.up f)
  | ct ρ' => exact fun C'' σ' H' g s => q C'' σ' H' (h.trans g) (s.up f)
  | rt d => exact fun C'' v H' g e c r n => q C'' v H' (h.trans g) e c r n
  | bk _ => exact q
theorem ss_nil : SS W X r l l cl [] .nil := by
  refine PSs.imp pss_nil fun D σ H ⟨C, F0, H0, O, ρ, κ, s, q⟩ => ?_
  rw [exs] at q
  exact (show ∀ C' σ' H', _ from q) C σ H (.inr rfl) ⟨O, s, Fr.refl⟩
theorem ss_dem {l1 : List Nat} {st : List Stmt} {c : Ss} (hd : dem l l1 = true) (h : SS W X r l1 l' cl st c) : SS W X r l l' cl st c := by
  refine PSs.imp h fun D σ H ⟨C, F0, H0, O, ρ, κ, s, q⟩ => ?_
  obtain ⟨O', s', f⟩ := s.demote hd
  exact ⟨C, F0, H0, O', ρ, κ, s', wpO_mono q (fun fl κ' z => Aft.up (.inr rfl) f z) fun _ _ z => z⟩
theorem SRelF.demote {R : Rc} {F0 F : Addr → Prop} {H0 Hs H : Hp} {l l' : List Nat} {σ : L2.St} {ρ : List MP.D} {κ : MP.K} (hd : dem l l' = true) (s : SRelF R F0 H0 F Hs l σ H ρ κ) : SRelF R F0 H0 F Hs l' σ H ρ κ := let ⟨_, s, f⟩ := s; (s.demote hd).up f
theorem ss_post {l1 : List Nat} {st : List Stmt} {c : Ss} (hd : dem l1 l' = true) (h : SS W X r l l1 cl st c) : SS W X r l l' cl st c := by
  refine PSs.imp h fun D σ H ⟨C, F0, H0, O, ρ, κ, s, q⟩ => ⟨C, F0, H0, O, ρ, κ, s, wpO_mono q (fun fl κ' z => ?_) fun _ _ z => z⟩
  cases fl with
  | nx ρ' => exact fun C' σ' H' g s => z C' σ' H' g (s.demote hd)
  | ct ρ' => exact z
  | rt d => exact z
  | bk _ => exact z
theorem ss_cons {l1 : List Nat} {st : Stmt} {rest : List Stmt} {s : S} {c : Ss} (h1 : S1 W X r l l1 cl st s) (h2 : SS W X r l1 l' cl rest c) : SS W X r l l' cl (st :: rest) (.cons s c) := by
  refine PSs.imp (pss_cons h1 h2) fun D σ H ⟨C, F0, H0, O, ρ, κ, sr, q⟩ => ⟨C, F0, H0, O, ρ, κ, sr, ?_⟩
  rw [exs] at q
  refine wpO_mono (wpO_bnd q) (fun fl κ' z => ?_) fun _ _ z => z
  cases fl with
  | nx ρ' => exact fun C' σ' H' g ⟨O', s', f⟩ => ⟨C', F0, H0, O', ρ', κ', s', wpO_mono z (fun fl κ2 y => Aft.up g f y) fun x κ2 y => XWs.up g y⟩
  | ct ρ' => exact z
  | rt d => exact z
  | bk _ => exact z
/-- an expression within a statement -/
theorem sub_S {b : Bool} {c : E} {α : Type} {f : MP.D → M α} {P : α → MP.K → Prop} {O : Nat → List Addr} (hb : okB b (mdL l) c = true) (s : SRelO (W.rc X C) F0 H0 O l σ H ρ κ) (h : wpO (bnd (ev W.call c ρ) f κ) P (XWs W H0 C)) {Q' : VK}
    (q : ∀ d v H' κ', Ext C H H' → Cup C H' κ' → SRelO (W.rc X C) F0 H0 O l σ H' ρ κ' → RepB b (W.rc X C) H' (ownF (W.rc X C) F0 O) d v → (frE W.fr c = true → NewT (W.rc X C) H H' (ownF (W.rc X C) F0 O) d v) → wpO (f d κ') P (XWs W H0 C) → Q' v H') : tE W X b c σ H Q' := by
  refine ⟨C, ownF (W.rc X C) F0 O, mdL l, ρ, κ, hb, s.sit, wpO_mono (wpO_bnd h) (fun d κ' hd v H' x cu rr n => ?_) fun x κ' hx H' e c => hx C H' (.inr rfl) (s.x.trans e) c⟩
  exact q d v H' κ' x cu (s.ext x cu) rr n hd
theorem s_asg {tg e : Expr} {t : Tg} {c : E} {pos : Pos} (he : SE W X true e c) (hg : SG W X tg t) (hb : okB true (mdL l) c = true) (hs : swapsWithSole [tg] e pos.line X.env = pure false := by rfl) (hw : swappedStores [tg] e X.env = pure none := by rfl)
    (h1 : (assignEach [tg] X.env).map (·.2) = [assign tg X.env] := by rfl) : S1 W X r l (clr l (tgS t)) cl (.Assign [tg] e pos) (.asg t c) := by
  refine PS.imp (ps_asg he hg hs hw h1) fun D σ H ⟨C, F0, H0, O, ρ, κ, s, q⟩ => ?_
  rw [ex] at q
  refine sub_S (b := true) hb s q fun d v H1 κ1 x1 c1 s1 r1 _ q1 => ?_
  obtain ⟨ρ', e1, q2⟩ := wpO_opt (wpO_bnd q1)
  exact ⟨C, _, d, ρ, ρ', r1, e1, s1.len, fun σ' a => q2 C σ' H1 (.inr rfl) ((s1.store a).up (s.extF x1 c1))⟩
/-- a new list or dict, owned -/
theorem s_own {i : Nat} {x : Str} {e : Expr} {c : E} {p pos : Pos} (he : SE W X true e c) (hf : frE W.fr c = true) (hl : i < l.length) (hb : okB true (mdL l) c = true) (hN : X.N.Nodup) (hi : X.N[i]? = some x) (hx : Loc X.env.scope x) (hff : X.fn x = true ∨ X.env.scope.names.lookup x = some .local)
    (hs : swapsWithSole [.Name x p] e pos.line X.env = pure false := by rfl) (hw : swappedStores [.Name x p] e X.env = pure none := by rfl)
    (h1 : (assignEach [.Name x p] X.env).map (·.2) = [assign (.Name x p) X.env] := by rfl) : S1 W X r l (l.set i 1) cl (.Assign [.Name x p] e pos) (.asg (.nm i) c) := by
  refine PS.imp (ps_asg he (pg_name hN hi hx hff) hs hw h1) fun D σ H ⟨C, F0, H0, O, ρ, κ, s, q⟩ => ?_
  rw [ex] at q
  refine sub_S (b := true) hb s q fun d v H1 κ1 x1 c1 s1 r1 n1 q1 => ?_
  obtain ⟨ρ', e1, q2⟩ := wpO_opt (wpO_bnd q1)
  have e1 : some (ρ.set i d) = some ρ' := e1
  cases e1
  obtain ⟨own, hn, nd, ow⟩ := newT_own (n1 hf) r1
  exact q2 C _ H1 (.inr rfl) (s.own x1 c1 (by decide) hl hn nd ow)
theorem sub_SA {cs : Es} {α : Type} {f : List MP.D → M α} {P : α → MP.K → Prop} {O : Nat → List Addr} (hb : okEs (mdL l) cs = true) (s : SRelO (W.rc X C) F0 H0 O l σ H ρ κ) (h : wpO (bnd (evs W.call cs ρ) f κ) P (XWs W H0 C)) {Q' : List V → Hp → Prop}
    (q : ∀ ds vs H' κ', ds.length = esLen cs → Ext C H H' → SRelO (W.rc X C) F0 H0 O l σ H' ρ κ' → Reps (W.rc X C) H' (ownF (W.rc X C) F0 O) ds vs → wpO (f ds κ') P (XWs W H0 C) → Q' vs H') : tA W X cs σ H Q' := by
  refine ⟨C, ownF (W.rc X C) F0 O, mdL l, ρ, κ, hb, s.sit, wpO_mono (wpO_len (wpO_bnd h)) (fun ds κ' ⟨hl, hd⟩ vs H' x cu rr => ?_) fun x κ' hx H' e c => hx C H' (.inr rfl) (s.x.trans e) c⟩
  exact q ds vs H' κ' hl x (s.ext x cu) rr hd
theorem s_par2 {i j : Nat} {x y : Str} {a b : Expr} {ca cb : E} {px py pt pos : Pos} {kt k2 pt2} (hc : X.calm = true) (ha : SA W X [a, b] (.cons ca (.cons cb .nil))) (hok : okEs (mdL l) (.cons ca (.cons cb .nil)) = true) (hN : X.N.Nodup) (hi : X.N[i]? = some x) (hj : X.N[j]? = some y) (hij : i ≠ j)
    (hx : X.env.scope.names.lookup x = some .local) (hy : X.env.scope.names.lookup y = some .local)
    (hw : swappedStores [.Tuple [.Name x px, .Name y py] kt pt] (.Tuple [a, b] k2 pt2) X.env = pure (some [x, y]))
    (hs : swapsWithSole [.Tuple [.Name x px, .Name y py] kt pt] (.Tuple [a, b] k2 pt2) pos.line X.env = pure false := by rfl) :
    S1 W X r l (clr l [i, j]) cl (.Assign [.Tuple [.Name x px, .Name y py] kt pt] (.Tuple [a, b] k2 pt2) pos) (.asg (.t2 (.nm i) (.nm j)) (.tup (.cons ca (.cons cb .nil)))) := by
  refine PS.imp (ps_par hc hN hi hj hij hx hy ha hw hs) fun D σ H ⟨C, F0, H0, O, ρ, κ, s, q⟩ => ?_
  rw [ex, ev, bnd_assoc] at q
  refine sub_SA (cs := .cons ca (.cons cb .nil)) hok s q fun ds vs H1 κ1 hl x1 s1 rr q1 => ?_
  have q1 : wpO (bnd (opt (asg (.t2 (.nm i) (.nm j)) (.tup ds) ρ)) (fun ρ' => ret (Fl.nx ρ')) κ1) _ _ := q1
  obtain ⟨ρ', e1, q2⟩ := wpO_opt (wpO_bnd q1)
  obtain ⟨ds', e2, e3, e4⟩ := asg_t2 e1
  cases e2
  match ds, e3, rr, e4 with
  | [d1, d2], _, rr, e4 =>
    simp only [Reps] at rr
    obtain ⟨v, _, rfl, r1, w, _, rfl, r2, rfl⟩ := rr
    have e4 : some ((ρ.set i d1).set j d2) = some ρ' := e4
    cases e4
    exact ⟨v, w, rfl, q2 C _ H1 (.inr rfl) (SRelF.up (s.extF x1 s1.cup) <| s1.store (is := [i, j]) ((AsgR.one s1.len r1).comp (AsgR.one (by rw [List.length_set, List.length_set]; exact s1.len) r2)))⟩
theorem s_par3 {i j k : Nat} {x y z : Str} {a b c : Expr} {ca cb cc : E} {px py pz pt pos : Pos} {kt k2 pt2} (hc : X.calm = true) (ha : SA W X [a, b, c] (.cons ca (.cons cb (.cons cc .nil)))) (hok : okEs (mdL l) (.cons ca (.cons cb (.cons cc .nil))) = true) (hN : X.N.Nodup) (hi : X.N[i]? = some x) (hj : X.N[j]? = some y) (hk : X.N[k]? = some z) (hij : i ≠ j) (hik : i ≠ k) (hjk : j ≠ k)
    (hx : X.env.scope.names.lookup x = some .local) (hy : X.env.scope.names.lookup y = some .local) (hz : X.env.scope.names.lookup z = some .local)
    (hw : swappedStores [.Tuple [.Name x px, .Name y py, .Name z pz] kt pt] (.Tuple [a, b, c] k2 pt2) X.env = pure (some [x, y, z]))
    (hs : swapsWithSole [.Tuple [.Name x px, .Name y py, .Name z pz] kt pt] (.Tuple [a, b, c] k2 pt2) pos.line X.env = pure false := by rfl) :
    S1 W X r l (clr l [i, j, k]) cl (.Assign [.Tuple [.Name x px, .Name y py, .Name z pz] kt pt] (.Tuple [a, b, c] k2 pt2) pos) (.asg (.t3 (.nm i) (.nm j) (.nm k)) (.tup (.cons ca (.cons cb (.cons cc .nil))))) := by
  refine PS.imp (ps_par3 hc hN hi hj hk hij hik hjk hx hy hz ha hw hs) fun D σ H ⟨C, F0, H0, O, ρ, κ, s, q⟩ => ?_
  rw [ex, ev, bnd_assoc] at q
  refine sub_SA (cs := .cons ca (.cons cb (.cons cc .nil))) hok s q fun ds vs H1 κ1 hl x1 s1 rr q1 => ?_
  have q1 : wpO (bnd (opt (asg (.t3 (.nm i) (.nm j) (.nm k)) (.tup ds) ρ)) (fun ρ' => ret (Fl.nx ρ')) κ1) _ _ := q1
  obtain ⟨ρ', e1, q2⟩ := wpO_opt (wpO_bnd q1)
  obtain ⟨ds', e2, e3, e4⟩ := asg_t3 e1
  cases e2
  match ds, e3, rr, e4 with
  | [d1, d2, d3], _, rr, e4 =>
    simp only [Reps] at rr
    obtain ⟨v, _, rfl, r1, w, _, rfl, r2, u, _, rfl, r3, rfl⟩ := rr
    have e4 : some (((ρ.set i d1).set j d2).set k d3) = some ρ' := e4
    cases e4
    exact ⟨v, w, u, rfl, q2 C _ H1 (.inr rfl) (SRelF.up (s.extF x1 s1.cup) <| s1.store (is := [i, j, k]) (((AsgR.one s1.len r1).comp (AsgR.one (by rw [List.length_set, List.length_set]; exact s1.len) r2)).comp (AsgR.one (by rw [List.length_set, List.length_set, List.length_set, List.length_set]; exact s1.len) r3)))⟩
theorem less0 {O : Nat → List Addr} : ∀ a, F0 a → ownF (W.rc X C) F0 O a := fun a h => .inl h
theorem newT_less {R : Rc} {H H' : Hp} {F G : Addr → Prop} (hs : ∀ a, G a → F a) {H0 : Hp} {κ : MP.K} (x : Ext R.C H0 H) (c : Cup R.C H κ) {d : MP.D} {v : V} (n : NewT R H H' F d v) : NewT R H0 H' G d v := by
  cases d with
  | lst ds => obtain ⟨a, vs, e, h, c1, e2, r⟩ := n; exact ⟨a, vs, e, x.new c h, c1, e2, Reps.less (fun b z => z.imp (hs b) id) ds vs r⟩
  | dic t ks ws => obtain ⟨a, vs, e, h, c1, e2, r⟩ := n; exact ⟨a, vs, e, x.new c h, c1, e2, Reps.less (fun b z => z.imp (hs b) id) ws vs r⟩
  | _ => trivial
theorem s_ret {e : Expr} {c : E} {pos : Pos} (he : SE W X true e c) (hb : okB true (mdL l) c = true) (hf : r = false ∨ frE W.fr c = true) : S1 W X r l l' cl (.Return (some e) pos) (.ret c) := by
  refine PS.imp (ps_ret he) fun D σ H ⟨C, F0, H0, O, ρ, κ, s, q⟩ => ?_
  rw [ex] at q
  refine sub_S (b := true) hb s q fun d v H1 κ1 x1 c1 s1 r1 n1 q1 => ?_
  refine (show ∀ C' v H', _ from q1) C v H1 (.inr rfl) s1.x c1 (Rep.less less0 d v r1) fun hr => ?_
  rcases hf with z | z
  · rw [z] at hr; cases hr
  · exact newT_less less0 s.x s.cup (n1 z)
theorem s_expr {e : Expr} {c : E} {pos : Pos} (he : SE W X true e c) (hb : okB true (mdL l) c = true) (hs : swapsWith e none pos.line X.env = pure false := by rfl) : S1 W X r l l cl (.Expr e pos) (.expr c) := by
  refine PS.imp (ps_expr he hs) fun D σ H ⟨C, F0, H0, O, ρ, κ, s, q⟩ => ?_
  rw [ex] at q
  refine sub_S (b := true) hb s q fun d v H1 κ1 x1 c1 s1 r1 n1 q1 => ?_
  exact (show ∀ C' σ' H', _ from q1) C σ H1 (.inr rfl) ⟨O, s1, s.extF x1 c1⟩
theorem s_pass {pos : Pos} : S1 W X r l l cl (.Pass pos) .pass := by
  refine PS.imp ps_pass fun D σ H ⟨C, F0, H0, O, ρ, κ, s, q⟩ => ?_
  rw [ex] at q
  exact (show ∀ C' σ' H', _ from q) C σ H (.inr rfl) ⟨O, s, Fr.refl⟩
theorem s_cont {pos : Pos} (h : dem l cl = true) : S1 W X r l l' cl (.Continue pos) .cont := by
  refine PS.imp ps_continue fun D σ H ⟨C, F0, H0, O, ρ, κ, s, q⟩ => ?_
  rw [ex] at q
  exact (show ∀ C' σ' H', _ from q) C σ H (.inr rfl) (s.demote h)
/-- never come to -/
theorem s_raise {st : Stmt} {n : Nat} {es : Es} (h : ∀ x κ H, ¬ W.XW x κ H) (ho : okR es = true) : S1 W X r l l' cl st (.raise n es) := by
  refine ⟨fun pins s σ H D I ⟨C, F0, H0, O, ρ, κ, sr, q⟩ => ?_⟩
  rw [ex] at q
  obtain ⟨ds, e⟩ := evs_cst (C := W.call) (ρ := ρ) (κ := κ) ho
  have q1 := wpO_bnd q
  rw [e] at q1
  exact (h _ _ _ ((show XWs W H0 C ⟨n, ds⟩ κ from q1) C H (.inr rfl) sr.x sr.cup)).elim
theorem sub_ST {c : E} {α : Type} {f : Bool → M α} {P : α → MP.K → Prop} {O : Nat → List Addr} (hb : okB false (mdL l) c = true) (s : SRelO (W.rc X C) F0 H0 O l σ H ρ κ) (h : wpO (bnd (ev W.call c ρ) (fun x => bnd (opt (truth x)) f) κ) P (XWs W H0 C)) {Q' : Bool → Hp → Prop}
    (q : ∀ b H' κ', Ext C H H' → SRelO (W.rc X C) F0 H0 O l σ H' ρ κ' → wpO (f b κ') P (XWs W H0 C) → Q' b H') : tT W X c σ H Q' := by
  refine ⟨C, ownF (W.rc X C) F0 O, mdL l, ρ, κ, hb, s.sit, ?_⟩
  rw [← bnd_assoc] at h
  exact wpO_mono (wpO_bnd h) (fun b κ' hd H' x cu => q b H' κ' x (s.ext x cu) hd) fun x κ' hx H' e c => hx C H' (.inr rfl) (s.x.trans e) c
theorem s_if {c : Expr} {a b : List Stmt} {cc : E} {ca cb : Ss} {pos : Pos} (hc : ST W X c cc) (hb : okB false (mdL l) cc = true) (h1 : SS W X r l l' cl a ca) (h2 : SS W X r l l' cl b cb) : S1 W X r l l' cl (.If c a b pos) (.ite cc ca cb) := by
  refine PS.imp (ps_if hc h1 h2) fun D σ H ⟨C, F0, H0, O, ρ, κ, s, q⟩ => ?_
  rw [ex] at q
  refine sub_ST (f := fun t => if t = true then exs W.call ca ρ else exs W.call cb ρ) hb s q fun t H1 κ1 x1 s1 q1 => ?_
  cases t with
  | true => exact ⟨C, F0, H0, O, ρ, κ1, s1, wpO_mono (show wpO (exs W.call ca ρ κ1) _ _ from q1) (fun fl κ2 z => Aft.up (.inr rfl) (s.extF x1 s1.cup) z) fun _ _ z => z⟩
  | false => exact ⟨C, F0, H0, O, ρ, κ1, s1, wpO_mono (show wpO (exs W.call cb ρ κ1) _ _ from q1) (fun fl κ2 z => Aft.up (.inr rfl) (s.extF x1 s1.cup) z) fun _ _ z => z⟩
end
end MP
set_option Elab.async false
set_option linter.all false
set_option maxRecDepth 100000
set_option maxHeartbeats 2000000
/-! MP16: loops. -/
namespace MP
open PySem PySem.Spec PyProof.Rows L2
section
variable {K : PySem.W.Frag} {C C' : Option Addr} {fa : Nat → Option Addr} {kt : Bool} {H : Hp} {F : Addr → Prop}
mutual
theorem Rep.later (g : C = none ∨ C' = C) (hF : ∀ c, C' = some c → F c) : ∀ (d : D) (v : V), Rep ⟨K, C, fa, kt⟩ H F d v → Rep ⟨K, C', fa, kt⟩ H F d v
  | .und, _, h => by simp only [Rep] at h
  | .non, _, h => by simpa only [Rep] using h
  | .bl _, _, h => by simpa only [Rep] using h
  | .int _, _, h => by simpa only [Rep] using h
  | .str _, _, h => by simpa only [Rep] using h
  | .tup ds, v, h => by
    simp only [Rep] at h ⊢
    obtain ⟨a, vs, e, s, r⟩ := h
    exact ⟨a, vs, e, s, Reps.later g hF ds vs r⟩
  | .lst ds, v, h => by
    simp only [Rep] at h ⊢
    obtain ⟨a, vs, e, m, n, s, r⟩ := h
    exact ⟨a, vs, e, fun z => n (hF a z), n, s, Reps.later g hF ds vs r⟩
  | .dic t ks ws, v, h => by
    simp only [Rep] at h ⊢
    obtain ⟨a, vs, e, n, s, r⟩ := h
    exact ⟨a, vs, e, n, s, Reps.later g hF ws vs r⟩
  | .rng _ _, v, h => by simpa only [Rep] using h
  | .cup, _, h => by
    simp only [Rep] at h ⊢
    obtain ⟨c, e, r⟩ := h
    rcases g with g | g
    · rw [g] at e; cases e
    · exact ⟨c, by rw [g]; exact e, r⟩
  | .fn _, _, h => by simpa only [Rep] using h
  | .scr _, _, h => by simpa only [Rep] using h
theorem Reps.later (g : C = none ∨ C' = C) (hF : ∀ c, C' = some c → F c) : ∀ (ds : List D) (vs : List V), Reps ⟨K, C, fa, kt⟩ H F ds vs → Reps ⟨K, C', fa, kt⟩ H F ds vs
  | [], _, h => by simpa only [Reps] using h
  | d :: ds, vs, h => by
    simp only [Reps] at h ⊢
    obtain ⟨v, r, e, h1, h2⟩ := h
    exact ⟨v, r, e, Rep.later g hF d v h1, Reps.later g hF ds r h2⟩
end
end
section
variable {W : Wc} {X : Cx} {r : Bool} {l l' cl : List Nat} {F0 : Addr → Prop} {H0 H : Hp} {C C' : Option Addr} {D : Ends} {σ : L2.St} {ρ : List MP.D} {κ κ' : MP.K}
theorem s_for {tg iter : Expr} {body : List Stmt} {t : Tg} {it : MP.It} {cb : Ss} {pos : Pos} (hp : PassesOwn (model X.prog X.w) X.A X.env X.xe) (hc : X.calm = true) (hi : SI W X true tg iter it) (hI : okI true (mdL l) it = true) (hg : SG W X tg t) (hb : SS W X r (clr l (tgS t)) l l body cb)
    (hs : ∀ x, foldedSetIterable iter X.env x = pure x := by intro _; rfl) : S1 W X r l l cl (.For tg iter body [] pos) (.for_ t it cb) := by
  refine PS.imp (ps_for hp hc hi hg hb hs) fun D σ H ⟨C, F0, H0, O, ρ, κ, s, q⟩ => ?_
  rw [ex] at q
  refine ⟨C, ownF (W.rc X C) F0 O, mdL l, ρ, κ, hI, s.sit, wpO_mono (wpO_bnd q) (fun ds κ1 q1 J H1 x1 c1 wd => ?_) fun x κ' hx H' e c => hx C H' (.inr rfl) (s.x.trans e) c⟩
  obtain ⟨G, Y, w, g0, gk, gy⟩ := wd
  have s1 := s.ext x1 c1
  have f1 := s.extF x1 c1
  let F := ownF (W.rc X C) F0 O
  refine for_it w (fun i σ H2 => G H2 ∧ ∃ C' O' ρ κ, Later W.mkc C C' ∧ SRelO (W.rc X C') F0 H0 O' l σ H2 ρ κ ∧ Fr F H1 (ownF (W.rc X C') F0 O') H2 ∧ wpO (forL (asg t) (exs W.call cb) (ds.drop i) ρ κ) (Aft W X r F0 H0 C F H l cl D) (XWs W H0 C)) ⟨g0, C, O, ρ, κ1, .inr rfl, s1, Fr.refl, q1⟩ (fun i σ H _ p => p.1) ?_ ?_
  · rintro i x σ2 H2 H3 hi ⟨g2, C', O', ρ2, κ2, lt, s2, f2, q2⟩ y
    obtain ⟨d, ed, x3, rd⟩ := gy i H2 x H3 hi g2 y
    rw [drop_cons ed, forL] at q2
    obtain ⟨ρ3, ea, q3⟩ := wpO_opt (wpO_bnd q2)
    have s3 := s2.ext (Ext.none' x3) (Cup.none' s2.cup x3)
    have f3 : Fr F H1 (ownF (W.rc X C') F0 O') H3 := f2.trans (s2.extF (Ext.none' x3) (Cup.none' s2.cup x3))
    have g3 : G H3 := gk _ _ g2 (Ext.keep' x3 fun c z => by cases z)
    have rd' : Rep (W.rc X C') H3 (ownF (W.rc X C') F0 O') d x := by
      refine Rep.less (fun a z => f3.sub a z) d x ?_
      exact Rep.later (lt.imp (·.2) id) (fun c e => f3.sub c (.inr (.inl e))) d x rd
    refine ⟨C', ownF (W.rc X C') F0 O', d, ρ2, ρ3, rd', ea, s3.len, fun σ3 a3 => ?_⟩
    obtain ⟨O4, s4, f4⟩ := s3.store a3
    refine ⟨C', F0, H0, O4, ρ3, κ2, s4, wpO_mono (wpO_bnd q3) (fun fl κ4 z => ?_) fun x κ4 z => XWs.up lt z⟩
    have nxt : ∀ (ρ5 : List MP.D), wpO (forL (asg t) (exs W.call cb) (ds.drop (i + 1)) ρ5 κ4) (Aft W X r F0 H0 C F H l cl D) (XWs W H0 C) → ∀ C'' σ' H', Later W.mkc C' C'' → SRelF (W.rc X C'') F0 H0 (ownF (W.rc X C') F0 O4) H3 l σ' H' ρ5 κ4 →
        G H' ∧ ∃ C' O' ρ κ, Later W.mkc C C' ∧ SRelO (W.rc X C') F0 H0 O' l σ' H' ρ κ ∧ Fr F H1 (ownF (W.rc X C') F0 O') H' ∧ wpO (forL (asg t) (exs W.call cb) (ds.drop (i + 1)) ρ κ) (Aft W X r F0 H0 C F H l cl D) (XWs W H0 C) := fun ρ5 q5 C'' σ' H' lt' ⟨O5, s5, f5⟩ =>
      ⟨gk _ _ g3 (f5.keep.mono fun a z => (f3.trans f4).sub a z), C'', O5, ρ5, κ4, lt.trans lt', s5, (f3.trans f4).trans f5, q5⟩
    cases fl with
    | nx ρ5 => exact nxt ρ5 z
    | ct ρ5 => exact nxt ρ5 z
    | rt v => exact fun C'' v' H' lt' e c rr n => (show ∀ C' v H', _ from z) C'' v' H' (lt.trans lt') e c rr n
    | bk ρ5 => exact False.elim z
  · rintro σ2 H2 ⟨_, C', O', ρ2, κ2, lt, s2, f2, q2⟩
    rw [List.drop_length] at q2
    exact (show ∀ C' σ' H', _ from q2) C' σ2 H2 lt ⟨O', s2, f1.trans f2⟩
theorem s_while {c : Expr} {body : List Stmt} {cc : E} {cb : Ss} {pos : Pos} (hp : PassesOwn (model X.prog X.w) X.A X.env X.xe) (hc : ST W X c cc) (hI : okB false (mdL l) cc = true) (hb : SS W X r l l l body cb) : S1 W X r l l cl (.While c body [] pos) (.whl cc cb) := by
  refine PS.imp (ps_while hp hc hb) fun D σ H ⟨C, F0, H0, O, ρ, κ, s, q⟩ => ?_
  rw [ex] at q
  let F := ownF (W.rc X C) F0 O
  refine ⟨fun m σ H2 => ∃ C' O' ρ κ, Later W.mkc C C' ∧ SRelO (W.rc X C') F0 H0 O' l σ H2 ρ κ ∧ Fr F H (ownF (W.rc X C') F0 O') H2 ∧ wpO (whlL (fun ρ => bnd (ev W.call cc ρ) fun x => opt (truth x)) (exs W.call cb) m ρ κ) (Aft W X r F0 H0 C F H l cl D) (XWs W H0 C'), ⟨_, C, O, ρ, κ, .inr rfl, s, Fr.refl, q⟩, ?_⟩
  rintro m σ2 H2 ⟨C', O', ρ2, κ2, lt, s2, f2, q2⟩
  cases m with
  | zero => exact False.elim q2
  | succ m =>
    rw [whlL, bnd_assoc] at q2
    refine sub_ST (C := C') (f := fun t => if t = true then bnd (exs W.call cb ρ2) fun
      | .nx ρ₂ => whlL (fun ρ => bnd (ev W.call cc ρ) fun x => opt (truth x)) (exs W.call cb) m ρ₂
      | .ct ρ₂ => whlL (fun ρ => bnd (ev W.call cc ρ) fun x => opt (truth x)) (exs W.call cb) m ρ₂
      | .bk _ => bad
      | .rt v => ret (.rt v)
      else ret (.nx ρ2)) (P := Aft W X r F0 H0 C F H l cl D) hI s2 q2 fun b H3 κ3 x3 s3 q3 => ?_
    have f3 := f2.trans (s2.extF x3 s3.cup)
    cases b with
    | true =>
      refine ⟨fun σ' H' => ∃ C' O' ρ κ, Later W.mkc C C' ∧ SRelO (W.rc X C') F0 H0 O' l σ' H' ρ κ ∧ Fr F H (ownF (W.rc X C') F0 O') H' ∧ wpO (whlL (fun ρ => bnd (ev W.call cc ρ) fun x => opt (truth x)) (exs W.call cb) m ρ κ) (Aft W X r F0 H0 C F H l cl D) (XWs W H0 C'), fun σ' H' h => ⟨m, Nat.lt_succ_self m, h⟩, ?_⟩
      refine ⟨C', F0, H0, O', ρ2, κ3, s3, wpO_mono (wpO_bnd (show wpO (bnd (exs W.call cb ρ2) _ κ3) _ _ from q3)) (fun fl κ4 z => ?_) fun _ _ z => z⟩
      cases fl with
      | nx ρ5 => exact fun C'' σ' H' lt' ⟨O5, s5, f5⟩ => ⟨C'', O5, ρ5, κ4, lt.trans lt', s5, f3.trans f5, wpO_mono (show wpO (whlL _ _ m ρ5 κ4) _ _ from z) (fun _ _ y => y) fun x κ y => XWs.up lt' y⟩
      | ct ρ5 => exact fun C'' σ' H' lt' ⟨O5, s5, f5⟩ => ⟨C'', O5, ρ5, κ4, lt.trans lt', s5, f3.trans f5, wpO_mono (show wpO (whlL _ _ m ρ5 κ4) _ _ from z) (fun _ _ y => y) fun x κ y => XWs.up lt' y⟩
      | rt v => exact fun C'' v' H' lt' e c rr n => (show ∀ C' v H', _ from z) C'' v' H' (lt.trans lt') e c rr n
      | bk ρ5 => exact False.elim z
    | false =>
      exact (show ∀ C' σ' H', _ from q3) C' σ2 H3 lt ⟨O', s3, f3⟩
end
end MP
set_option Elab.async false
set_option linter.all false
set_option maxRecDepth 100000
set_option maxHeartbeats 2000000
/-! MP17: calls, bodies. -/
namespace MP
open PySem PySem.Spec PyProof.Rows L2
/-- what a def promises: it does as f does -/
def spC (fa : Nat → Option Addr) (kt fr : Bool) (m : List D → M D) (K : PySem.W.Frag) (np : Nat) : Sp := fun vs H Q _ => vs.length = np ∧
  ∃ C F ds κ, (∀ c, C = some c → F c) ∧ (∀ a, F a → H a ≠ none) ∧ Cup C H κ ∧ Reps ⟨K, C, fa, kt⟩ H F ds vs ∧
    wpO (m ds κ) (fun d κ' => ∀ v H', Ext C H H' → Cup C H' κ' → Rep ⟨K, C, fa, kt⟩ H' F d v → (fr = true → NewT ⟨K, C, fa, kt⟩ H H' F d v) → Q v H') fun _ _ => False
theorem some_cup {C : Option Addr} {H : Hp} {κ κ' : MP.K} (c : Cup C H κ) : ∃ H', Ext C H H' ∧ Cup C H' κ' := by
  cases C with
  | none => exact ⟨H, Ext.refl, fun a e => nomatch e⟩
  | some a =>
    refine ⟨upd H a (.lst [.int κ'.1, .int κ'.2]), fun b o e => ?_, fun b e => by cases e; exact upd_same⟩
    by_cases z : b = a
    · subst z
      rw [c b rfl] at e; cases e
      exact .inr ⟨rfl, _, rfl⟩
    · exact .inl (by rw [upd_ne z]; exact e)
section
variable {W : Wc} {X : Cx}
theorem se_call {bb : Bool} {k : Nat} {f : Nat} {a : Addr} {fd : FuncData} {ps : List Str} {x : Str} {p pos : Pos} {e : Expr} {es : List Expr} {cs : Es} (F : FnOk X.prog X.w X.K X.mg X.base CX0 k a fd ps (spC W.fa W.kt (W.fr f) (W.call f) X.K ps.length)) (hX : ∀ x κ H, ¬ W.XW x κ H) (hr : Room k X.A) (hg : Gl X x) (hm : X.mg x = some (.ref a)) (hk : PySem.W.keepIn X.K (.ref a) = true) (hb : Binds X.K fd ps [])
    (ha : SA W X (e :: es) cs) (hl : esLen cs = ps.length) (hdb : (x == ("__debug__" : Str)) = false := by decide) (he : starEach (e :: es) X.env = (false, eval e X.env) :: starEach es X.env := by rfl) (hpl : (backTo pos (starEach es X.env)).any (·.1) = false := by rfl) :
    SE W X bb (.Call (.Name x p) (e :: es) [] pos) (.call f cs) := by
  refine PE.imp (pe_call F hr hg hm hk hb .nil pass0 ha hdb he hpl) fun σ H Q ⟨C, F, md, ρ, κ, hb, s, q⟩ => ?_
  rw [ev] at q
  refine sub_items (cs := cs) (f := fun ds => W.call f ds) hb s q fun ds vs H1 κ1 l x1 s1 r1 q1 => ?_
  refine ⟨by rw [List.append_nil, r1.length, l, hl], C, F, ds, κ1, s1.cf, s1.fh, s1.cup, by rw [List.append_nil]; exact r1, ?_⟩
  cases e : W.call f ds κ1 with
  | ok d κ2 =>
    rw [e] at q1
    exact fun v H2 x2 c2 r2 n2 => (show ∀ v H', _ from q1) v H2 (x1.trans x2) c2 r2.toB fun z => newTop_up (R := W.rc X C) x1 s1.cup (n2 z)
  | exc y κ2 =>
    rw [e] at q1
    obtain ⟨H2, x2, c2⟩ := some_cup (κ' := κ2) s1.cup
    exact (hX _ _ _ (q1 H2 x2 c2)).elim
  | bad => rw [e] at q1; exact q1
/-- defaults behind the written ones -/
def esApp : Es → Es → Es
  | .nil, e => e
  | .cons a r, e => .cons a (esApp r e)
end
/-- no exception is let out -/
def mkW (fa : Nat → Option Addr) (kt : Bool) (fr : Nat → Bool) (T : Nat → Option MP.Fun) (k : Nat) (mk : Bool) : Wc := ⟨fa, kt, fr, run T k, fun _ _ _ => False, mk⟩
abbrev spF (fa : Nat → Option Addr) (kt : Bool) (fr : Nat → Bool) (T : Nat → Option MP.Fun) (k : Nat) (K : PySem.W.Frag) (f np : Nat) : Sp := spC fa kt (fr f) (run T k f) K np
theorem start_get (N : List Str) (vs : List V) (i : Nat) : ∀ v, vs[i]? = some v → (L2.start N vs)[i]? = some (some v) := fun v e => by
  unfold L2.start
  have hi : i < vs.length := (List.getElem?_eq_some_iff.mp e).1
  rw [List.getElem?_append_left (by rw [List.length_map]; exact hi), List.getElem?_map, e]; rfl
theorem fn_start {R : Rc} {H : Hp} {F : Addr → Prop} {N : List Str} {ds : List D} {vs : List V} {κ : MP.K} (cf : ∀ c, R.C = some c → F c) (fh : ∀ a, F a → H a ≠ none) (cu : Cup R.C H κ) (r : Reps R H F ds vs) (hl : vs.length ≤ N.length) :
    SRelO R F H (fun _ => []) (List.replicate N.length 0) (L2.start N vs) H (ds ++ List.replicate (N.length - ds.length) .und) κ := by
  have el := r.length
  refine ⟨?_, Ext.refl, cu, fh, ⟨fun i a h => by simp at h, fun i j a _ h => by simp at h, fun i => List.nodup_nil⟩, fun i d e n => ?_, fun i h => ?_⟩
  · unfold L2.start
    rw [List.length_append, List.length_append, List.length_map, List.length_replicate, List.length_replicate, el]
  · by_cases hi : i < ds.length
    · rw [List.getElem?_append_left hi] at e
      obtain ⟨v, e1, r1⟩ := r.get e
      refine ⟨v, start_get N vs i v e1, ?_⟩
      have hm : mdL (List.replicate N.length 0) i = 0 := by
        unfold mdL
        rw [List.getD_eq_getElem?_getD, List.getElem?_replicate]
        split <;> rfl
      rw [hm]
      refine ⟨rfl, Rep.less (fun a z => ?_) d v r1⟩
      rcases z with z | z | ⟨_, z⟩
      · exact z
      · exact cf a z
      · simp at z
    · rw [List.getElem?_append_right (by omega), List.getElem?_replicate] at e
      split at e
      · cases e; exact absurd rfl n
      · cases e
  · have hm : mdL (List.replicate N.length 0) i = 0 := by
      unfold mdL
      rw [List.getD_eq_getElem?_getD, List.getElem?_replicate]
      split <;> rfl
    rw [hm] at h; cases h
section
variable {P : Program} {w : World} {K : PySem.W.Frag} {mg : Str → Option Value} {base : Heap}
theorem fn_ok {fa : Nat → Option Addr} {kt : Bool} {fr : Nat → Bool} {T : Nat → Option MP.Fun} {k k0 f : Nat} {x qual : Str} {params : Arguments} {bd : List Stmt} {scope : Scope} {dvs : List V} {kws : List (Str × V)} {a : Addr} {fd : FuncData} {N ps : List Str} {c : Ss} (Fn : FunD K x qual params bd scope dvs kws a fd) (S : FnScope N ps scope) (hp : ps.length ≤ N.length)
    (hT : T f = some ⟨ps.length, N.length, c⟩)
    (hbody : ∀ (cdv : Value) (A : Around) (outer : List Env) (s : Shared) (H : Hp) (E : XK), Room k0 (A.deeper (envOfC qual scope s.heap.objs.size a cdv)) → ∃ l', SS (mkW fa kt fr T k false) (cxOf CX0 P w K mg base N qual scope a cdv A outer s H E).nox (fr f) (List.replicate N.length 0) l' [] bd c) :
    FnOk P w K mg base CX0 (k0 + 1) a fd ps (spF fa kt fr T (k + 1) K f ps.length) := by
  refine Fn.ok S (fun vs H Q E h => h.1) fun cdv A outer s H vs Q E hr h => ?_
  obtain ⟨l', hb⟩ := hbody cdv A outer s H E hr
  refine ⟨_, PSs.nox hb, ?_⟩
  obtain ⟨hl, C, F, ds, κ, cf, fh, cu, r, q⟩ := h
  have el := r.length
  have s0 := fn_start (R := ⟨K, C, fa, kt⟩) (N := N) cf fh cu r (by rw [hl]; exact hp)
  have q1 : wpO (body (run T k) ⟨ps.length, N.length, c⟩ ds κ) (fun d κ' => ∀ v H', Ext C H H' → Cup C H' κ' → Rep ⟨K, C, fa, kt⟩ H' F d v → (fr f = true → NewT ⟨K, C, fa, kt⟩ H H' F d v) → Q v H') (fun _ _ => False) := by
    have : run T (k + 1) f ds = body (run T k) ⟨ps.length, N.length, c⟩ ds := by rw [run, hT]
    rw [this] at q; exact q
  unfold body at q1
  rw [if_pos (show ds.length = ps.length by rw [← el, hl])] at q1
  refine ⟨C, F, H, fun _ => [], _, κ, s0, ?_⟩
  have en : N.length - ps.length = N.length - ds.length := by rw [← el, hl]
  have q1 : wpO (bnd (exs (run T k) c (ds ++ List.replicate (N.length - ps.length) .und)) _ κ) _ _ := q1
  rw [en] at q1
  refine wpO_mono (wpO_bnd q1) (fun fl κ' z => ?_) fun _ _ z => False.elim z
  cases fl with
  | nx ρ' =>
    intro C' σ' H' lt ⟨O', s', f'⟩
    have ec : C' = C := lt.resolve_left fun z => nomatch z.1
    subst ec
    exact (show ∀ v H', _ from z) .non H' s'.x s'.cup rep_non fun _ => trivial
  | ct ρ' => exact False.elim z
  | bk ρ' => exact False.elim z
  | rt d =>
    intro C' v H' lt x' c' r' n'
    have ec : C' = C := lt.resolve_left fun z => nomatch z.1
    subst ec
    exact (show ∀ v H', _ from z) v H' x' c' r' n'
end
end MP
set_option Elab.async false
set_option linter.all false
set_option maxRecDepth 100000
set_option maxHeartbeats 2000000
/-! MP18: stores into lists. -/
namespace MP
open PySem PySem.Spec PyProof.Rows L2
section
variable {R : Rc} {H H' : Hp} {F : Addr → Prop}
theorem Own1.keep (k : Keep F H H') {own : List Addr} (n : ∀ a ∈ own, H' a = H a) {d : D} {v : V} (h : Own1 R H F own d v) : Own1 R H' F own d v := by
  cases d with
  | lst ds =>
    obtain ⟨a, vs, e1, e2, e3, r⟩ := h
    subst e2
    exact ⟨a, vs, e1, rfl, by rw [n a (by simp)]; exact e3, Reps.keep k ds vs r⟩
  | dic t ks ws =>
    obtain ⟨a, vs, e1, e2, e3, r⟩ := h
    subst e2
    refine ⟨a, vs, e1, rfl, ?_, Reps.keep k ws vs r⟩
    have := n a (by simp)
    unfold DicAt at e3 ⊢
    rw [this]; exact e3
  | _ => exact ⟨h.1, Rep.keep k _ v h.2⟩
theorem Rows.keep (k : Keep F H H') : ∀ {own : List Addr} {ds : List D} {vs : List V}, (∀ a ∈ own, H' a = H a) → Rows R H F own ds vs → Rows R H' F own ds vs
  | _, [], _, _, h => h
  | own, d :: ds, vs, n, h => by
    obtain ⟨o1, o2, v, r, rfl, e2, h1, h2⟩ := h
    exact ⟨o1, o2, v, r, rfl, e2, Own1.keep k (fun a m => n a (List.mem_append.mpr (.inl m))) h1, Rows.keep k (fun a m => n a (List.mem_append.mpr (.inr m))) h2⟩
theorem OwnM.keep (k : Keep F H H') {m : Nat} {own : List Addr} (n : ∀ a ∈ own, H' a = H a) {d : D} {v : V} (h : OwnM R H F m own d v) : OwnM R H' F m own d v := by
  match m, h with
  | 0, h => exact ⟨h.1, Rep.keep k d v h.2⟩
  | 1, h => exact Own1.keep k n h
  | m + 3, h => exact Own1.keep k n h
  | 2, h =>
    have h : Own2 R H F own d v := h
    show Own2 R H' F own d v
    cases d with
    | lst ds =>
      obtain ⟨a, vs, o, e1, e2, e3, r⟩ := h
      subst e2
      exact ⟨a, vs, o, e1, rfl, by rw [n a (by simp)]; exact e3, Rows.keep k (fun b m => n b (List.mem_cons_of_mem _ m)) r⟩
    | dic t ks ws =>
      obtain ⟨a, vs, o, e1, e2, e3, r⟩ := h
      subst e2
      refine ⟨a, vs, o, e1, rfl, ?_, Rows.keep k (fun b m => n b (List.mem_cons_of_mem _ m)) r⟩
      have := n a (by simp)
      unfold DicAt at e3 ⊢
      rw [this]; exact e3
    | _ => exact ⟨h.1, Rep.keep k _ v h.2⟩
/-- an owned object written -/
theorem SRelO.mut {F0 : Addr → Prop} {H0 : Hp} {O : Nat → List Addr} {l : List Nat} {σ : L2.St} {ρ : List D} {κ : MP.K} {i : Nat} {a : Addr} {o o' : HO} {d : D} {v : V} (s : SRelO R F0 H0 O l σ H ρ κ) (ha : a ∈ O i) (e : H a = some o) (m : mutO o) (hv : σ[i]? = some (some v))
    (r : OwnM R (upd H a o') (ownF R F0 O) (mdL l i) (O i) d v) : SRelF R F0 H0 (ownF R F0 O) H l σ (upd H a o') (ρ.set i d) κ := by
  obtain ⟨n0, nc, nn⟩ := s.ok.new i a ha
  have k : Keep (ownF R F0 O) H (upd H a o') := Keep.set (.inr (.inr ⟨i, ha⟩)) e m
  refine ⟨O, ⟨by rw [List.length_set]; exact s.len, fun b p eb => ?_, fun c ec => ?_, s.f0, ⟨fun j b hb => ?_, s.ok.one, s.ok.nod⟩, fun j d' he n => ?_, s.cn⟩, ⟨k, fun b h => .inl h⟩⟩
  · have nb : b ≠ a := fun z => by rw [z, n0] at eb; cases eb
    rw [upd_ne nb]
    exact s.x b p eb
  · have nb : c ≠ a := fun z => nc (by rw [ec, z])
    rw [upd_ne nb]
    exact s.cup c ec
  · obtain ⟨h1, h2, h3⟩ := s.ok.new j b hb
    refine ⟨h1, h2, ?_⟩
    by_cases z : b = a
    · rw [z, upd_same]; exact fun z => nomatch z
    · rw [upd_ne z]; exact h3
  · by_cases ej : j = i
    · subst ej
      have hlt : j < ρ.length := by
        have := (List.getElem?_eq_some_iff.mp he).1
        rwa [List.length_set] at this
      rw [List.getElem?_set_self hlt] at he
      cases he
      exact ⟨v, hv, r⟩
    · rw [List.getElem?_set_ne (fun z => ej z.symm)] at he
      obtain ⟨w, e1, q⟩ := s.at' j d' he n
      refine ⟨w, e1, OwnM.keep k (fun b hb => ?_) q⟩
      have nb : b ≠ a := fun z => s.ok.one j i b ej hb (by rw [z]; exact ha)
      rw [upd_ne nb]
/-- a row, and the rows with it written -/
theorem Rows.get : ∀ {own : List Addr} {ds : List D} {vs : List V} {j : Nat} {z : D}, Rows R H F own ds vs → ds[j]? = some z → ∃ w o1, vs[j]? = some w ∧ Own1 R H F o1 z w ∧ (∀ b ∈ o1, b ∈ own) ∧
    ∀ (H' : Hp) (z' : D), own.Nodup → Keep F H H' → (∀ b ∈ own, b ∉ o1 → H' b = H b) → Own1 R H' F o1 z' w → Rows R H' F own (ds.set j z') vs
  | _, [], _, j, z, _, e => by simp at e
  | own, d :: ds, vs, 0, z, h, e => by
    obtain ⟨o1, o2, v, r, rfl, rfl, h1, h2⟩ := h
    simp at e; subst e
    refine ⟨v, o1, rfl, h1, fun b m => List.mem_append.mpr (.inl m), fun H' z' nd k n q => ?_⟩
    rw [List.set_cons_zero]
    refine ⟨o1, o2, v, r, rfl, rfl, q, Rows.keep k (fun b m => n b (List.mem_append.mpr (.inr m)) fun m1 => ?_) h2⟩
    exact (List.nodup_append.mp nd).2.2 b m1 b m rfl
  | own, d :: ds, vs, j + 1, z, h, e => by
    obtain ⟨o1, o2, v, r, rfl, rfl, h1, h2⟩ := h
    obtain ⟨w, o3, e1, g1, g2, g3⟩ := Rows.get (j := j) h2 (by simpa using e)
    refine ⟨w, o3, by simpa using e1, g1, fun b m => List.mem_append.mpr (.inr (g2 b m)), fun H' z' nd k n q => ?_⟩
    rw [List.set_cons_succ]
    obtain ⟨n1, n2, n3⟩ := List.nodup_append.mp nd
    refine ⟨o1, o2, v, r, rfl, rfl, Own1.keep k (fun b m => n b (List.mem_append.mpr (.inl m)) fun m1 => n3 b m b (g2 b m1) rfl) h1, g3 H' z' n2 k (fun b m m1 => n b (List.mem_append.mpr (.inr m)) m1) q⟩
theorem rows_len : ∀ {own : List Addr} {ds : List D} {vs : List V}, Rows R H F own ds vs → vs.length = ds.length
  | _, [], _, h => by rw [h.2]; rfl
  | _, d :: ds, _, h => by
    obtain ⟨_, _, v, r, _, rfl, _, h2⟩ := h
    rw [List.length_cons, List.length_cons, rows_len h2]
end
section
variable {W : Wc} {X : Cx} {r : Bool} {l l' cl : List Nat} {F0 : Addr → Prop} {H0 H : Hp} {C C' : Option Addr} {D : Ends} {σ : L2.St} {ρ : List MP.D} {κ κ' : MP.K}
theorem own_cup {R : Rc} {F : Addr → Prop} {m : Nat} {own : List Addr} {v : V} (h : OwnM R H F m own .cup v) : ∃ c, R.C = some c ∧ v = .ref c := by
  have : Rep R H F .cup v := by
    match m, h with
    | 0, h => exact h.2
    | 1, h => exact h.2
    | 2, h => exact h.2
    | m + 3, h => exact h.2
  simpa only [Rep] using this
/-- cup[k] = e -/
theorem s_setc {i : Nat} {x : Str} {k e : Expr} {ck c : E} {px p pos : Pos} (he : SE W X true e c) (hk : SE W X true k ck) (hb : okB true (mdL l) c = true) (hkb : okB true (mdL l) ck = true) (hN : X.N[i]? = some x) (hv : Vis X.env.scope x) (hd : (x == ("__debug__" : Str)) = false) (hcd : (x == ("__classdict__" : Str)) = false)
    (ha : ∀ v, assign (.Subscript (.Name x px) k p) X.env v = (do
      let ov ← holding [v] (eval (.Name x px) X.env)
      let iv ← holding [v, ov] (eval k X.env)
      standAt p
      holding [v, ov, iv] (setItem ov iv v)
      release [v, ov, iv] []) := by intro _; rfl) (hs : swapsWithSole [.Subscript (.Name x px) k p] e pos.line X.env = pure false := by rfl) (hw : swappedStores [.Subscript (.Name x px) k p] e X.env = pure none := by rfl)
    (h1 : (assignEach [.Subscript (.Name x px) k p] X.env).map (·.2) = [assign (.Subscript (.Name x px) k p) X.env] := by rfl) :
    S1 W X r l l cl (.Assign [.Subscript (.Name x px) k p] e pos) (.setc i ck c) := by
  refine PS.imp (ps_asg he (pg_sub (pe_var hN hv hd hcd) hk set_list ha) hs hw h1) fun D σ H ⟨C, F0, H0, O, ρ, κ, s, q⟩ => ?_
  rw [ex] at q
  refine sub_S (b := true) hb s q fun y v H1 κ1 x1 c1 s1 r1 n1 q1 => ?_
  obtain ⟨d, e1, nd, q2⟩ := wpO_getV (wpO_bnd q1)
  obtain ⟨u, e2, ow⟩ := s1.at' i d e1 nd
  refine ⟨u, e2, ?_⟩
  refine sub_S (b := true) hkb s1 q2 fun j w H2 κ2 x2 c2 s2 r2 n2 q3 => ?_
  have q4 := wpO_bnd q3
  unfold setC at q4
  cases ec : cupS d j y κ2 with
  | none => rw [ec] at q4; exact False.elim q4
  | some κ3 =>
    rw [ec] at q4
    have key : ∃ (jj : Nat) (m : Int), d = .cup ∧ j = .int (jj : Int) ∧ y = .int m ∧ (jj = 0 ∧ κ3 = (m, κ2.2) ∨ jj = 1 ∧ κ3 = (κ2.1, m)) := by
      unfold cupS at ec
      split at ec
      · split at ec
        · rename_i h0
          cases ec; subst h0; exact ⟨0, _, rfl, rfl, rfl, .inl ⟨rfl, rfl⟩⟩
        · split at ec
          · rename_i h0 h1
            cases ec; subst h1; exact ⟨1, _, rfl, rfl, rfl, .inr ⟨rfl, rfl⟩⟩
          · cases ec
      · cases ec
    obtain ⟨jj, m, rfl, rfl, rfl, hj⟩ := key
    obtain ⟨ca, hC, rfl⟩ := own_cup ow
    have hC : C = some ca := hC
    have hl := c2 ca hC
    have ev' : v = .int m := rT_int (RepB.top r1)
    have ew : w = .int (jj : Int) := rT_int (RepB.top r2)
    subst ev' ew
    have x3 : Ext C H2 (upd H2 ca (.lst ([V.int κ2.1, V.int κ2.2].set jj (.int m)))) := fun b o eb => by
      by_cases z : b = ca
      · subst z; rw [hl] at eb; cases eb; exact .inr ⟨hC, _, rfl⟩
      · exact .inl (by rw [upd_ne z]; exact eb)
    have c3 : Cup C (upd H2 ca (.lst ([V.int κ2.1, V.int κ2.2].set jj (.int m)))) κ3 := fun b eb => by
      have : b = ca := by rw [hC] at eb; exact (Option.some.inj eb).symm
      subst this
      rw [upd_same]
      rcases hj with ⟨rfl, rfl⟩ | ⟨rfl, rfl⟩ <;> rfl
    refine ⟨ca, _, (jj : Int), jj, rfl, rfl, hl, ?_, ?_⟩
    · rcases hj with ⟨rfl, _⟩ | ⟨rfl, _⟩ <;> rfl
    · exact (show ∀ C' σ' H', _ from q4) C σ _ (.inr rfl) ⟨O, s2.ext x3 c3, (s.extF (x1.trans x2) c2).trans (s2.extF x3 c3)⟩
/-- x[k][j] = e, x a list of owned lists -/
theorem s_set2 {i : Nat} {x : Str} {k j e : Expr} {ck cj c : E} {px p0 p pos : Pos} (hi2 : mdL l i = 2) (hu : X.A.units + 1 < cLine) (he : SE W X true e c) (hk : SE W X false k ck) (hj : SE W X false j cj) (hb : okB true (mdL l) c = true) (hkb : okB false (mdL l) ck = true) (hjb : okB false (mdL l) cj = true)
    (hN : X.N[i]? = some x) (hv : Vis X.env.scope x) (hd : (x == ("__debug__" : Str)) = false) (hcd : (x == ("__classdict__" : Str)) = false) (hpl : PlainIx k)
    (ha : ∀ v, assign (.Subscript (.Subscript (.Name x px) k p0) j p) X.env v = (do
      let ov ← holding [v] (eval (.Subscript (.Name x px) k p0) X.env)
      let iv ← holding [v, ov] (eval j X.env)
      standAt p
      holding [v, ov, iv] (setItem ov iv v)
      release [v, ov, iv] []) := by intro _; rfl) (hs : swapsWithSole [.Subscript (.Subscript (.Name x px) k p0) j p] e pos.line X.env = pure false := by rfl) (hw : swappedStores [.Subscript (.Subscript (.Name x px) k p0) j p] e X.env = pure none := by rfl)
    (h1 : (assignEach [.Subscript (.Subscript (.Name x px) k p0) j p] X.env).map (·.2) = [assign (.Subscript (.Subscript (.Name x px) k p0) j p) X.env] := by rfl) :
    S1 W X r l l cl (.Assign [.Subscript (.Subscript (.Name x px) k p0) j p] e pos) (.set2 i ck cj c) := by
  refine PS.imp (ps_asg he (pg_sub (pe_ix (ix_rule hu) (pe_var hN hv hd hcd) hk hpl) hj set_list ha) hs hw h1) fun D σ H ⟨C, F0, H0, O, ρ, κ, s, q⟩ => ?_
  rw [ex] at q
  refine sub_S (b := true) hb s q fun y v H1 κ1 x1 c1 s1 r1 n1 q1 => ?_
  obtain ⟨d, e1, nd, q2⟩ := wpO_getV (wpO_bnd q1)
  obtain ⟨u, e2, ow⟩ := s1.at' i d e1 nd
  refine ⟨u, e2, ?_⟩
  refine sub_S (b := false) hkb s1 q2 fun jd w H2 κ2 x2 c2 s2 r2 n2 q3 => ?_
  obtain ⟨z, ez, q4⟩ := wpO_opt (wpO_bnd q3)
  -- the row
  cases d with
  | lst xs =>
    obtain ⟨z0, ezx, ezl⟩ := Option.bind_eq_some_iff.mp (show (ixD (.lst xs) jd).bind (fun z => if isLst z then some z else none) = some z from ez)
    have hzl : z0 = z ∧ isLst z = true := by
      split at ezl
      · rename_i hh; cases ezl; exact ⟨rfl, hh⟩
      · cases ezl
    obtain ⟨rfl, hzl⟩ := hzl
    cases jd with
    | int iv =>
      obtain ⟨u', e2', ow2⟩ := s2.at' i _ e1 nd
      rw [e2] at e2'; cases e2'
      rw [hi2] at ow2
      obtain ⟨a, vs, o, rfl, eo, ha2, rw2⟩ := (show Own2 (W.rc X C) H2 (ownF (W.rc X C) F0 O) (O i) (.lst xs) u from ow2)
      have ew : w = .int iv := rT_int (RepB.top r2)
      subst ew
      obtain ⟨jn, ej, ezj⟩ := Option.bind_eq_some_iff.mp (show (place xs.length iv).bind (fun j => xs[j]?) = some z0 from ezx)
      obtain ⟨rv, o1, erv, oz, osub, oset⟩ := rw2.get ezj
      have eat : atI vs iv = some rv := by
        unfold atI
        rw [show ixN vs.length iv = some jn by rw [rows_len rw2]; exact ej]
        exact erv
      refine .inl (.inl ⟨a, vs, iv, rv, rfl, rfl, .inl (.inl ha2), eat, ?_⟩)
      refine sub_S (b := false) hjb s2 q4 fun j2 w2 H3 κ3 x3 c3 s3 r3 n3 q5 => ?_
      obtain ⟨z', ez', q6⟩ := wpO_opt (wpO_bnd q5)
      obtain ⟨x', ex', q7⟩ := wpO_opt (wpO_bnd q6)
      cases z0 with
      | lst zs =>
        cases j2 with
        | int jv =>
          obtain ⟨k2, ek2, rfl⟩ := Option.map_eq_some_iff.mp (show (place zs.length jv).map (fun j => MP.D.lst (zs.set j y)) = some z' from ez')
          obtain ⟨k1, ek1, rfl⟩ := Option.map_eq_some_iff.mp (show (place xs.length iv).map (fun j => MP.D.lst (xs.set j (.lst (zs.set k2 y)))) = some x' from ex')
          rw [ej] at ek1; cases ek1
          obtain ⟨b, ws, rfl, eo1, hb3, rz⟩ := oz
          subst eo1
          have bo : b ∈ O i := by rw [eo]; exact List.mem_cons_of_mem _ (osub b (by simp))
          have hb4 : H3 b = some (.lst ws) := x3.lst hb3 (s2.ok.new i b bo).2.1
          have ew2 : w2 = .int jv := rT_int (RepB.top r3)
          subst ew2
          have rz3 := Reps.ext (R := W.rc X C) x3 zs ws rz
          refine ⟨b, ws, jv, k2, rfl, rfl, hb4, by rw [rz.length]; exact ek2, ?_⟩
          have nd0 : (O i).Nodup := s3.ok.nod i
          rw [eo] at nd0
          obtain ⟨na, ndo⟩ := List.nodup_cons.mp nd0
          have nab : a ≠ b := fun z => na (by rw [z]; exact osub b (by simp))
          have mt := s3.mut (i := i) (a := b) (o' := .lst (ws.set k2 v)) (d := .lst (xs.set jn (.lst (zs.set k2 y)))) (v := .ref a) bo hb4 (.inl ⟨_, rfl⟩) e2 (by
            rw [hi2]
            have kk : Keep (ownF (W.rc X C) F0 O) H3 (upd H3 b (.lst (ws.set k2 v))) := Keep.set (.inr (.inr ⟨i, bo⟩)) hb4 (.inl ⟨_, rfl⟩)
            have rw3 := Rows.ext (R := W.rc X C) x3 (fun q hq => (s2.ok.new i q (by rw [eo]; exact List.mem_cons_of_mem _ hq)).2.1) rw2
            obtain ⟨rv', o1', erv', oz', osub', oset'⟩ := rw3.get ezj
            rw [erv] at erv'; cases erv'
            obtain ⟨b', ws', eb', eo1', _, _⟩ := oz'
            cases eb'
            subst eo1'
            refine ⟨a, vs, o, rfl, eo, by rw [upd_ne nab]; exact x3.lst ha2 (s2.ok.new i a (by rw [eo]; simp)).2.1, oset' _ _ ndo kk (fun q hq nq => ?_) ?_⟩
            · have : q ≠ b := fun z => nq (by rw [z]; simp)
              rw [upd_ne this]
            · refine ⟨b, _, rfl, rfl, upd_same, ?_⟩
              exact Reps.keep kk _ _ (rz3.set (Rep.ext (R := W.rc X C) (x2.trans x3) _ _ r1) k2))
          exact (show ∀ C' σ' H', _ from q7) C σ _ (.inr rfl) (mt.up (s.extF ((x1.trans x2).trans x3) c3))
        | _ => cases ez'
      | _ => cases hzl
    | _ => cases ezx
  | _ => cases ez
end
end MP
set_option Elab.async false
set_option linter.all false
set_option maxRecDepth 100000
set_option maxHeartbeats 2000000
/-! MP19: comprehensions stored in a name; lists of new lists; the cup. -/
namespace MP
open PySem PySem.Spec PyProof.Rows L2
section
variable {R : Rc} {H H' H1 : Hp} {F G : Addr → Prop}
theorem Rows.push : ∀ {own o1 : List Addr} {ds : List D} {vs : List V} {d : D} {v : V}, Rows R H F own ds vs → Own1 R H F o1 d v → Rows R H F (own ++ o1) (ds ++ [d]) (vs ++ [v])
  | own, o1, [], vs, d, v, h, q => by
    obtain ⟨rfl, rfl⟩ := h
    exact ⟨o1, [], v, [], by simp, rfl, q, rfl, rfl⟩
  | own, o1, e :: ds, vs, d, v, h, q => by
    obtain ⟨p1, p2, w, r, rfl, rfl, h1, h2⟩ := h
    exact ⟨p1, p2 ++ o1, w, r ++ [v], by simp, rfl, h1, Rows.push h2 q⟩
abbrev G2 (F : Addr → Prop) (L0 : Addr) (o : List Addr) : Addr → Prop := fun b => F b ∨ b = L0 ∨ b ∈ o
structure LS2 (R : Rc) (F : Addr → Prop) (H1 : Hp) (L0 : Addr) (o : List Addr) (acc : List D) (κ : MP.K) (H : Hp) : Prop where
  x : Ext R.C H1 H
  cup : Cup R.C H κ
  nd : o.Nodup
  new : ∀ b ∈ o, H1 b = none ∧ b ≠ L0 ∧ H b ≠ none ∧ R.C ≠ some b
  d : ∃ vs, H L0 = some (.lst vs) ∧ Rows R H (G2 F L0 o) o acc vs
theorem LS2.ext {L0 : Addr} {o : List Addr} {acc : List D} {κ κ' : MP.K} (cf : R.C ≠ some L0) (s : LS2 R F H1 L0 o acc κ H) (x : Ext R.C H H') (c : Cup R.C H' κ') : LS2 R F H1 L0 o acc κ' H' := by
  obtain ⟨vs, e, r⟩ := s.d
  exact ⟨s.x.trans x, c, s.nd, fun b hb => ⟨(s.new b hb).1, (s.new b hb).2.1, live_up x c (s.new b hb).2.2.1, (s.new b hb).2.2.2⟩, vs, x.lst e cf, Rows.ext x (fun b hb => (s.new b hb).2.2.2) r⟩
theorem LS2.sit {L0 : Addr} {o : List Addr} {md : Nat → Nat} {σ : L2.St} {ρ : List D} {acc : List D} {κ κ1 : MP.K} (s : Sit R F md σ H1 ρ κ1) (hD : H1 L0 = none) (l : LS2 R F H1 L0 o acc κ H) : Sit R (G2 F L0 o) md σ H ρ κ := by
  have s1 := s.ext l.x l.cup
  refine ⟨fun c e => .inl (s.cf c e), fun a fa => ?_, fun i d e n m => ?_, l.cup, s.len⟩
  · rcases fa with fa | rfl | fa
    · exact s1.fh a fa
    · obtain ⟨vs, e, _⟩ := l.d
      rw [e]; exact fun z => nomatch z
    · exact (l.new a fa).2.2.1
  · obtain ⟨v, e1, r⟩ := s.env i d e n m
    refine ⟨v, e1, RepB.ext l.x (RepB.wide (fun a z => ?_) r)⟩
    rcases z with z | rfl | z
    · exact .inl z
    · exact .inr hD
    · exact .inr (l.new a z).1
/-- a new row -/
theorem LS2.push {L0 : Addr} {o own : List Addr} {acc : List D} {κ κ' : MP.K} {d : D} {v : V} {H4 : Hp} {vs : List V} (hD : H1 L0 = none) (cf : R.C ≠ some L0) (s : LS2 R F H1 L0 o acc κ H) (x : Ext R.C H H4) (c : Cup R.C H4 κ') (hn : ∀ a ∈ own, H a = none ∧ R.C ≠ some a ∧ H4 a ≠ none) (nd : own.Nodup)
    (q : OwnM R H4 (fun a => G2 F L0 o a ∨ a ∈ own) 1 own d v) (e : H4 L0 = some (.lst vs)) : LS2 R F H1 L0 (o ++ own) (acc ++ [d]) κ' (upd H4 L0 (.lst (vs ++ [v]))) := by
  obtain ⟨ws, e', rs⟩ := s.d
  have e4 := x.lst e' cf
  rw [e] at e4; cases e4
  have nL : ∀ a ∈ own, a ≠ L0 := fun a ha z => by
    have := (hn a ha).1
    rw [z, e'] at this; cases this
  have k : Keep (G2 F L0 (o ++ own)) H4 (upd H4 L0 (.lst (vs ++ [v]))) := Keep.set (.inr (.inl rfl)) e (.inl ⟨_, rfl⟩)
  refine ⟨fun a p ea => ?_, fun b hc => ?_, ?_, fun b hb => ?_, _, upd_same, ?_⟩
  · have na : a ≠ L0 := fun z => by rw [z, hD] at ea; cases ea
    rw [upd_ne na]
    exact (s.x.trans x) a p ea
  · have na : b ≠ L0 := fun z => cf (by rw [hc, z])
    rw [upd_ne na]
    exact c b hc
  · refine List.nodup_append.mpr ⟨s.nd, nd, fun a ha b hb z => ?_⟩
    subst z
    exact (s.new a ha).2.2.1 (hn a hb).1
  · rcases List.mem_append.mp hb with hb | hb
    · obtain ⟨h1, h2, h3, h4⟩ := s.new b hb
      exact ⟨h1, h2, by rw [upd_ne h2]; exact live_up x c h3, h4⟩
    · obtain ⟨h1, h2, h3⟩ := hn b hb
      exact ⟨s.x.new s.cup h1, nL b hb, by rw [upd_ne (nL b hb)]; exact h3, h2⟩
  · have toF : ∀ a, G2 F L0 (o ++ own) a → G2 F L0 o a ∨ a ∈ own := fun a z => by
      rcases z with z | z | z
      · exact .inl (.inl z)
      · exact .inl (.inr (.inl z))
      · rcases List.mem_append.mp z with z | z
        · exact .inl (.inr (.inr z))
        · exact .inr z
    have r1 : Rows R H (G2 F L0 (o ++ own)) o acc vs := Rows.wide (fun a z => (toF a z).imp id fun z => (hn a z).1) rs
    have r2 := Rows.ext x (fun b hb => (s.new b hb).2.2.2) r1
    have r3 := Rows.keep k (fun b hb => upd_ne (s.new b hb).2.1) r2
    have q1 : Own1 R H4 (G2 F L0 (o ++ own)) own d v := Own1.less toF q
    exact r3.push (Own1.keep k (fun b hb => upd_ne (nL b hb)) q1)
end
section
variable {W : Wc} {X : Cx} {r : Bool} {l l' cl : List Nat} {F0 : Addr → Prop} {H0 H : Hp} {C C' : Option Addr} {D : Ends} {σ : L2.St} {ρ : List MP.D} {κ κ' : MP.K}
/-- one turn of a clause, whatever is gathered -/
theorem turn2 {G : Addr → Prop} {md : Nat → Nat} {σw W0 : L2.St} {ρw : List MP.D} {H : Hp} {a : List MP.D} {κ κa : MP.K} {C : Option Addr} {t : Tg} {ifs : Es} {d : MP.D} {x : V} {m : List MP.D → M (List MP.D)} {vs : List Nat} {K1 : L2.St → Hp → Prop} {Nx : Hp → Prop}
    (hb : okEs md ifs = true) (r : Rep (W.rc X C) H G d x) (hlen : ρw.length = σw.length)
    (hf : bnd (opt (asg t d ρw)) (fun ρ' => bnd (evt W.call ifs ρ') fun b => if b then m ρ' else ret []) κ = .ok a κa)
    (hsit : ∀ σ2 ρ2, AsgR (W.rc X C) H G (tgS t) σw σ2 ρw ρ2 → Sit (W.rc X C) G md σ2 H ρ2 κ) (hw : ∀ σ2 ρ2, AsgR (W.rc X C) H G (tgS t) σw σ2 ρw ρ2 → wipe σ2 vs = W0)
    (htrue : ∀ σ2 ρ2 H3 κ3, Sit (W.rc X C) G md σ2 H3 ρ2 κ3 → Ext C H H3 → Cup C H3 κ3 → m ρ2 κ3 = .ok a κa → K1 σ2 H3)
    (hfalse : ∀ H3, Ext C H H3 → Cup C H3 κa → a = [] → Nx H3) :
    gT W X t x σw H fun σ2 H2 => wipe σ2 vs = W0 ∧ tTs W X ifs σ2 H2 fun b H3 => if b = true then K1 σ2 H3 else Nx H3 := by
  obtain ⟨ρ2, κ2, e0, hf0⟩ := bnd_ok hf
  obtain ⟨e1, e3⟩ := opt_eq e0
  subst e3
  obtain ⟨b, κ3, e2, hf1⟩ := bnd_ok hf0
  refine ⟨C, G, d, ρw, ρ2, r, e1, hlen, fun σ2 a2 => ⟨hw σ2 ρ2 a2, ?_⟩⟩
  have s2 := hsit σ2 ρ2 a2
  refine ts_ok hb s2 e2 fun H3 x3 c3 => ?_
  cases b with
  | true => exact htrue σ2 ρ2 H3 κ3 (s2.ext x3 c3) x3 c3 hf1
  | false =>
    have hf2 : (ret [] : M (List MP.D)) κ3 = .ok a κa := hf1
    cases hf2
    exact hfalse H3 x3 c3 rfl
/-- a comprehension of new lists: what its loop is to do -/
theorem imp_rows {vs : List Nat} {t : Tg} {it : MP.It} {ifs : Es} {e : E} {Q : VK} {P : MP.D → MP.K → Prop} {O : Nat → List Addr} (hf : frE W.fr e = true) (hsub : ∀ i ∈ tgS t, i ∈ vs) (hb : okB true (mdL l) (.comp vs (.cons t it ifs (.fin e))) = true) (s : SRelO (W.rc X C) F0 H0 O l σ H ρ κ)
    (h : wpO (ev W.call (.comp vs (.cons t it ifs (.fin e))) ρ κ) P (XWs W H0 C))
    (q : ∀ all κ' L0 o H2 ws, P (.lst all) κ' → Ext C H H2 → Cup C H2 κ' → (∀ b ∈ L0 :: o, H b = none ∧ C ≠ some b ∧ H2 b ≠ none) → (L0 :: o).Nodup → H2 L0 = some (.lst ws) → Rows (W.rc X C) H2 (G2 (ownF (W.rc X C) F0 O) L0 o) o all ws → Q (.ref L0) H2) :
    tLc (tI W X false it) (gT W X t) (tTs W X ifs) (tE W X true e) vs σ H Q := by
  let F := ownF (W.rc X C) F0 O
  have s0 : Sit (W.rc X C) F (mdL l) σ H ρ κ := s.sit
  have hb0 : (okI false (mdL l) it && okEs (mdB vs (mdL l)) ifs && okB true (mdB vs (mdL l)) e) = true := hb
  obtain ⟨hb1, hb3⟩ := Bool.and_eq_true_iff.mp hb0
  obtain ⟨hb1, hb2⟩ := Bool.and_eq_true_iff.mp hb1
  rw [ev] at h
  have q1 := wpO_calm (X' := fun _ _ => False) (wpO_bnd h)
  rw [evg] at q1
  refine ⟨C, F, mdL l, ρ, κ, hb1, s0, wpO_mono (wpO_bnd q1) (fun ds κ1 q2 J H1 x1 c1 wd L0 hL => ?_) fun _ _ z => False.elim z⟩
  have s1 := s0.ext x1 c1
  obtain ⟨G, Y, w, g0, gk, gy⟩ := wd
  have cf : C ≠ some L0 := fun z => by have := c1 L0 z; rw [hL] at this; cases this
  let f : MP.D → M (List MP.D) := fun x => bnd (opt (asg t x (wipeD ρ vs))) fun ρ' => bnd (evt W.call ifs ρ') fun b => if b then evg W.call (.fin e) ρ' ρ' else ret []
  have q2 : wpO (collect f ds κ1) _ _ := q2
  cases ecol : collect f ds κ1 with
  | exc x k => rw [ecol] at q2; exact False.elim q2
  | bad => rw [ecol] at q2; exact False.elim q2
  | ok all κ' =>
    rw [ecol] at q2
    obtain ⟨y, e1, q3⟩ := wpO_opt (show wpO (opt ((sized all).map MP.D.lst) κ') _ _ from q2)
    obtain ⟨z, e2, rfl⟩ := Option.map_eq_some_iff.mp e1
    have hz : all.length ≤ line ∧ z = all := by
      unfold sized at e2
      split at e2
      · rename_i hz; cases e2; exact ⟨hz, rfl⟩
      · cases e2
    obtain ⟨hz, rfl⟩ := hz
    refine lc_it w (fun i H => G H ∧ ∃ o acc κ, LS2 (W.rc X C) F H1 L0 o acc κ H ∧ ∃ rest, collect f (ds.drop i) κ = .ok rest κ' ∧ acc ++ rest = z) ?_ (fun i H _ p => p.1) ?_ ?_
    · refine ⟨gk _ _ g0 (Keep.lay hL), [], [], κ1, ⟨Ext.upd hL, Cup.upd c1 hL, List.nodup_nil, fun b hb => by simp at hb, [], upd_same, rfl, rfl⟩, z, ecol, rfl⟩
    · rintro i x H2 H3 hi ⟨gH, o, acc, κ2, l2, rest, ec, eall⟩ y
      obtain ⟨d, ed, x3, rd⟩ := gy i H2 x H3 hi gH y
      rw [drop_cons ed] at ec
      obtain ⟨a, κa, rb, ef, ec2, er⟩ := collect_ok ec
      have l3 := LS2.ext (R := W.rc X C) cf l2 (Ext.none' x3) (Cup.none' l2.cup x3)
      have g3 : G H3 := gk _ _ gH (Ext.keep' x3 fun c z => by cases z)
      have s3 := LS2.sit s1 hL l3
      have toG : ∀ H4, Ext C H3 H4 → G H4 := fun H4 x4 => gk _ _ g3 (Ext.keep' x4 fun c z => .inl z)
      have toFut : ∀ b, G2 F L0 o b → fut F H1 b := fun b z => by
        rcases z with z | rfl | z
        · exact .inl z
        · exact .inr hL
        · exact .inr (l3.new b z).1
      refine turn2 (G := G2 F L0 o) (md := mdB vs (mdL l)) (m := fun ρ' => evg W.call (.fin e) ρ' ρ') hb2 (Rep.less toFut d x rd) (by rw [wipeD_len, wipe_length]; exact s1.len) ef (fun σ2 ρ2 a2 => blk_sit s3 a2)
        (fun σ2 ρ2 a2 => wipe_eq (by rw [a2.ls, wipe_length]) fun j hj => ?_) (fun σ2 ρ2 H4 κ4 s4 x4 c4 em => ?_) fun H4 x4 c4 ea => ?_
      · rw [(a2.out j fun z => hj (hsub j z)).1, wipe_get, if_neg hj]
      · rw [evg] at em
        obtain ⟨yd, κ5, ey, em⟩ := bnd_ok em
        cases em
        have l4 := LS2.ext (R := W.rc X C) cf l3 x4 c4
        have g4 := toG H4 x4
        refine ⟨C, G2 F L0 o, mdB vs (mdL l), ρ2, κ4, hb3, s4, wpO_eq ey fun v H5 x5 c5 r5 n5 => ?_⟩
        obtain ⟨ws, e4, rr4⟩ := id l4.d
        have e5 : H5 L0 = some (.lst ws) := x5.lst e4 cf
        obtain ⟨own, hn, ndo, ow⟩ := newT_own (R := W.rc X C) (n5 hf) r5
        have l6 := LS2.push (R := W.rc X C) hL cf l4 x5 c5 hn ndo ow e5
        refine ⟨ws, e5, ?_, ?_, o ++ own, acc ++ [yd], κa, l6, rb, ec2, by rw [← eall, er]; simp⟩
        · rw [rows_len rr4, line_eq]
          have : z.length ≤ line := hz
          rw [← eall, er] at this
          simp only [List.length_append, List.length_cons] at this
          omega
        · refine gk _ _ (gk _ _ g4 (Ext.keep' x5 fun c z => .inl z)) (Keep.set (.inr hL) e5 (.inl ⟨_, rfl⟩))
      · subst ea
        exact ⟨toG H4 x4, o, acc, _, LS2.ext (R := W.rc X C) cf l3 x4 c4, rb, ec2, by rw [← eall, er]; rfl⟩
    · rintro H2 ⟨_, o, acc, κ2, l2, rest, ec, eall⟩
      rw [List.drop_length] at ec
      have ec : (ret [] : M (List MP.D)) κ2 = .ok rest κ' := ec
      cases ec
      rw [List.append_nil] at eall
      subst eall
      obtain ⟨ws, e4, rr4⟩ := id l2.d
      refine q acc κ' L0 o H2 ws q3 (x1.trans l2.x) l2.cup (fun b hb => ?_) (List.nodup_cons.mpr ⟨fun hb => (l2.new L0 hb).2.1 rfl, l2.nd⟩) e4 rr4
      rcases List.mem_cons.mp hb with rfl | hb
      · exact ⟨x1.new c1 hL, cf, by rw [e4]; exact fun z => nomatch z⟩
      · exact ⟨x1.new c1 (l2.new b hb).1, (l2.new b hb).2.2.2, (l2.new b hb).2.2.1⟩
/-- name = [..], however it is stored -/
theorem s_ownG {i : Nat} {st : Stmt} {te : TE} {c : E} (himp : ∀ σ H Q, tE W X true c σ H Q → te σ H Q) (hps : PS X st (tAsg te (gName i))) (hf : frE W.fr c = true) (hl : i < l.length) (hb : okB true (mdL l) c = true) : S1 W X r l (l.set i 1) cl st (.asg (.nm i) c) := by
  refine PS.imp hps fun D σ H ⟨C, F0, H0, O, ρ, κ, s, q⟩ => ?_
  rw [ex] at q
  refine himp σ H _ (sub_S (b := true) hb s q fun d v H1 κ1 x1 c1 s1 r1 n1 q1 => ?_)
  obtain ⟨ρ', e1, q2⟩ := wpO_opt (wpO_bnd q1)
  have e1 : some (ρ.set i d) = some ρ' := e1
  cases e1
  obtain ⟨own, hn, nd, ow⟩ := newT_own (n1 hf) r1
  exact q2 C _ H1 (.inr rfl) (s.own x1 c1 (by decide) hl hn nd ow)
theorem s_asgG {i : Nat} {st : Stmt} {te : TE} {c : E} (himp : ∀ σ H Q, tE W X true c σ H Q → te σ H Q) (hps : PS X st (tAsg te (gName i))) (hb : okB true (mdL l) c = true) : S1 W X r l (clr l [i]) cl st (.asg (.nm i) c) := by
  refine PS.imp hps fun D σ H ⟨C, F0, H0, O, ρ, κ, s, q⟩ => ?_
  rw [ex] at q
  refine himp σ H _ (sub_S (b := true) hb s q fun d v H1 κ1 x1 c1 s1 r1 n1 q1 => ?_)
  obtain ⟨ρ', e1, q2⟩ := wpO_opt (wpO_bnd q1)
  have e1 : some (ρ.set i d) = some ρ' := e1
  cases e1
  exact q2 C _ H1 (.inr rfl) ((s1.store (is := [i]) (AsgR.one s1.len r1)).up (s.extF x1 c1))
/-- name = [a new list for ..] -/
theorem s_own2G {i : Nat} {st : Stmt} {vs : List Nat} {t : Tg} {it : MP.It} {ifs : Es} {e : E} (hps : PS X st (tAsg (tLc (tI W X false it) (gT W X t) (tTs W X ifs) (tE W X true e) vs) (gName i))) (hsub : ∀ i ∈ tgS t, i ∈ vs) (hf : frE W.fr e = true) (hl : i < l.length) (hb : okB true (mdL l) (.comp vs (.cons t it ifs (.fin e))) = true) :
    S1 W X r l (l.set i 2) cl st (.asg (.nm i) (.comp vs (.cons t it ifs (.fin e)))) := by
  refine PS.imp hps fun D σ H ⟨C, F0, H0, O, ρ, κ, s, q⟩ => ?_
  rw [ex] at q
  refine imp_rows hf hsub hb s (wpO_bnd q) fun all κ' L0 o H2 ws q1 x2 c2 hn nd e2 rr => ?_
  obtain ⟨ρ', e1, q2⟩ := wpO_opt (wpO_bnd q1)
  have e1 : some (ρ.set i (.lst all)) = some ρ' := e1
  cases e1
  refine q2 C _ H2 (.inr rfl) (s.own (m := 2) (own := L0 :: o) x2 c2 (by decide) hl hn nd ?_)
  refine ⟨L0, ws, o, rfl, rfl, e2, Rows.less (fun a z => ?_) rr⟩
  rcases z with z | z
  · exact .inl z
  · rcases List.mem_cons.mp z with z | z
    · exact .inr (.inl z)
    · exact .inr (.inr z)
end
end MP
set_option Elab.async false
set_option linter.all false
set_option maxRecDepth 100000
set_option maxHeartbeats 2000000
/-! MP20: the cup is made; the law's own def. -/
namespace MP
open PySem PySem.Spec PyProof.Rows L2
section
variable {K : PySem.W.Frag} {C C' : Option Addr} {fa : Nat → Option Addr} {kt : Bool} {H : Hp} {F : Addr → Prop}
theorem Own1.later (g : C = none ∨ C' = C) (hF : ∀ c, C' = some c → F c) {own : List Addr} {d : D} {v : V} (h : Own1 ⟨K, C, fa, kt⟩ H F own d v) : Own1 ⟨K, C', fa, kt⟩ H F own d v := by
  cases d with
  | lst ds => obtain ⟨a, vs, e1, e2, e3, r⟩ := h; exact ⟨a, vs, e1, e2, e3, Reps.later g hF ds vs r⟩
  | dic t ks ws => obtain ⟨a, vs, e1, e2, e3, r⟩ := h; exact ⟨a, vs, e1, e2, e3, Reps.later g hF ws vs r⟩
  | _ => exact ⟨h.1, Rep.later g hF _ v h.2⟩
theorem Rows.later (g : C = none ∨ C' = C) (hF : ∀ c, C' = some c → F c) : ∀ {own : List Addr} {ds : List D} {vs : List V}, Rows ⟨K, C, fa, kt⟩ H F own ds vs → Rows ⟨K, C', fa, kt⟩ H F own ds vs
  | _, [], _, h => h
  | own, d :: ds, vs, h => by
    obtain ⟨o1, o2, v, r, e1, e2, h1, h2⟩ := h
    exact ⟨o1, o2, v, r, e1, e2, Own1.later g hF h1, Rows.later g hF h2⟩
theorem OwnM.later (g : C = none ∨ C' = C) (hF : ∀ c, C' = some c → F c) {m : Nat} {own : List Addr} {d : D} {v : V} (h : OwnM ⟨K, C, fa, kt⟩ H F m own d v) : OwnM ⟨K, C', fa, kt⟩ H F m own d v := by
  match m, h with
  | 0, h => exact ⟨h.1, Rep.later g hF d v h.2⟩
  | 1, h => exact Own1.later g hF h
  | m + 3, h => exact Own1.later g hF h
  | 2, h =>
    have h : Own2 ⟨K, C, fa, kt⟩ H F own d v := h
    show Own2 ⟨K, C', fa, kt⟩ H F own d v
    cases d with
    | lst ds => obtain ⟨a, vs, o, e1, e2, e3, r⟩ := h; exact ⟨a, vs, o, e1, e2, e3, Rows.later g hF r⟩
    | dic t ks ws => obtain ⟨a, vs, o, e1, e2, e3, r⟩ := h; exact ⟨a, vs, o, e1, e2, e3, Rows.later g hF r⟩
    | _ => exact ⟨h.1, Rep.later g hF _ v h.2⟩
end
def no7 (l : List Nat) : Bool := l.all (· != 7)
theorem no7_at {l : List Nat} (h : no7 l = true) (i : Nat) : mdL l i ≠ 7 := by
  unfold mdL
  rw [List.getD_eq_getElem?_getD]
  cases e : l[i]? with
  | none => show 0 ≠ 7; decide
  | some x =>
    have := List.all_eq_true.mp h x (List.mem_of_getElem? e)
    simpa using this
section
variable {W : Wc} {X : Cx} {r : Bool} {l l' cl : List Nat} {F0 : Addr → Prop} {H0 H : Hp} {C C' : Option Addr} {D : Ends} {σ : L2.St} {ρ : List MP.D} {κ κ' : MP.K}
theorem s_mkcup {i n7 : Nat} {x : Str} {e : Expr} {c : E} {p pos : Pos} (hmk : W.mkc = true) (h7 : mdL l n7 = 7) (hn7 : no7 (clr l [n7, i]) = true) (he : SE W X true e c) (hf : frE W.fr c = true) (hb : okB true (mdL l) c = true) (hN : X.N.Nodup) (hi : X.N[i]? = some x) (hx : Loc X.env.scope x) (hff : X.fn x = true ∨ X.env.scope.names.lookup x = some .local)
    (hs : swapsWithSole [.Name x p] e pos.line X.env = pure false := by rfl) (hw : swappedStores [.Name x p] e X.env = pure none := by rfl)
    (h1 : (assignEach [.Name x p] X.env).map (·.2) = [assign (.Name x p) X.env] := by rfl) : S1 W X r l (clr l [n7, i]) cl (.Assign [.Name x p] e pos) (.mkcup i c) := by
  refine PS.imp (ps_asg he (pg_name hN hi hx hff) hs hw h1) fun D σ H ⟨C, F0, H0, O, ρ, κ, s, q⟩ => ?_
  rw [ex] at q
  have hC : C = none := s.cn n7 h7
  subst hC
  refine sub_S (b := true) hb s q fun d v H1 κ1 x1 c1 s1 r1 n1 q1 => ?_
  cases ec : cupOf d with
  | none => rw [ec] at q1; exact False.elim q1
  | some pp =>
    obtain ⟨a, b⟩ := pp
    have ed : d = .lst [.int a, .int b] := by
      unfold cupOf at ec
      split at ec
      · cases ec; rfl
      · cases ec
    subst ed
    rw [ec] at q1
    obtain ⟨a0, vs, rfl, hn, _, e1, rs⟩ := n1 hf
    simp only [Reps, Rep] at rs
    obtain ⟨v1, _, rfl, rfl, v2, _, rfl, rfl, rfl⟩ := rs
    let F := ownF (W.rc X none) F0 O
    let O' : Nat → List Addr := fun j => if j = i ∨ j = n7 then [] else O j
    have hO : ∀ j b, b ∈ O' j → b ∈ O j := fun j b q => by
      by_cases ej : j = i ∨ j = n7
      · have e2 : O' j = [] := if_pos ej
        rw [e2] at q; simp at q
      · have e2 : O' j = O j := if_neg ej
        rw [e2] at q; exact q
    have hF : ∀ b, ownF (W.rc X (some a0)) F0 O' b → FD F a0 b := fun b z => by
      rcases z with z | z | ⟨j, z⟩
      · exact .inl (.inl z)
      · have z : some a0 = some b := z
        cases z; exact .inr rfl
      · exact .inl (.inr (.inr ⟨j, hO j b z⟩))
    have x0 : Ext none H0 H1 := s.x.trans x1
    refine (show ∀ C' σ' H', _ from q1) (some a0) _ H1 (.inl ⟨hmk, rfl⟩) ⟨O', ⟨by rw [List.length_set, List.length_set]; exact s.len, Ext.none' x0, fun z ez => ?_, s.f0, ⟨fun j b hb => ?_, fun j k b n hb hb' => s.ok.one j k b n (hO j b hb) (hO k b hb'), fun j => ?_⟩, fun j d he n => ?_, fun j hj => absurd hj (no7_at hn7 j)⟩, ⟨Ext.keep' x1 (fun c z => nomatch z), fun b z => (hF b z).imp id (fun y => (by rw [y]; exact hn))⟩⟩
    · have ez : some a0 = some z := ez
      cases ez; exact e1
    · obtain ⟨h1, h2, h3⟩ := s1.ok.new j b (hO j b hb)
      refine ⟨h1, fun z => ?_, h3⟩
      have z : some a0 = some b := z
      cases z
      exact (s.ok.new j a0 (hO j a0 hb)).2.2 hn
    · by_cases ej : j = i ∨ j = n7
      · have e2 : O' j = [] := if_pos ej
        rw [e2]; exact List.nodup_nil
      · have e2 : O' j = O j := if_neg ej
        rw [e2]; exact s.ok.nod j
    · by_cases ej : j = i
      · subst ej
        have hlt : j < ρ.length := by
          have := (List.getElem?_eq_some_iff.mp he).1
          rwa [List.length_set] at this
        rw [List.getElem?_set_self hlt] at he
        cases he
        refine ⟨.ref a0, List.getElem?_set_self (by rw [← s.len]; exact hlt), ?_⟩
        have em : mdL (clr l [n7, j]) j = 0 := by rw [mdL_clr, if_pos (by simp)]
        rw [em]
        refine ⟨if_pos (.inl rfl), ?_⟩
        simp only [Rep]
        exact ⟨a0, rfl, rfl⟩
      · rw [List.getElem?_set_ne (fun z => ej z.symm)] at he
        obtain ⟨w, e2, ow⟩ := s.at' j d he n
        refine ⟨w, by rw [List.getElem?_set_ne (fun z => ej z.symm)]; exact e2, ?_⟩
        have owl : OwnM (W.rc X (some a0)) H1 (FD F a0) (mdL l j) (O j) d w := by
          refine OwnM.later (.inl rfl) (fun c z => ?_) (OwnM.ext (R := W.rc X none) (fun a h => (s.ok.new j a h).2.1) x1 (OwnM.wide (fun b z => z.imp id (fun y => (by rw [y]; exact hn))) ow))
          have z : some a0 = some c := z
          cases z; exact .inr rfl
        by_cases h7j : j = n7
        · subst h7j
          have em : mdL (clr l [j, i]) j = 0 := by rw [mdL_clr, if_pos (by simp)]
          have e3 : O' j = [] := if_pos (.inr rfl)
          rw [em]
          refine ⟨e3, OwnM.free hF (fun b hb => ⟨fun z => ?_, fun z => ?_⟩) owl⟩
          · have z : some a0 = some b := z
            cases z
            exact (s.ok.new j a0 hb).2.2 hn
          · rcases z with z | z | ⟨k, z⟩
            · exact s.f0 b z (s.ok.new j b hb).1
            · have z : some a0 = some b := z
              cases z
              exact (s.ok.new j a0 hb).2.2 hn
            · by_cases ek : j = k
              · subst ek; rw [e3] at z; simp at z
              · exact s.ok.one j k b ek hb (hO k b z)
        · have em : mdL (clr l [n7, i]) j = mdL l j := by rw [mdL_clr, if_neg (by simp [h7j, ej])]
          have e3 : O' j = O j := if_neg fun z => z.elim ej h7j
          rw [em, e3]
          exact OwnM.less hF owl
end
/-- the law's promise -/
def spLaw (K : PySem.W.Frag) : Sp := fun vs H Q _ => ∃ (a : Addr) (ns : List Int), vs = [.ref a] ∧ ns.length ≤ 1000000 ∧ ScrAt K H a ns ∧ ∀ H', Q (.bl true) H'
section
variable {P : Program} {w : World} {K : PySem.W.Frag} {mg : Str → Option Value} {base : Heap}
theorem mdL_start {n i : Nat} (h : i < n) : mdL (List.replicate n 0 ++ [7]) i = 0 := by
  unfold mdL
  rw [List.getD_eq_getElem?_getD, List.getElem?_append_left (by simpa using h), List.getElem?_replicate, if_pos h]; rfl
theorem law_ok {fa : Nat → Option Addr} {kt : Bool} {fr : Nat → Bool} {T : Nat → Option MP.Fun} {k k0 f : Nat} {x qual : Str} {params : Arguments} {bd : List Stmt} {scope : Scope} {dvs : List V} {kws : List (Str × V)} {a : Addr} {fd : FuncData} {N : List Str} {p : Str} {c : Ss} (Fn : FunD K x qual params bd scope dvs kws a fd) (S : FnScope N [p] scope) (hp : 1 ≤ N.length)
    (hT : T f = some ⟨1, N.length, c⟩) (hlaw : ∀ ns : List Int, ns.length ≤ 1000000 → ∃ κ', run T (k + 1) f [.scr ns] (0, 0) = .ok (.bl true) κ')
    (hbody : ∀ (cdv : Value) (A : Around) (outer : List Env) (s : Shared) (H : Hp) (E : XK), Room k0 (A.deeper (envOfC qual scope s.heap.objs.size a cdv)) → ∃ l', SS (mkW fa kt fr T k true) (cxOf CX0 P w K mg base N qual scope a cdv A outer s H E).nox false (List.replicate N.length 0 ++ [7]) l' [] bd c) :
    FnOk P w K mg base CX0 (k0 + 1) a fd [p] (spLaw K) := by
  refine Fn.ok S (fun vs H Q E h => by obtain ⟨_, _, rfl, _⟩ := h; rfl) fun cdv A outer s H vs Q E hr h => ?_
  obtain ⟨l', hb⟩ := hbody cdv A outer s H E hr
  refine ⟨_, PSs.nox hb, ?_⟩
  obtain ⟨ad, ns, rfl, hl, hs, q⟩ := h
  obtain ⟨κ', e⟩ := hlaw ns hl
  have e1 : run T (k + 1) f [.scr ns] = body (run T k) ⟨1, N.length, c⟩ [.scr ns] := by rw [run, hT]
  rw [e1] at e
  unfold body at e
  rw [if_pos (show [D.scr ns].length = 1 from rfl)] at e
  obtain ⟨fl, κ2, e2, e3⟩ := bnd_ok e
  have r : Reps ⟨K, none, fa, kt⟩ H (fun _ => False) [.scr ns] [.ref ad] := by
    simp only [Reps, Rep]
    exact ⟨_, [], rfl, ⟨ad, rfl, hs⟩, rfl⟩
  have s0 := fn_start (R := ⟨K, none, fa, kt⟩) (F := fun _ => False) (N := N) (ds := [.scr ns]) (vs := [.ref ad]) (κ := (0, 0)) (fun c z => nomatch z) (fun _ z => z.elim) (fun c z => nomatch z) r hp
  refine ⟨none, fun _ => False, H, fun _ => [], _, (0, 0), ⟨s0.len, s0.x, s0.cup, s0.f0, s0.ok, fun i d he n => ?_, fun _ _ => rfl⟩, wpO_eq e2 ?_⟩
  · obtain ⟨v, h1, h2⟩ := s0.at' i d he n
    refine ⟨v, h1, ?_⟩
    have hi : i < N.length := by
      have := (List.getElem?_eq_some_iff.mp he).1
      rw [List.length_append, List.length_replicate] at this
      have h1 : [D.scr ns].length = 1 := rfl
      rw [h1] at this
      omega
    have hm : mdL (List.replicate N.length 0) i = 0 := by
      unfold mdL
      rw [List.getD_eq_getElem?_getD, List.getElem?_replicate, if_pos hi]; rfl
    rw [mdL_start hi]
    rw [hm] at h2
    exact h2
  · cases fl with
    | nx ρ' => cases e3
    | ct ρ' => cases e3
    | bk ρ' => cases e3
    | rt d =>
      have e3 : (ret d : M D) κ2 = .ok (.bl true) κ' := e3
      cases e3
      intro C' v H' _ _ _ r' _
      rw [show v = .bl true from rT_bl (Rep.top r')]
      exact q H'
end
def visB (sc : Scope) (x : Str) : Bool := match sc.names.lookup x with
  | some .local => true
  | some .cell => true
  | some .free => true
  | _ => false
theorem vis_of {sc : Scope} {x : Str} (h : visB sc x = true) : Vis sc x := by
  unfold visB at h
  unfold Vis
  split at h
  · rename_i e; exact .inl e
  · rename_i e; exact .inr (.inl e)
  · rename_i e; exact .inr (.inr e)
  · cases h
def locB (sc : Scope) (x : Str) : Bool := match sc.names.lookup x with
  | some .local => true
  | some .cell => true
  | _ => false
theorem loc_of {sc : Scope} {x : Str} (h : locB sc x = true) : L2.Loc sc x := by
  unfold locB at h
  unfold L2.Loc
  split at h
  · rename_i e; exact .inl e
  · rename_i e; exact .inr e
  · cases h
def isLc : Option NameKind → Bool
  | some .local => true
  | _ => false
theorem fnn_of {X : Cx} {x : Str} (h : (X.fn x || isLc (X.env.scope.names.lookup x)) = true) : X.fn x = true ∨ X.env.scope.names.lookup x = some .local := by
  rcases Bool.or_eq_true_iff.mp h with h | h
  · exact .inl h
  · right
    unfold isLc at h
    split at h
    · rename_i e; exact e
    · cases h
theorem fn_zero {P : Program} {w : World} {K : PySem.W.Frag} {mg : Str → Option Value} {base : Heap} {fa : Nat → Option Addr} {kt : Bool} {fr : Nat → Bool} {T : Nat → Option MP.Fun} {a : Addr} {fd : FuncData} {f : Nat} {ps : List Str} {np : Nat} (h : np = ps.length := by rfl) : FnOk P w K mg base CX0 0 a fd ps (spF fa kt fr T 0 K f np) := by
  subst h
  exact ⟨fun vs H Q E h => h.1, fun A outer s H args us vs Q E _ _ _ _ h => by
    obtain ⟨_, C, F, ds, κ, _, _, _, _, q⟩ := h
    exact False.elim q⟩
theorem S1.post {W : Wc} {X : Cx} {r : Bool} {l l1 l' cl : List Nat} {st : Stmt} {c : S} (h : S1 W X r l l1 cl st c) (e : l1 = l') : S1 W X r l l' cl st c := e ▸ h
theorem scr_of {K : PySem.W.Frag} {H : Hp} {a : Addr} {ns : List Int} (ho : Only H) (h : SqL K H a (ns.map V.int)) : ScrAt K H a ns := by
  rcases h with (h | ⟨o, h⟩) | h
  · rcases ho a with z | ⟨o, xs, z⟩
    · rw [h] at z; cases z
    · rw [h] at z; cases z
  · exact .inl ⟨o, h⟩
  · exact .inr h
end MP
set_option Elab.async false
set_option linter.all false
set_option maxRecDepth 100000
set_option maxHeartbeats 2000000
/-! MP21: slices. -/
namespace MP
open PySem PySem.Spec PyProof.Rows L2
section
variable {W : Wc} {X : Cx}
def rSlAll (K : PySem.W.Frag) : V → Option Int → Option Int → Hp → VK → Prop := fun x lo hi H Q => rSlA K x lo hi H Q ∨ rSlL K x lo hi H Q ∨ rSlS x lo hi H Q
theorem sl_all : SlR X (rSlAll X.K) := SlR.or sl_tupA (SlR.or (r := rSlL X.K) sl_list sl_str)
theorem clip_sIx (n : Nat) (i : Int) : clip n i = HT.sIx n 0 (some i) := by
  show clip n i = if i < 0 then (i + (n : Int)).toNat else min i.toNat n
  unfold clip
  by_cases h : 0 ≤ i
  · rw [if_pos h, if_neg (by omega)]
  · rw [if_neg h, if_pos (by omega)]
theorem cutL_eq {α : Type} (xs : List α) (lo hi : Option Int) : cutL xs lo hi = (xs.drop (HT.sIx xs.length 0 lo)).take (HT.sIx xs.length xs.length hi - HT.sIx xs.length 0 lo) := by
  have c : ∀ (d : Nat) (i : Int), HT.sIx xs.length d (some i) = clip xs.length i := fun d i => (clip_sIx _ i).symm
  cases lo with
  | none => cases hi with
    | none => rfl
    | some j => rw [c]; rfl
  | some i => cases hi with
    | none => rw [c]; rfl
    | some j => rw [c, c]; rfl
theorem Reps.cut {R : Rc} {H : Hp} {F : Addr → Prop} {ds : List D} {vs : List V} (lo hi : Option Int) (r : Reps R H F ds vs) : Reps R H F (cutL ds lo hi) (cutV vs lo hi) := by
  rw [cutL_eq]
  unfold cutV
  rw [r.length]
  exact (r.drop _).take _
/-- what a slice leaves -/
theorem slice_ok {C : Option Addr} {F : Addr → Prop} {H : Hp} {κ : MP.K} {Q : VK} {x d : D} {u : V} {lo hi : Option Int} (fh : ∀ a, F a → H a ≠ none) (cu : Cup C H κ) (rx : Rep (W.rc X C) H F x u) (h : cutD x lo hi = some d)
    (q : ∀ w H', Ext C H H' → Cup C H' κ → Rep (W.rc X C) H' F d w → NewT (W.rc X C) H H' F d w → Q w H') : rSlAll X.K u lo hi H Q := by
  unfold cutD at h
  split at h
  · cases h
    obtain ⟨a, vs, rfl, s1, r1⟩ := rep_tup rx
    refine .inl ⟨a, vs, rfl, s1.sq, fun e => ?_, fun _ p hp => ?_⟩
    · have : cutL ‹List D› lo hi = ‹List D› := by
        rw [cutL_eq, ← r1.length, e.1, e.2, List.drop_zero, r1.length, Nat.sub_zero, List.take_length]
      rw [this] at q
      exact q _ H Ext.refl cu rx trivial
    · exact q _ _ (Ext.upd hp) (cu.upd hp) (rep_new_tup hp (r1.cut lo hi)) trivial
  · cases h
    obtain ⟨a, vs, rfl, _, s1, r1⟩ := Rep.top rx
    refine .inr (.inl ⟨a, vs, rfl, .inl (.inl s1), fun p hp => ?_⟩)
    exact q _ _ (Ext.upd hp) (cu.upd hp) (rep_new_lst hp cu fh (r1.cut lo hi)) (newT_lst hp cu (r1.cut lo hi))
  · split at h
    · rename_i hz
      cases h
      rw [rT_str rx.top]
      refine .inr (.inr ⟨_, rfl, by rw [str_len, line_eq]; exact hz, ?_⟩)
      have : cutS ⟨(‹List Nat› : List Nat).toArray⟩ lo hi = ⟨(cutL ‹List Nat› lo hi).toArray⟩ := by
        unfold cutS
        rw [cutL_eq, str_len]
      rw [this]
      exact q _ H Ext.refl cu rep_str trivial
    · cases h
  · cases h
theorem se_slA {bb : Bool} {e ei : Expr} {c ci : E} {p2 pos : Pos} (ha : SE W X true e c) (hi : SE W X true ei ci) : SE W X bb (.Subscript e (.Slice (some ei) none none p2) pos) (.op2 .slA c ci) := by
  refine PE.imp (pe_slice sl_all ha (po_some hi) po_none) fun σ H Q ⟨C, F, md, ρ, κ, hb, s, q⟩ => ?_
  have hb' : okB true md c = true ∧ okB true md ci = true := Bool.and_eq_true_iff.mp hb
  refine sub (b := true) (c := c) (f := fun x => bnd (ev W.call ci ρ) fun y => op2M .slA x y) hb'.1 s q fun x u H1 κ1 x1 s1 r1 _ q1 => ?_
  refine sub (b := true) (c := ci) (f := fun y => op2M .slA x y) hb'.2 s1 q1 fun y v H2 κ2 x2 s2 r2 _ q2 => ?_
  obtain ⟨d, e, q3⟩ := wpO_opt (o := op2K .slA x y κ2) q2
  have e : slAD x y = some d := e
  unfold slAD at e
  split at e
  · rw [rT_int (RepB.top r2)]
    refine ⟨_, rfl, ?_⟩
    refine slice_ok (F := F) s2.fh s2.cup (Rep.ext x2 _ _ r1) e fun w H3 x3 c3 r3 n3 => ?_
    have q4 : ∀ v H', _ := q3
    exact q4 w H3 ((x1.trans x2).trans x3) c3 r3.toB fun _ => newTop_up (R := W.rc X C) (x1.trans x2) s2.cup n3
  · cases e
theorem se_slB {bb : Bool} {e ei : Expr} {c ci : E} {p2 pos : Pos} (ha : SE W X true e c) (hi : SE W X true ei ci) : SE W X bb (.Subscript e (.Slice none (some ei) none p2) pos) (.op2 .slB c ci) := by
  refine PE.imp (pe_slice sl_all ha po_none (po_some hi)) fun σ H Q ⟨C, F, md, ρ, κ, hb, s, q⟩ => ?_
  have hb' : okB true md c = true ∧ okB true md ci = true := Bool.and_eq_true_iff.mp hb
  refine sub (b := true) (c := c) (f := fun x => bnd (ev W.call ci ρ) fun y => op2M .slB x y) hb'.1 s q fun x u H1 κ1 x1 s1 r1 _ q1 => ?_
  refine sub (b := true) (c := ci) (f := fun y => op2M .slB x y) hb'.2 s1 q1 fun y v H2 κ2 x2 s2 r2 _ q2 => ?_
  obtain ⟨d, e, q3⟩ := wpO_opt (o := op2K .slB x y κ2) q2
  have e : slBD x y = some d := e
  unfold slBD at e
  split at e
  · rw [rT_int (RepB.top r2)]
    refine ⟨_, rfl, ?_⟩
    refine slice_ok (F := F) s2.fh s2.cup (Rep.ext x2 _ _ r1) e fun w H3 x3 c3 r3 n3 => ?_
    have q4 : ∀ v H', _ := q3
    exact q4 w H3 ((x1.trans x2).trans x3) c3 r3.toB fun _ => newTop_up (R := W.rc X C) (x1.trans x2) s2.cup n3
  · cases e
theorem se_slC {bb : Bool} {e ei ej : Expr} {c ci cj : E} {p2 pos : Pos} (ha : SE W X true e c) (hi : SE W X true ei ci) (hj : SE W X true ej cj) : SE W X bb (.Subscript e (.Slice (some ei) (some ej) none p2) pos) (.op3 .slC c ci cj) := by
  refine PE.imp (pe_slice sl_all ha (po_some hi) (po_some hj)) fun σ H Q ⟨C, F, md, ρ, κ, hb, s, q⟩ => ?_
  have hb1 : (okB true md c && okB true md ci && okB true md cj) = true := hb
  have hb2 := Bool.and_eq_true_iff.mp hb1
  have hb3 := Bool.and_eq_true_iff.mp hb2.1
  refine sub (b := true) (c := c) (f := fun x => bnd (ev W.call ci ρ) fun y => bnd (opt (chk3 .slC y)) fun _ => bnd (ev W.call cj ρ) fun z => opt (op3 .slC x y z)) hb3.1 s q fun x u H1 κ1 x1 s1 r1 _ q1 => ?_
  refine sub (b := true) (c := ci) (f := fun y => bnd (opt (chk3 .slC y)) fun _ => bnd (ev W.call cj ρ) fun z => opt (op3 .slC x y z)) hb3.2 s1 q1 fun y v H2 κ2 x2 s2 r2 _ q2 => ?_
  obtain ⟨_, hy, q2⟩ := wpO_opt (wpO_bnd q2)
  have hy : ∃ i, y = .int i := by
    cases y with
    | int i => exact ⟨i, rfl⟩
    | _ => exact absurd hy (by simp [chk3])
  obtain ⟨i, rfl⟩ := hy
  rw [rT_int (RepB.top r2)]
  refine ⟨i, rfl, ?_⟩
  refine sub (b := true) (c := cj) (f := fun z => opt (op3 .slC x (.int i) z)) hb2.2 s2 q2 fun z t H3 κ3 x3 s3 r3 _ q3 => ?_
  obtain ⟨d, e, q4⟩ := wpO_opt q3
  have e : slCD x (.int i) z = some d := e
  cases z with
  | int j =>
    rw [rT_int (RepB.top r3)]
    refine ⟨j, rfl, ?_⟩
    refine slice_ok (F := F) s3.fh s3.cup (Rep.ext x3 _ _ (Rep.ext x2 _ _ r1)) (show cutD x (some i) (some j) = some d from e) fun w H4 x4 c4 r4 n4 => ?_
    have q5 : ∀ v H', _ := q4
    exact q5 w H4 (((x1.trans x2).trans x3).trans x4) c4 r4.toB fun _ => newTop_up (R := W.rc X C) ((x1.trans x2).trans x3) s3.cup n4
  | _ => exact absurd e (by cases x <;> simp [slCD])
end
end MP
set_option Elab.async false
set_option linter.all false
set_option maxRecDepth 100000
set_option maxHeartbeats 2000000
/-! MP22: stores into owned lists and dicts. -/
namespace MP
open PySem PySem.Spec PyProof.Rows L2
theorem PSet.or {X : Cx} {t t' : TSet} (h : PSet X t) (h' : PSet X t') : PSet X (fun o i v H Q => t o i v H Q ∨ t' o i v H Q) := by
  intro pins s σ H o i v ov iv u Q I ro ri rv q
  rcases q with q | q
  · exact h pins s σ H o i v ov iv u Q I ro ri rv q
  · exact h' pins s σ H o i v ov iv u Q I ro ri rv q
def rSetA : TSet := fun o i v H Q => rSetL o i v H Q ∨ rSetD o i v H Q
theorem set_any {X : Cx} (hu : X.A.units + 1 < cLine) : PSet X rSetA := PSet.or (t := rSetL) set_list (set_dict hu)
section
variable {R : Rc} {H H' : Hp} {F : Addr → Prop}
theorem keep_upd {a : Addr} {o o' : HO} (hF : F a) (e : H a = some o) (m : mutO o) : Keep F H (upd H a o') := Keep.set hF e m
/-- d[k] = y at an owned place -/
theorem own_set {own : List Addr} {d k y d' : D} {u w v : V} (hF : ∀ a ∈ own, F a) (ho : Own1 R H F own d u) (hk : Rep R H F k w) (hy : Rep R H F y v) (h : setD d k y = some d') :
    ∃ a o o', u = .ref a ∧ own = [a] ∧ H a = some o ∧ mutO o ∧ Own1 R (upd H a o') F own d' u ∧ ∀ Q : Hp → Prop, Q (upd H a o') → rSetA u w v H Q := by
  cases d with
  | lst xs =>
    cases k with
    | int i =>
      obtain ⟨j, ej, rfl⟩ := Option.map_eq_some_iff.mp (show (place xs.length i).map (fun j => MP.D.lst (xs.set j y)) = some d' from h)
      obtain ⟨a, vs, rfl, rfl, ha, rs⟩ := ho
      have hFa := hF a (by simp)
      have kk : Keep F H (upd H a (.lst (vs.set j v))) := Keep.set hFa ha (.inl ⟨_, rfl⟩)
      refine ⟨a, _, _, rfl, rfl, ha, .inl ⟨_, rfl⟩, ⟨a, _, rfl, rfl, upd_same, Reps.keep kk _ _ (rs.set hy j)⟩, fun Q q => ?_⟩
      rw [rT_int hk.top]
      exact .inl ⟨a, vs, i, j, rfl, rfl, ha, by rw [rs.length]; exact ej, q⟩
    | _ => cases h
  | dic t ks ws =>
    obtain ⟨p, ep, rfl⟩ := Option.map_eq_some_iff.mp (show (putD t ks ws k y).map (fun p => MP.D.dic t p.1 p.2) = some d' from h)
    unfold putD at ep
    split at ep
    · rename_i hc
      cases ep
      obtain ⟨hkey, hl⟩ := Bool.and_eq_true_iff.mp hc
      have hl := of_decide_eq_true hl
      obtain ⟨a, vs, rfl, rfl, ha, rs⟩ := ho
      have hFa := hF a (by simp)
      cases t with
      | false =>
        obtain ⟨kvs, e, rfl, rfl⟩ := ha
        obtain ⟨k', rfl⟩ := keyOf_flat hkey
        have kk : Keep F H (upd H a (.dK (putK kvs k' v))) := Keep.set hFa e (.inr (.inl ⟨_, rfl⟩))
        obtain ⟨p1, p2⟩ := put_rel key_eq k' hy kvs ws rs
        refine ⟨a, _, _, rfl, rfl, e, .inr (.inl ⟨_, rfl⟩), ⟨a, _, rfl, rfl, ⟨_, upd_same, p1, rfl⟩, Reps.keep kk _ _ p2⟩, fun Q q => ?_⟩
        rw [rep_key hk.top]
        exact .inr ⟨a, _, rfl, DPut.k e (by rw [List.length_map] at hl; rw [line_eq]; exact hl), q⟩
      | true =>
        obtain ⟨hkt, kvs, e, rfl, rfl⟩ := ha
        obtain ⟨k', rfl⟩ := keyOf_tup hkey
        obtain ⟨b, us, rfl, st, ru⟩ := rep_tup hk
        have st : H b = some (.tup us) := by
          unfold TupAt at st
          rw [hkt] at st
          simpa using st
        rw [reps_keys ru] at st
        have kk : Keep F H (upd H a (.dT (putK kvs k' v))) := Keep.set hFa e (.inr (.inr ⟨_, rfl⟩))
        obtain ⟨p1, p2⟩ := put_rel fT_eq k' hy kvs ws rs
        refine ⟨a, _, _, rfl, rfl, e, .inr (.inr ⟨_, rfl⟩), ⟨a, _, rfl, rfl, ⟨hkt, _, upd_same, p1, rfl⟩, Reps.keep kk _ _ p2⟩, fun Q q => ?_⟩
        exact .inr ⟨a, _, rfl, DPut.t e st (by rw [List.length_map] at hl; rw [line_eq]; exact hl), q⟩
    · cases ep
  | _ => cases h
end
section
variable {W : Wc} {X : Cx} {r : Bool} {l l' cl : List Nat} {F0 : Addr → Prop} {H0 H : Hp} {C C' : Option Addr} {D : Ends} {σ : L2.St} {ρ : List MP.D} {κ κ' : MP.K}
/-- x[k] = e, x owned -/
theorem s_set1 {i : Nat} {x : Str} {k e : Expr} {ck c : E} {px p pos : Pos} (hi1 : mdL l i = 1) (hu : X.A.units + 1 < cLine) (he : SE W X true e c) (hk : SE W X true k ck) (hb : okB true (mdL l) c = true) (hkb : okB true (mdL l) ck = true)
    (hN : X.N[i]? = some x) (hv : Vis X.env.scope x) (hd : (x == ("__debug__" : Str)) = false) (hcd : (x == ("__classdict__" : Str)) = false)
    (ha : ∀ v, assign (.Subscript (.Name x px) k p) X.env v = (do
      let ov ← holding [v] (eval (.Name x px) X.env)
      let iv ← holding [v, ov] (eval k X.env)
      standAt p
      holding [v, ov, iv] (setItem ov iv v)
      release [v, ov, iv] []) := by intro _; rfl) (hs : swapsWithSole [.Subscript (.Name x px) k p] e pos.line X.env = pure false := by rfl) (hw : swappedStores [.Subscript (.Name x px) k p] e X.env = pure none := by rfl)
    (h1 : (assignEach [.Subscript (.Name x px) k p] X.env).map (·.2) = [assign (.Subscript (.Name x px) k p) X.env] := by rfl) :
    S1 W X r l l cl (.Assign [.Subscript (.Name x px) k p] e pos) (.set1 i ck c) := by
  refine PS.imp (ps_asg he (pg_sub (pe_var hN hv hd hcd) hk (set_any hu) ha) hs hw h1) fun D σ H ⟨C, F0, H0, O, ρ, κ, s, q⟩ => ?_
  rw [ex] at q
  refine sub_S (b := true) hb s q fun y v H1 κ1 x1 c1 s1 r1 n1 q1 => ?_
  obtain ⟨d, e1, nd, q2⟩ := wpO_getV (wpO_bnd q1)
  obtain ⟨u, e2, ow⟩ := s1.at' i d e1 nd
  refine ⟨u, e2, ?_⟩
  refine sub_S (b := true) hkb s1 q2 fun j w H2 κ2 x2 c2 s2 r2 n2 q3 => ?_
  obtain ⟨d', ed, q4⟩ := wpO_opt (wpO_bnd q3)
  obtain ⟨u', e2', ow2⟩ := s2.at' i d e1 nd
  rw [e2] at e2'; cases e2'
  rw [hi1] at ow2
  have ow2 : Own1 (W.rc X C) H2 (ownF (W.rc X C) F0 O) (O i) d u := ow2
  obtain ⟨a, o, o', eu, eo, ha2, hm, ow3, hr⟩ := own_set (fun b hb => .inr (.inr ⟨i, hb⟩)) ow2 r2 (Rep.ext (R := W.rc X C) x2 _ _ r1) ed
  refine hr _ ?_
  have mt := s2.mut (i := i) (a := a) (o' := o') (d := d') (v := u) (by rw [eo]; simp) ha2 hm e2 (by rw [hi1]; exact ow3)
  exact (show ∀ C' σ' H', _ from q4) C σ _ (.inr rfl) (mt.up (s.extF (x1.trans x2) c2))
theorem mtr_append : MtR X "list.append" rAppend := mt_append
/-- x.append(e), x owned -/
theorem s_app {i : Nat} {x : Str} {e : Expr} {c : E} {px apos cpos pos : Pos} (hi1 : mdL l i = 1) (he : SE W X true e c) (hb : okB true (mdL l) c = true)
    (hN : X.N[i]? = some x) (hv : Vis X.env.scope x) (hd : (x == ("__debug__" : Str)) = false) (hcd : (x == ("__classdict__" : Str)) = false)
    (hbase : attributeBase (.Name x px) "append" X.env (eval (.Name x px) X.env) = eval (.Name x px) X.env := by rfl)
    (hfew : ((backTo cpos (starEach [e] X.env)).all (fun x => !x.1) && (backToKw cpos (keywordEach [] X.env)).all (fun x => x.1.isSome)
      && decide ([e].length + ([] : List Keyword).length + (if ([] : List Keyword).isEmpty then 0 else 1) < 30)) = true := by rfl)
    (hline : (apos.endLine == cpos.line) = true := by rfl) (hs : starEach [e] X.env = (false, eval e X.env) :: starEach [] X.env := by rfl) (hplain : (backTo cpos (starEach [] X.env)).any (·.1) = false := by rfl)
    (hsw : swapsWith (.Call (.Attribute (.Name x px) "append" apos) [e] [] cpos) none pos.line X.env = pure false := by rfl) :
    S1 W X r l l cl (.Expr (.Call (.Attribute (.Name x px) "append" apos) [e] [] cpos) pos) (.app i c) := by
  refine PS.imp (ps_expr (pe_bm PySem.F.plainAttrs_list PySem.F.slot_list_append PySem.F.type_list_append mtr_append (pe_var hN hv hd hcd) (pa_cons he pa_nil hs) hbase hfew hline hs hplain) hsw) fun D σ H ⟨C, F0, H0, O, ρ, κ, s, q⟩ => ?_
  rw [ex] at q
  obtain ⟨d, e1, nd, q2⟩ := wpO_getV (wpO_bnd q)
  obtain ⟨xs, el, q3⟩ := wpO_opt (wpO_bnd q2)
  have ed : d = .lst xs := by
    cases d with
    | lst ys => cases el; rfl
    | _ => cases el
  subst ed
  obtain ⟨u, e2, ow⟩ := s.at' i _ e1 nd
  rw [hi1] at ow
  obtain ⟨a, vs, rfl, eo, ha, rs⟩ := (show Own1 (W.rc X C) H (ownF (W.rc X C) F0 O) (O i) (.lst xs) u from ow)
  refine ⟨_, e2, .inl ⟨rfl, vs, .inl (.inl ha)⟩, ?_⟩
  refine sub_S (b := true) hb s q3 fun y v H1 κ1 x1 c1 s1 r1 n1 q4 => ?_
  obtain ⟨d', ea, q5⟩ := wpO_opt (wpO_bnd q4)
  have ea : (if xs.length < line then some (MP.D.lst (xs ++ [y])) else none) = some d' := ea
  split at ea
  · rename_i hz
    cases ea
    obtain ⟨u', e2', ow2⟩ := s1.at' i _ e1 nd
    rw [e2] at e2'; cases e2'
    rw [hi1] at ow2
    obtain ⟨a', vs', ea', eo', ha2, rs2⟩ := (show Own1 (W.rc X C) H1 (ownF (W.rc X C) F0 O) (O i) (.lst xs) (.ref a) from ow2)
    cases ea'
    have hFa : ownF (W.rc X C) F0 O a := .inr (.inr ⟨i, by rw [eo]; simp⟩)
    refine ⟨a, vs', v, rfl, rfl, ha2, by rw [rs2.length, line_eq]; exact hz, ?_⟩
    have kk : Keep (ownF (W.rc X C) F0 O) H1 (upd H1 a (.lst (vs' ++ [v]))) := Keep.set hFa ha2 (.inl ⟨_, rfl⟩)
    have mt := s1.mut (i := i) (a := a) (o' := .lst (vs' ++ [v])) (d := .lst (xs ++ [y])) (v := .ref a) (by rw [eo]; simp) ha2 (.inl ⟨_, rfl⟩) e2 (by
      rw [hi1]
      refine ⟨a, _, rfl, eo, upd_same, Reps.keep kk _ _ (rs2.append ?_)⟩
      simp only [Reps]
      exact ⟨v, [], rfl, r1, rfl⟩)
    exact (show ∀ C' σ' H', _ from q5) C σ _ (.inr rfl) (mt.up (s.extF x1 c1))
  · cases ea
/-- x[k], x a list, within an augmented store -/
def rGetL : V → V → Hp → VK → Prop := fun o i H Q => ∃ p xs k v, o = .ref p ∧ i = .int k ∧ H p = some (.lst xs) ∧ atI xs k = some v ∧ Q v H
theorem get_list : PGet X rGetL := by
  intro pins s σ H o i ov iv Q I ro ri h
  obtain ⟨p, xs, k, v, rfl, rfl, hp, he, q⟩ := h
  cases ro
  obtain ⟨t, rfl⟩ := ri
  obtain ⟨its, r, pl, hz⟩ := I.list (.inl (.inl hp))
  obtain ⟨j, h1, h2, h3, h4, h5⟩ := atI_get he
  obtain ⟨w, ew, rw'⟩ := r.get h2
  have hl := r.length
  have hn := line63
  have fin : EP X pins σ Q w s := ⟨v, H, I, rw', q⟩
  by_cases h0 : 0 ≤ k
  · have hj : k.toNat = j := by
      rw [seqIndex_of h0 h5] at h1
      exact Option.some.inj h1
    exact wpAny_getItem_list pl.isList h0 (by omega) (by rw [hj]; simpa using ew) fin
  · have hj : (k + (its.toArray.size : Int)).toNat = j := by
      rw [seqIndex_neg (by omega) h4] at h1
      rw [List.size_toArray, ← hl]
      exact Option.some.inj h1
    exact wpAny_getItem_list_neg pl.isList (by omega) (by rw [List.size_toArray] <;> omega) (by omega) (by rw [hj]; simpa using ew) fin
/-- x[k] += e, x an owned list, ints -/
theorem s_aug1 {i : Nat} {x : Str} {k e : Expr} {ck c : E} {px p pos : Pos} (hi1 : mdL l i = 1) (he : SE W X false e c) (hk : SE W X false k ck) (hb : okB false (mdL l) c = true) (hkb : okB false (mdL l) ck = true)
    (hN : X.N[i]? = some x) (hv : Vis X.env.scope x) (hd : (x == ("__debug__" : Str)) = false) (hcd : (x == ("__classdict__" : Str)) = false)
    (ha : ∀ ov iv new, augStore k ov iv new = (do holding [new, ov, iv] (setItem ov iv new); release [new, ov, iv] []; pure .next) := by intros; rfl) :
    S1 W X r l l cl (.AugAssign (.Subscript (.Name x px) k p) .Add e pos) (.aug1 i ck .add c) := by
  refine PS.imp (ps_augS (pe_var hN hv hd hcd) hk get_list he ip_add set_list ha) fun D σ H ⟨C, F0, H0, O, ρ, κ, s, q⟩ => ?_
  rw [ex] at q
  obtain ⟨d, e1, nd, q2⟩ := wpO_getV (wpO_bnd q)
  obtain ⟨u, e2, ow⟩ := s.at' i _ e1 nd
  refine ⟨u, e2, ?_⟩
  refine sub_S (b := false) hkb s q2 fun j w H1 κ1 x1 c1 s1 r1 n1 q3 => ?_
  obtain ⟨z, ez, q4⟩ := wpO_opt (wpO_bnd q3)
  obtain ⟨xs, el, ez⟩ := Option.bind_eq_some_iff.mp ez
  have ed : d = .lst xs := by
    cases d with
    | lst ys => cases el; rfl
    | _ => cases el
  subst ed
  cases j with
  | int jv =>
    have ew : w = .int jv := rT_int (RepB.top r1)
    subst ew
    obtain ⟨u', e2', ow2⟩ := s1.at' i _ e1 nd
    rw [e2] at e2'; cases e2'
    rw [hi1] at ow2
    obtain ⟨a, vs, rfl, eo, ha2, rs2⟩ := (show Own1 (W.rc X C) H1 (ownF (W.rc X C) F0 O) (O i) (.lst xs) u from ow2)
    obtain ⟨v, ev, rv⟩ := rs2.at (show atD xs jv = some z from ez)
    refine ⟨a, vs, jv, v, rfl, rfl, ha2, ev, ?_⟩
    refine sub_S (b := false) hb s1 q4 fun y v2 H2 κ2 x2 c2 s2 r2 n2 q5 => ?_
    obtain ⟨z', ez', q6⟩ := wpO_opt (wpO_bnd q5)
    obtain ⟨d', ed', q7⟩ := wpO_opt (wpO_bnd q6)
    obtain ⟨jn, ej, rfl⟩ := Option.map_eq_some_iff.mp (show (place xs.length jv).map (fun j => MP.D.lst (xs.set j z')) = some d' from ed')
    cases z with
    | int m =>
      cases y with
      | int n =>
        have ez' : some (MP.D.int (m + n)) = some z' := ez'
        cases ez'
        have ev2 : v2 = .int n := rT_int (RepB.top r2)
        have ev3 : v = .int m := rT_int rv.top
        subst ev2 ev3
        refine ⟨m, n, rfl, rfl, ?_⟩
        obtain ⟨u', e3', ow3⟩ := s2.at' i _ e1 nd
        rw [e2] at e3'; cases e3'
        rw [hi1] at ow3
        obtain ⟨a', vs', ea', eo', ha3, rs3⟩ := (show Own1 (W.rc X C) H2 (ownF (W.rc X C) F0 O) (O i) (.lst xs) (.ref a) from ow3)
        cases ea'
        have hFa : ownF (W.rc X C) F0 O a := .inr (.inr ⟨i, by rw [eo]; simp⟩)
        refine ⟨a, vs', jv, jn, rfl, rfl, ha3, by rw [rs3.length]; exact ej, ?_⟩
        have kk : Keep (ownF (W.rc X C) F0 O) H2 (upd H2 a (.lst (vs'.set jn (.int (m + n))))) := Keep.set hFa ha3 (.inl ⟨_, rfl⟩)
        have mt := s2.mut (i := i) (a := a) (o' := .lst (vs'.set jn (.int (m + n)))) (d := .lst (xs.set jn (.int (m + n)))) (v := .ref a) (by rw [eo]; simp) ha3 (.inl ⟨_, rfl⟩) e2 (by
          rw [hi1]
          exact ⟨a, _, rfl, eo, upd_same, Reps.keep kk _ _ (rs3.set rep_int jn)⟩)
        exact (show ∀ C' σ' H', _ from q7) C σ _ (.inr rfl) (mt.up (s.extF (x1.trans x2) c2))
      | _ => cases ez'
    | _ => cases y <;> cases ez'
  | _ => cases ez
/-- x += e, ints -/
theorem s_aug {i : Nat} {x : Str} {e : Expr} {c : E} {px pos : Pos} (he : SE W X false e c) (hb : okB false (mdL l) c = true) (hN : X.N.Nodup) (hi : X.N[i]? = some x) (hx : Loc X.env.scope x) (hff : X.fn x = true ∨ X.env.scope.names.lookup x = some .local) :
    S1 W X r l (clr l [i]) cl (.AugAssign (.Name x px) .Add e pos) (.aug i .add c) := by
  refine PS.imp (ps_aug hN hi hx he ip_add hff) fun D σ H ⟨C, F0, H0, O, ρ, κ, s, q⟩ => ?_
  rw [ex] at q
  obtain ⟨d, e1, nd, q2⟩ := wpO_getV (wpO_bnd q)
  obtain ⟨u, e2, ow⟩ := s.at' i _ e1 nd
  refine ⟨u, e2, ?_⟩
  refine sub_S (b := false) hb s q2 fun y v H1 κ1 x1 c1 s1 r1 n1 q3 => ?_
  obtain ⟨z, ez, q4⟩ := wpO_opt (wpO_bnd q3)
  cases d with
  | int m =>
    cases y with
    | int n =>
      have ez : some (MP.D.int (m + n)) = some z := ez
      cases ez
      have ev : v = .int n := rT_int (RepB.top r1)
      have eu : u = .int m := by
        have : Rep (W.rc X C) H (ownF (W.rc X C) F0 O) (.int m) u := by
          match mdL l i, ow with
          | 0, h => exact h.2
          | 1, h => exact h.2
          | 2, h => exact h.2
          | k + 3, h => exact h.2
        exact rT_int this.top
      subst ev eu
      refine ⟨m, n, rfl, rfl, ?_⟩
      exact (show ∀ C' σ' H', _ from q4) C _ _ (.inr rfl) ((s1.store (AsgR.one s1.len rep_int)).up (s.extF x1 c1))
    | _ => cases ez
  | _ => cases y <;> cases ez
/-- x += e, an owned list -/
theorem s_augL {i : Nat} {x : Str} {e : Expr} {c : E} {px pos : Pos} (hi1 : mdL l i = 1) (he : SE W X false e c) (hb : okB false (mdL l) c = true) (hN : X.N.Nodup) (hi : X.N[i]? = some x) (hx : Loc X.env.scope x) (hff : X.fn x = true ∨ X.env.scope.names.lookup x = some .local) :
    S1 W X r l l cl (.AugAssign (.Name x px) .Add e pos) (.ext i c) := by
  refine PS.imp (ps_aug hN hi hx he (ti := fun x y H Q => rAddI x y H Q ∨ rExt2 x y H Q) (OpR.or (r := rAddI) iop_add iop_ext) hff) fun D σ H ⟨C, F0, H0, O, ρ, κ, s, q⟩ => ?_
  rw [ex] at q
  obtain ⟨d, e1, nd, q2⟩ := wpO_getV (wpO_bnd q)
  obtain ⟨u, e2, ow⟩ := s.at' i _ e1 nd
  refine ⟨u, e2, ?_⟩
  refine sub_S (b := false) hb s q2 fun y v H1 κ1 x1 c1 s1 r1 n1 q3 => ?_
  obtain ⟨z, ez, q4⟩ := wpO_opt (wpO_bnd q3)
  obtain ⟨u', e2', ow2⟩ := s1.at' i _ e1 nd
  rw [e2] at e2'; cases e2'
  rw [hi1] at ow2
  have ow2 : Own1 (W.rc X C) H1 (ownF (W.rc X C) F0 O) (O i) d u := ow2
  have ez : extD d y = some z := ez
  have fin : ∀ H2, SRelF (W.rc X C) F0 H0 (ownF (W.rc X C) F0 O) H l σ H2 (ρ.set i z) κ1 → D.nx (σ.set i (some u)) H2 := fun H2 sr => by
    have : σ.set i (some u) = σ := by
      apply List.ext_getElem?
      intro j
      rw [List.getElem?_set]
      by_cases ej : i = j
      · subst ej
        have := (List.getElem?_eq_some_iff.mp e2).1
        rw [if_pos rfl, if_pos this, e2]
      · rw [if_neg ej]
    rw [this]
    exact (show ∀ C' σ' H', _ from q4) C σ _ (.inr rfl) sr
  cases d with
  | lst xs =>
    cases y with
    | lst ys =>
      have ez : (if xs.length + ys.length ≤ line then some (MP.D.lst (xs ++ ys)) else none) = some z := ez
      split at ez
      · rename_i hz
        cases ez
        obtain ⟨a, vs, rfl, eo, ha, rs⟩ := ow2
        obtain ⟨b, ws, rfl, _, hb2, rs2⟩ := RepB.top r1
        have hFa : ownF (W.rc X C) F0 O a := .inr (.inr ⟨i, by rw [eo]; simp⟩)
        refine .inr ⟨a, b, vs, ws, rfl, rfl, ha, hb2, by rw [rs.length, rs2.length, line_eq]; exact hz, fin _ ?_⟩
        have kk : Keep (ownF (W.rc X C) F0 O) H1 (upd H1 a (.lst (vs ++ ws))) := Keep.set hFa ha (.inl ⟨_, rfl⟩)
        have mt := s1.mut (i := i) (a := a) (o' := .lst (vs ++ ws)) (d := .lst (xs ++ ys)) (v := .ref a) (by rw [eo]; simp) ha (.inl ⟨_, rfl⟩) e2 (by
          rw [hi1]
          exact ⟨a, _, rfl, eo, upd_same, Reps.keep kk _ _ (rs.append rs2)⟩)
        exact mt.up (s.extF x1 c1)
      · cases ez
    | _ => cases ez
  | _ => cases y <;> cases ez
end
end MP
set_option Elab.async false
set_option linter.all false
set_option maxRecDepth 100000
set_option maxHeartbeats 2000000
/-! MP23: defaults, sums, greatest, sorted, new dicts. -/
namespace MP
open PySem PySem.Spec PyProof.Rows L2
theorem max_unique {m n : Int} {ns : List Int} (h : maxI ns = some n) : n ∈ ns ∧ ∀ y ∈ ns, y ≤ n := by
  cases ns with
  | nil => cases h
  | cons a r =>
    have h : r.foldl max a = n := Option.some.inj h
    subst h
    induction r generalizing a with
    | nil => simp
    | cons b r ih =>
      obtain ⟨h1, h2⟩ := ih (max a b) rfl
      rw [List.foldl_cons]
      refine ⟨?_, fun y hy => ?_⟩
      · rcases List.mem_cons.mp h1 with e | e
        · rw [e]
          rcases Int.le_total a b with q | q
          · rw [Int.max_eq_right q]; simp
          · rw [Int.max_eq_left q]; simp
        · exact List.mem_cons_of_mem _ (List.mem_cons_of_mem _ e)
      · have hm : max a b ≤ r.foldl max (max a b) := h2 _ (List.mem_cons_self ..)
        rcases List.mem_cons.mp hy with rfl | hy
        · exact Int.le_trans (Int.le_max_left ..) hm
        · rcases List.mem_cons.mp hy with rfl | hy
          · exact Int.le_trans (Int.le_max_right ..) hm
          · exact h2 _ (List.mem_cons_of_mem _ hy)
theorem min_unique {n : Int} {ns : List Int} (h : minI ns = some n) : n ∈ ns ∧ ∀ y ∈ ns, n ≤ y := by
  cases ns with
  | nil => cases h
  | cons a r =>
    have h : r.foldl min a = n := Option.some.inj h
    subst h
    induction r generalizing a with
    | nil => simp
    | cons b r ih =>
      obtain ⟨h1, h2⟩ := ih (min a b) rfl
      rw [List.foldl_cons]
      refine ⟨?_, fun y hy => ?_⟩
      · rcases List.mem_cons.mp h1 with e | e
        · rw [e]
          rcases Int.le_total a b with q | q
          · rw [Int.min_eq_left q]; simp
          · rw [Int.min_eq_right q]; simp
        · exact List.mem_cons_of_mem _ (List.mem_cons_of_mem _ e)
      · have hm : r.foldl min (min a b) ≤ min a b := h2 _ (List.mem_cons_self ..)
        rcases List.mem_cons.mp hy with rfl | hy
        · exact Int.le_trans hm (Int.min_le_left ..)
        · rcases List.mem_cons.mp hy with rfl | hy
          · exact Int.le_trans hm (Int.min_le_right ..)
          · exact h2 _ (List.mem_cons_of_mem _ hy)
theorem insI_perm (x : Int) : ∀ l, (insI x l).Perm (x :: l)
  | [] => .refl _
  | y :: ys => by
    unfold insI
    split
    · exact .refl _
    · exact ((insI_perm x ys).cons y).trans (.swap x y ys)
theorem insI_sorted (x : Int) : ∀ l : List Int, l.Pairwise (· ≤ ·) → (insI x l).Pairwise (· ≤ ·)
  | [], _ => by simp [insI]
  | y :: ys, h => by
    obtain ⟨h1, h2⟩ := List.pairwise_cons.mp h
    unfold insI
    split
    · rename_i hxy
      refine List.pairwise_cons.mpr ⟨fun z hz => ?_, h⟩
      rcases List.mem_cons.mp hz with rfl | hz
      · exact hxy
      · exact Int.le_trans hxy (h1 z hz)
    · rename_i hxy
      refine List.pairwise_cons.mpr ⟨fun z hz => ?_, insI_sorted x ys h2⟩
      rcases List.mem_cons.mp ((insI_perm x ys).mem_iff.mp hz) with rfl | hz
      · omega
      · exact h1 z hz
theorem isort_perm : ∀ l : List Int, (isort l).Perm l
  | [] => .refl _
  | x :: l => (insI_perm x (isort l)).trans ((isort_perm l).cons x)
theorem isort_sorted : ∀ l : List Int, (isort l).Pairwise (· ≤ ·)
  | [] => .nil
  | x :: l => insI_sorted x _ (isort_sorted l)
theorem sorted_unique : ∀ {a b : List Int}, a.Perm b → a.Pairwise (· ≤ ·) → b.Pairwise (· ≤ ·) → a = b
  | [], b, p, _, _ => p.nil_eq
  | x :: a, [], p, _, _ => absurd p.length_eq (by simp)
  | x :: a, y :: b, p, h, g => by
    obtain ⟨h1, h2⟩ := List.pairwise_cons.mp h
    obtain ⟨g1, g2⟩ := List.pairwise_cons.mp g
    have e : x = y := by
      have hy : y ∈ x :: a := p.mem_iff.mpr (List.mem_cons_self ..)
      have hx : x ∈ y :: b := p.mem_iff.mp (List.mem_cons_self ..)
      rcases List.mem_cons.mp hy with e | hy
      · exact e.symm
      · rcases List.mem_cons.mp hx with e | hx
        · exact e
        · have := h1 y hy
          have := g1 x hx
          omega
    subst e
    rw [sorted_unique (List.perm_cons _ |>.mp p) h2 g2]
theorem isort_of {a l : List Int} (p : a.Perm l) (s : a.Pairwise (· ≤ ·)) : a = isort l := sorted_unique (p.trans (isort_perm l).symm) s (isort_sorted l)
section
variable {W : Wc} {X : Cx}
def rSumT (K : PySem.W.Frag) : List V → Hp → VK → Prop := fun vs H Q => ∃ (a : Addr) (ns : List Int), vs = [V.ref a] ∧ SqT K H a (ns.map V.int) ∧ Q (.int ns.sum) H
theorem cr_sumT (hc : X.calm = true) : CallR X (.builtin "sum") (rSumT X.K) := by
  intro pins s σ H vs us Q I r h
  obtain ⟨a, ns, rfl, hs, q⟩ := h
  obtain ⟨its, rv, hl, _⟩ := I.tuple hs
  rw [Vals.ref1 r]
  have hi := rv.ints
  obtain ⟨xs, e⟩ := hi.allInts.items
  have hn : numsOf (intItems xs).toList = ns := by rw [← e]; exact hi.numsOf
  rw [nums_intItems] at hn
  rw [e] at hl
  have ht : s.heap.IsTuple a (intItems xs) := by
    obtain ⟨o, ho, hc, n, hd⟩ := hl
    exact ⟨o, ho, hc, n, hd⟩
  refine PySem.W.ktm_sumG (I.ok.hd hc) ht fun h' tk t' hk => ⟨.int _, H, I.kept hk, ⟨_, rfl⟩, ?_⟩
  rw [preSum_eq, List.take_of_length_le (by simp), hn]; exact q
theorem ok_sum {fr : Bool} : Ok1 W X fr .sum fun u H Q => rSum X.K [u] H Q ∨ rSumT X.K [u] H Q := by
  intro C F H κ Q x d u cf fh cu rx h q
  have rx := RepB.top rx
  have h : sumD x = some d := h
  unfold sumD tlOf at h
  obtain ⟨xs, h1, h2⟩ := Option.bind_eq_some_iff.mp h
  obtain ⟨bs, h3, rfl⟩ := Option.map_eq_some_iff.mp h2
  split at h1
  · cases h1
    obtain ⟨a, vs, rfl, _, s1, r1⟩ := rx
    rw [intL_map h3] at r1
    rw [Reps.intL r1] at s1
    exact .inl ⟨a, bs, rfl, .inl (.inl s1), q _ H Ext.refl cu rep_int fun _ => trivial⟩
  · cases h1
    obtain ⟨a, vs, rfl, s1, r1⟩ := rx
    rw [intL_map h3] at r1
    rw [Reps.intL r1] at s1
    exact .inr ⟨a, bs, rfl, s1, q _ H Ext.refl cu rep_int fun _ => trivial⟩
  · cases h1
theorem ok_maxl {fr : Bool} : Ok1 W X fr .maxl fun u H Q => rMax X.K [u] H Q := by
  intro C F H κ Q x d u cf fh cu rx h q
  have rx := RepB.top rx
  have h : maxlD x = some d := h
  unfold maxlD lstOf at h
  obtain ⟨xs, h1, h2⟩ := Option.bind_eq_some_iff.mp h
  obtain ⟨bs, h3, h4⟩ := Option.bind_eq_some_iff.mp h2
  obtain ⟨n, h5, rfl⟩ := Option.map_eq_some_iff.mp h4
  split at h1
  · cases h1
    obtain ⟨a, vs, rfl, _, s1, r1⟩ := rx
    rw [intL_map h3] at r1
    rw [Reps.intL r1] at s1
    obtain ⟨g1, g2⟩ := max_unique (m := 0) h5
    refine ⟨a, bs, rfl, .inl (.inl s1), List.length_pos_of_mem g1, fun m hm hy => ?_⟩
    have : m = n := Int.le_antisymm (g2 m hm) (hy n g1)
    subst this
    exact q _ H Ext.refl cu rep_int fun _ => trivial
  · cases h1
theorem ok_minl {fr : Bool} : Ok1 W X fr .minl fun u H Q => rMin X.K [u] H Q := by
  intro C F H κ Q x d u cf fh cu rx h q
  have rx := RepB.top rx
  have h : minlD x = some d := h
  unfold minlD lstOf at h
  obtain ⟨xs, h1, h2⟩ := Option.bind_eq_some_iff.mp h
  obtain ⟨bs, h3, h4⟩ := Option.bind_eq_some_iff.mp h2
  obtain ⟨n, h5, rfl⟩ := Option.map_eq_some_iff.mp h4
  split at h1
  · cases h1
    obtain ⟨a, vs, rfl, _, s1, r1⟩ := rx
    rw [intL_map h3] at r1
    rw [Reps.intL r1] at s1
    obtain ⟨g1, g2⟩ := min_unique h5
    refine ⟨a, bs, rfl, .inl (.inl s1), List.length_pos_of_mem g1, fun m hm hy => ?_⟩
    have : m = n := Int.le_antisymm (hy n g1) (g2 m hm)
    subst this
    exact q _ H Ext.refl cu rep_int fun _ => trivial
  · cases h1
theorem se_sum {bb : Bool} {e : Expr} {c : E} {p pos : Pos} (hc : X.calm = true) (hg : Gl X "sum") (hm : X.mg "sum" = none) (ha : SE W X false e c) (hs : starEach [e] X.env = (false, eval e X.env) :: starEach [] X.env := by rfl) : SE W X bb (.Call (.Name "sum" p) [e] [] pos) (.op1 .sum c) :=
  se_b1 (o := .sum) (CallR.or (cr_sum hc) (cr_sumT hc)) ok_sum boot_sum hg hm ha hs (by decide) (by decide)
theorem se_max {bb : Bool} {e : Expr} {c : E} {p pos : Pos} (hc : X.calm = true) (hg : Gl X "max") (hm : X.mg "max" = none) (ha : SE W X false e c) (hs : starEach [e] X.env = (false, eval e X.env) :: starEach [] X.env := by rfl) : SE W X bb (.Call (.Name "max" p) [e] [] pos) (.op1 .maxl c) :=
  se_b1 (o := .maxl) (cr_max hc) ok_maxl boot_max hg hm ha hs (by decide) (by decide)
theorem se_min {bb : Bool} {e : Expr} {c : E} {p pos : Pos} (hc : X.calm = true) (hg : Gl X "min") (hm : X.mg "min" = none) (ha : SE W X false e c) (hs : starEach [e] X.env = (false, eval e X.env) :: starEach [] X.env := by rfl) : SE W X bb (.Call (.Name "min" p) [e] [] pos) (.op1 .minl c) :=
  se_b1 (o := .minl) (cr_min hc) ok_minl boot_min hg hm ha hs (by decide) (by decide)
/-- {} -/
theorem se_dnewK {bb : Bool} {pos : Pos} : SE W X bb (.Dict [] [] pos) (.dct false .nil) := by
  refine PE.imp pe_dnewK fun σ H Q ⟨C, F, md, ρ, κ, hb, s, q⟩ => fun p hp => ?_
  have q1 : ∀ v H', _ := q
  have r : DicAt (W.rc X C) (upd H p (.dK [])) p false [] [] := ⟨[], upd_same, rfl, rfl⟩
  refine q1 (.ref p) _ (Ext.upd hp) (s.cup.upd hp) (Rep.toB ?_) fun _ => ?_
  · simp only [Rep]
    exact ⟨p, [], rfl, fun z => s.fh p z hp, r, by simp only [Reps]⟩
  · exact ⟨p, [], rfl, hp, (fun z => by rw [s.cup p z] at hp; cases hp), r, by simp only [Reps]⟩
theorem se_dnewT {bb : Bool} {pos : Pos} (hk : W.kt = false) : SE W X bb (.Dict [] [] pos) (.dct true .nil) := by
  refine PE.imp pe_dnewT fun σ H Q ⟨C, F, md, ρ, κ, hb, s, q⟩ => fun p hp => ?_
  have q1 : ∀ v H', _ := q
  have r : DicAt (W.rc X C) (upd H p (.dT [])) p true [] [] := ⟨hk, [], upd_same, rfl, rfl⟩
  refine q1 (.ref p) _ (Ext.upd hp) (s.cup.upd hp) (Rep.toB ?_) fun _ => ?_
  · simp only [Rep]
    exact ⟨p, [], rfl, fun z => s.fh p z hp, r, by simp only [Reps]⟩
  · exact ⟨p, [], rfl, hp, (fun z => by rw [s.cup p z] at hp; cases hp), r, by simp only [Reps]⟩
/-- ints for the last parameters -/
def csI : List Int → Es
  | [] => .nil
  | n :: r => .cons (.cst (.int n)) (csI r)
theorem evs_csI {C : Nat → List D → M D} {ρ : List D} : ∀ ns : List Int, evs C (csI ns) ρ = ret (ns.map D.int)
  | [] => by rw [csI, evs]; rfl
  | n :: r => by
    rw [csI, evs, ev, evs_csI r]; rfl
theorem evs_app {C : Nat → List D → M D} {ρ : List D} (ns : List Int) : ∀ cs : Es, evs C (esApp cs (csI ns)) ρ = bnd (evs C cs ρ) fun ds => ret (ds ++ ns.map D.int)
  | .nil => by rw [esApp, evs_csI, evs]; rfl
  | .cons c cs => by
    rw [esApp, evs, evs, evs_app ns cs]
    funext κ
    show bnd (ev C c ρ) (fun d => bnd (bnd (evs C cs ρ) fun ds => ret (ds ++ ns.map D.int)) fun ds => ret (d :: ds)) κ = bnd (bnd (ev C c ρ) fun d => bnd (evs C cs ρ) fun ds => ret (d :: ds)) (fun ds => ret (ds ++ ns.map D.int)) κ
    unfold bnd
    cases ev C c ρ κ with
    | ok d κ' =>
      simp only
      cases evs C cs ρ κ' <;> rfl
    | _ => rfl
theorem okEs_app {md : Nat → Nat} (ns : List Int) : ∀ cs : Es, okEs md (esApp cs (csI ns)) = okEs md cs
  | .nil => by
    have : ∀ ns : List Int, okEs md (csI ns) = true := fun ns => by
      induction ns with
      | nil => rfl
      | cons n r ih => show (okB true md (.cst (.int n)) && okEs md (csI r)) = true; rw [ih]; rfl
    rw [esApp, this]; rfl
  | .cons c cs => by
    show (okB true md c && okEs md (esApp cs (csI ns))) = (okB true md c && okEs md cs)
    rw [okEs_app ns cs]
theorem se_callD {bb : Bool} {k : Nat} {f : Nat} {a : Addr} {fd : FuncData} {ps : List Str} {x : Str} {p pos : Pos} {e : Expr} {es : List Expr} {cs cs' : Es} {ns : List Int} {ds : List Value} (F : FnOk X.prog X.w X.K X.mg X.base CX0 k a fd ps (spC W.fa W.kt (W.fr f) (W.call f) X.K ps.length)) (hX : ∀ x κ H, ¬ W.XW x κ H) (hr : Room k X.A) (hg : Gl X x) (hm : X.mg x = some (.ref a)) (hk : PySem.W.keepIn X.K (.ref a) = true) (hb : Vals (ns.map V.int) ds ∧ Binds X.K fd ps ds)
    (ha : SA W X (e :: es) cs) (hl : esLen cs + ns.length = ps.length) (hcs : cs' = esApp cs (csI ns)) (hdb : (x == ("__debug__" : Str)) = false := by decide) (he : starEach (e :: es) X.env = (false, eval e X.env) :: starEach es X.env := by rfl) (hpl : (backTo pos (starEach es X.env)).any (·.1) = false := by rfl) :
    SE W X bb (.Call (.Name x p) (e :: es) [] pos) (.call f cs') := by
  subst hcs
  refine PE.imp (pe_call F hr hg hm hk hb.2 hb.1 pass0 ha hdb he hpl) fun σ H Q ⟨C, F, md, ρ, κ, hbk, s, q⟩ => ?_
  rw [ev, evs_app] at q
  have hbk : okEs md (esApp cs (csI ns)) = true := hbk
  rw [okEs_app] at hbk
  have eq' : bnd (bnd (evs W.call cs ρ) fun ds => ret (ds ++ ns.map D.int)) (fun ds => W.call f ds) = bnd (evs W.call cs ρ) fun ds => W.call f (ds ++ ns.map D.int) := by
    funext κ
    unfold bnd
    cases evs W.call cs ρ κ <;> rfl
  rw [eq'] at q
  refine sub_items (cs := cs) (f := fun ds => W.call f (ds ++ ns.map D.int)) hbk s q fun ds vs H1 κ1 l x1 s1 r1 q1 => ?_
  have rr : Reps (W.rc X C) H1 F (ds ++ ns.map D.int) (vs ++ ns.map V.int) := r1.append reps_ints
  refine ⟨by rw [List.length_append, List.length_map, r1.length, l, hl], C, F, ds ++ ns.map D.int, κ1, s1.cf, s1.fh, s1.cup, rr, ?_⟩
  cases e : W.call f (ds ++ ns.map D.int) κ1 with
  | ok d κ2 =>
    rw [e] at q1
    exact fun v H2 x2 c2 r2 n2 => (show ∀ v H', _ from q1) v H2 (x1.trans x2) c2 r2.toB fun z => newTop_up (R := W.rc X C) x1 s1.cup (n2 z)
  | exc y κ2 =>
    rw [e] at q1
    obtain ⟨H2, x2, c2⟩ := some_cup (κ' := κ2) s1.cup
    exact (hX _ _ _ (q1 H2 x2 c2)).elim
  | bad => rw [e] at q1; exact q1
end
end MP
set_option Elab.async false
set_option linter.all false
set_option maxRecDepth 100000
set_option maxHeartbeats 2000000
/-! MP24: x[::-1]. -/
namespace MP
open PySem PySem.Spec PyProof.Rows L2 HT
section
variable {prog : Program} {w : World} {A : Around} {E : Value → Shared → Prop} {s : Shared}
theorem adjust_rev (n : Nat) : Builtin.Slice.sliceAdjust none none (-1) (n : Int) = ((n : Int) - 1, -1) := by
  unfold Builtin.Slice.sliceAdjust
  simp
theorem places_rev (n : Nat) : Builtin.Slice.slicePlaces ((n : Int) - 1) (-1) (-1) = n := by
  unfold Builtin.Slice.slicePlaces
  have h1 : ¬ ((-1 : Int) > 0) := by omega
  simp only [h1, if_false]
  split
  · rename_i h
    rw [show (- -1 : Int) = 1 by decide, Int.ediv_one]
    omega
  · omega
theorem sliceApplied_rev {sl : Addr} {vs : Value} {n : Nat} {Q : Int × Int × Nat → Shared → Prop} (hs : s.heap.IsSliceOf sl .none .none vs) (ps : IsPart vs (some (-1)))
    (h : Q ((n : Int) - 1, -1, n) s) : wpAny (model prog w) A (Builtin.Slice.sliceApplied (.ref sl) (pure (n : Int))) Q E s := by
  obtain ⟨os, hos, hcs, hds⟩ := id hs
  unfold Builtin.Slice.sliceApplied Builtin.Slice.sliceFields
  refine wpAny_bind (wpAny_bind (wpAny_field hos hds (x := .none) rfl (wpAny_bind (wpAny_field hos hds (x := .none) rfl (wpAny_bind (wpAny_field hos hds (x := vs) rfl (wpAny_pure ?_)))))))
  refine wpAny_bind (slicePart_ ps ?_)
  show wpAny _ _ (if ((-1 : Int) == 0) = true then _ else _) _ _ s
  rw [if_neg (by decide)]
  refine wpAny_bind (slicePart_none (wpAny_bind (slicePart_none (wpAny_bind (wpAny_pure ?_)))))
  show wpAny _ _ (match Builtin.Slice.sliceAdjust none none (-1) (n : Int) with | (lo, hi) => pure (lo, (-1 : Int), Builtin.Slice.slicePlaces lo hi (-1))) _ _ s
  rw [adjust_rev n]
  show wpAny _ _ (pure ((n : Int) - 1, (-1 : Int), Builtin.Slice.slicePlaces ((n : Int) - 1) (-1) (-1))) _ _ s
  rw [places_rev]
  exact wpAny_pure h
theorem pick_rev (xs : Array Value) : ((List.range xs.size).filterMap fun (m : Nat) => xs[(((xs.size : Int) - 1) + (m : Int) * (-1)).toNat]?).toArray = xs.toList.reverse.toArray := by
  have e : (fun (m : Nat) => xs[(((xs.size : Int) - 1) + (m : Int) * (-1)).toNat]?) = (fun k => xs[k]?) ∘ fun m => xs.size - 1 - m := by
    funext m
    show _ = xs[xs.size - 1 - m]?
    congr 1
    omega
  rw [e, ← List.filterMap_map, PySem.W.krv_range, List.filterMap_reverse, PySem.W.krv_all]
theorem getItem_tuple_rev {t sl : Addr} {items : Array Value} {vs : Value} {Q : Value → Shared → Prop} (ht : IsTup s.heap t items) (hs : s.heap.IsSliceOf sl .none .none vs) (ps : IsPart vs (some (-1)))
    (h : Q (.ref s.heap.objs.size) { s with heap := s.heap.push { cls := .type "tuple", data := .seq items.toList.reverse.toArray } })
    (hsz : items.size ≤ sizeLine) : wpAny (model prog w) A (getItem (.ref t) (.ref sl)) Q E s := by
  have htake : sizeOk (.seq items.toList.reverse.toArray) := by
    show items.toList.reverse.toArray.size ≤ sizeLine
    rw [List.size_toArray, List.length_reverse, Array.length_toList]
    exact hsz
  obtain ⟨os, hos, hcs, hds⟩ := id hs
  have hTs : s.TypeIs (.ref sl) "slice" := ⟨os, hos, hcs⟩
  unfold getItem
  try with_reducible refine wpAny_holding ?_
  first | refine wpAny_bind (wpAny_pure ?_) | skip
  refine wpAny_bind (wpAny_sequenceKey ht.typeIs (by decide) ?_)
  refine wpAny_bind (wpAny_callSpecial?_slot (name := Str.ofString "__getitem__") ht.typeIs PyProof.Rows.slot_tuple_getitem
    (wpAny_call_entry PyProof.Rows.slot_tuple_getitem ht.typeIs entry_tuple_getitem ?_ (args_tuple_getitem _ _)))
  show wpAny _ _ (Builtin.Tuple.tupleItemsOf (.ref t) >>= _) _ _ s
  refine wpAny_bind (tupleItemsOf_ ht ?_)
  refine wpAny_bind (wpAny_typeOf hTs ?_)
  rw [if_pos (by decide)]
  refine wpAny_bind (sliceApplied_rev hs ps ?_)
  have hno : ¬ ((((items.size : Int) - 1) == 0 && (-1 : Int) == 1 && items.size == items.size) = true) := by
    intro q
    rw [Bool.and_eq_true, Bool.and_eq_true] at q
    exact absurd q.1.2 (by decide)
  show wpAny _ _ (if (((items.size : Int) - 1) == 0 && (-1 : Int) == 1 && items.size == items.size) = true then _ else _) _ _ s
  rw [if_neg hno, pick_rev]
  first
    | exact wpAny_bind (m := Builtin.Tuple.tupleExact _) (wpAny_newObj_type (wpAny_pure ⟨_, rfl, wpAny_pure h⟩) htake)
    | exact wpAny_bind (m := Builtin.Tuple.tupleExact _) (wpAny_newObj_type (wpAny_bind (wpAny_pure (wpAny_pure ⟨_, rfl, wpAny_pure h⟩))) htake)
    | exact wpAny_bind (wpAny_bind (m := Builtin.Tuple.tupleExact _) (wpAny_newObj_type (wpAny_pure (wpAny_pure ⟨_, rfl, wpAny_pure h⟩)) htake))
    | exact wpAny_bind (wpAny_bind (m := Builtin.Tuple.tupleExact _) (wpAny_newObj_type (wpAny_pure ⟨_, rfl, wpAny_pure h⟩) htake))
end
section
variable {W : Wc} {X : Cx}
def tRevA (K : PySem.W.Frag) (te : TE) : TE := fun σ H Q => te σ H fun x H1 => ∃ a xs, x = .ref a ∧ ((SqL K H1 a xs ∧ ∀ p, H1 p = none → Q (.ref p) (upd H1 p (.lst xs.reverse))) ∨ (SqT K H1 a xs ∧ ∀ p, H1 p = none → Q (.ref p) (upd H1 p (.tup xs.reverse))))
theorem pe_revA {e : Expr} {te : TE} {k : Nat} {p1 p2 p3 pos : Pos} (he : PE X e te) : PE X (.Subscript e (.Slice none none (some (.UnaryOp .USub (.Constant (.int 1) k p1) p2)) p3) pos) (tRevA X.K te) := by
  refine ⟨fun pins s σ H Q I h => ?_⟩
  refine Subscript_ (thn (he.run pins s σ H _ I h) fun v s1 ⟨x, H1, I1, r1, q1⟩ => ?_)
  obtain ⟨a, xs, ex, hx⟩ := q1
  subst ex
  cases r1
  have hst : PO X (some (.UnaryOp .USub (.Constant (.int 1) k p1) p2)) (tPart (tUn (rU fun i => .int (-i)) (tC (.int 1)))) := po_some (pe_un un_neg pe_int)
  refine wpAny_Slice (thn (po_none.run pins s1 σ H1 (fun o H2 => o = none ∧ H2 = H1) I1 ⟨rfl, rfl⟩) fun vl s2 ⟨l, H2, I2, pl, el, e2⟩ => ?_)
  subst el e2
  refine thn (po_none.run pins s2 σ H2 (fun o H3 => o = none ∧ H3 = H2) I2 ⟨rfl, rfl⟩) fun vu s3 ⟨u, H3, I3, pu, eu, e3⟩ => ?_
  subst eu e3
  refine thn (hst.run pins s3 σ H3 (fun o H4 => o = some (-1) ∧ H4 = H3) I3 ⟨1, rfl, -1, rfl, rfl, rfl⟩) fun vs s4 ⟨o, H4, I4, ps, eo, e4⟩ => ?_
  subst eo e4
  have I5 : Inv X pins σ H4 { s4 with heap := s4.heap.push { cls := .type "slice", data := .fields #[vl, vu, vs] } } := I4.kept (t' := s4.toks) fun b ob q => Heap.get?_push_of_some _ q
  show wpAny (model X.prog X.w) X.A (subscriptTail e (.Slice none none (some (.UnaryOp .USub (.Constant (.int 1) k p1) p2)) p3) (.ref a) (.ref s4.heap.objs.size)) (EP X pins σ Q) X.xe { s4 with heap := s4.heap.push { cls := .type "slice", data := .fields #[vl, vu, vs] } }
  rcases hx with ⟨hx, q⟩ | ⟨hx, q⟩
  · obtain ⟨its, r, ht, hz⟩ := I5.list hx
    have hlen := r.length
    refine tail_any (ops := [.ref a, .ref s4.heap.objs.size]) ht.isList.typeIs (PySem.slot_list_getitem.lookup) ?_ (by with_unfolding_all rfl)
    refine wpAny_getItem_list_slice ht.isList (Heap.IsSliceOf.new _ vl vu vs) pl pu ps (by decide) ?_ (by rw [List.size_toArray]; omega)
    rw [PySem.W.krv_pick]
    refine ⟨.ref _, _, I5.laid (t' := s4.toks) (o := .lst xs.reverse) (fun b ob q => Heap.get?_push_of_some _ q) (Nat.le_refl _) ?_, rfl, q _ (I5.hok.fresh (Nat.le_refl _))⟩
    exact ⟨by rw [List.length_reverse]; exact hz, _, 0, r.reverse, Heap.get?_push_size _ rfl⟩
  · obtain ⟨its, r, ht, hz⟩ := I5.tuple hx
    have hlen : its.toArray.size = xs.length := by rw [List.size_toArray]; exact r.length.symm
    cases pl
    cases pu
    refine tail_any (ops := [.ref a, .ref s4.heap.objs.size]) ht.typeIs PyProof.Rows.slot_tuple_getitem.lookup ?_ (by with_unfolding_all rfl)
    refine getItem_tuple_rev ht (Heap.IsSliceOf.new _ .none .none vs) ps ?_ (by rw [hlen]; exact hz)
    refine ⟨.ref _, _, I5.laid (t' := s4.toks) (o := .tup xs.reverse) (fun b ob q => Heap.get?_push_of_some _ q) (Nat.le_refl _) ?_, rfl, q _ (I5.hok.fresh (Nat.le_refl _))⟩
    exact ⟨by rw [List.length_reverse]; exact hz, _, r.reverse, IsTup.new _ _⟩
theorem se_rev {bb : Bool} {e : Expr} {c : E} {k : Nat} {p1 p2 p3 pos : Pos} (ha : SE W X true e c) : SE W X bb (.Subscript e (.Slice none none (some (.UnaryOp .USub (.Constant (.int 1) k p1) p2)) p3) pos) (.op1 .rev c) := by
  refine PE.imp (pe_revA ha) fun σ H Q ⟨C, F, md, ρ, κ, hb, s, q⟩ => ?_
  refine sub (b := true) (c := c) (f := fun x => opt (op1 .rev x)) hb s q fun x u H1 κ1 x1 s1 r1 _ q1 => ?_
  obtain ⟨d, e, q2⟩ := wpO_opt q1
  have e : revD x = some d := e
  have q3 : ∀ v H', _ := q2
  cases x with
  | tup ds =>
    cases e
    obtain ⟨a, vs, rfl, st, rs⟩ := rep_tup r1
    exact ⟨a, vs, rfl, .inr ⟨st.sq, fun p hp => q3 (.ref p) _ (x1.trans (Ext.upd hp)) (s1.cup.upd hp) (rep_new_tup hp rs.rev).toB fun _ => trivial⟩⟩
  | lst ds =>
    cases e
    obtain ⟨a, vs, rfl, _, st, rs⟩ := Rep.top r1
    refine ⟨a, vs, rfl, .inl ⟨.inl (.inl st), fun p hp => q3 (.ref p) _ (x1.trans (Ext.upd hp)) (s1.cup.upd hp) (rep_new_lst hp s1.cup s1.fh rs.rev).toB fun _ => ?_⟩⟩
    exact newTop_up (R := W.rc X C) x1 s1.cup (newT_lst hp s1.cup rs.rev)
  | _ => cases e
end
end MP
set_option Elab.async false
set_option linter.all false
set_option maxRecDepth 100000
set_option maxHeartbeats 2000000
/-! MP25: count. -/
namespace MP
open PySem PySem.Spec PyProof.Rows L2
section
variable {W : Wc} {X : Cx}
theorem no_way {α β : Type} {m : M α} {f : α → M β} {κ : MP.K} {P : β → MP.K → Prop} {Z : Exn → MP.K → Prop} (hz : ∀ x κ, ¬ Z x κ) (hf : ∀ a κ, f a κ = .bad) (h : wpO (bnd m f κ) P Z) : False := by
  have h := wpO_bnd h
  cases e : m κ with
  | ok a κ' => rw [e] at h; have h : wpO (f a κ') P Z := h; rw [hf] at h; exact h
  | exc x κ' => rw [e] at h; exact hz _ _ h
  | bad => rw [e] at h; exact h
theorem se_count {bb : Bool} {o e : Expr} {co ce : E} {apos cpos : Pos} (hX : ∀ x κ H, ¬ W.XW x κ H) (ho : SE W X false o co) (he : SE W X false e ce)
    (hbase : attributeBase o "count" X.env (eval o X.env) = eval o X.env := by rfl)
    (hfew : ((backTo cpos (starEach [e] X.env)).all (fun x => !x.1) && (backToKw cpos (keywordEach [] X.env)).all (fun x => x.1.isSome)
      && decide ([e].length + ([] : List Keyword).length + (if ([] : List Keyword).isEmpty then 0 else 1) < 30)) = true := by rfl)
    (hline : (apos.endLine == cpos.line) = true := by rfl) (hs : starEach [e] X.env = (false, eval e X.env) :: starEach [] X.env := by rfl) (hplain : (backTo cpos (starEach [] X.env)).any (·.1) = false := by rfl) :
    SE W X bb (.Call (.Attribute o "count" apos) [e] [] cpos) (.op2 .count co ce) := by
  refine PE.imp (pe_bm PySem.F.plainAttrs_list PySem.F.slot_list_count PySem.F.type_list_count mt_lcount ho (pa_cons he pa_nil hs) hbase hfew hline hs hplain) fun σ H Q ⟨C, F, md, ρ, κ, hb, s, q⟩ => ?_
  have hb' : okB false md co = true ∧ okB false md ce = true := Bool.and_eq_true_iff.mp hb
  refine sub (b := false) (c := co) (f := fun x => bnd (ev W.call ce ρ) fun y => op2M .count x y) hb'.1 s q fun x u H1 κ1 x1 s1 r1 _ q1 => ?_
  have hx : ∃ xs, x = .lst xs := by
    cases x with
    | lst xs => exact ⟨xs, rfl⟩
    | _ =>
      exfalso
      refine no_way (fun y κ' z => ?_) (fun y κ' => ?_) q1
      · obtain ⟨H2, x2, c2⟩ := some_cup (κ' := κ') s1.cup
        exact hX _ _ _ (z H2 x2 c2)
      · rfl
  obtain ⟨xs, rfl⟩ := hx
  obtain ⟨a, vs, rfl, _, ha, rs⟩ := RepB.top r1
  refine ⟨.inl ⟨rfl, vs, .inl (.inl ha)⟩, ?_⟩
  refine sub (b := false) (c := ce) (f := fun y => op2M .count (.lst xs) y) hb'.2 s1 q1 fun y v H2 κ2 x2 s2 r2 _ q2 => ?_
  obtain ⟨d, e, q3⟩ := wpO_opt (o := op2K .count (.lst xs) y κ2) q2
  have e : cntD (.lst xs) y = some d := e
  cases y with
  | int k =>
    obtain ⟨ns, en, rfl⟩ := Option.map_eq_some_iff.mp (show (intL xs).map (fun ns => MP.D.int (ns.count k : Nat)) = some d from e)
    obtain ⟨a', vs', e2, _, ha2, rs2⟩ := RepT.ext (R := W.rc X C) x2 (RepB.top r1)
    cases e2
    rw [intL_map en] at rs2
    rw [Reps.intL rs2] at ha2
    have ev : v = .int k := rT_int (RepB.top r2)
    subst ev
    have q4 : ∀ v H', _ := q3
    exact ⟨a, ns, k, rfl, rfl, .inl (.inl ha2), q4 _ H2 (x1.trans x2) s2.cup rep_int.toB fun z => by cases z⟩
  | _ => cases e
end
end MP
set_option linter.all false
set_option maxRecDepth 100000
/-! IRP: the defs that are alike in all laws. -/
namespace MP
def Nt (n : Nat) : D := .int (n : Int)
abbrev i_all_shapes : Nat := 7
abbrev i_always_keeps : Nat := 10
abbrev i_beaten_by : Nat := 24
abbrev i_beats : Nat := 25
abbrev i_beats_in : Nat := 26
abbrev i_can_keep : Nat := 39
abbrev i_depth_in : Nat := 56
abbrev i_depth_of : Nat := 57
abbrev i_entries_unlike : Nat := 66
abbrev i_fits_grouping : Nat := 93
abbrev i_fits_row : Nat := 103
abbrev i_fits_table : Nat := 107
abbrev i_fits_whole : Nat := 112
abbrev i_from_left : Nat := 118
abbrev i_from_left_in : Nat := 119
abbrev i_from_right : Nat := 120
abbrev i_from_right_in : Nat := 121
abbrev i_groupings_in : Nat := 133
abbrev i_groupings_many : Nat := 134
abbrev i_halved_in : Nat := 136
abbrev i_is_grouping : Nat := 160
abbrev i_is_row : Nat := 175
abbrev i_is_tuple_of : Nat := 183
abbrev i_joins_in__rows : Nat := 192
abbrev i_kept : Nat := 196
abbrev i_knocked_out : Nat := 201
abbrev i_mirrored : Nat := 223
abbrev i_mirrored_in : Nat := 224
abbrev i_need_alike__whole : Nat := 230
abbrev i_need_any_grouping : Nat := 231
abbrev i_need_both__outcomes : Nat := 236
abbrev i_need_grouping : Nat := 246
abbrev i_need_row : Nat := 252
abbrev i_need_table : Nat := 260
abbrev i_need_thing : Nat := 264
abbrev i_need_three__outcomes : Nat := 266
abbrev i_outcomes : Nat := 289
abbrev i_outcomes_in : Nat := 291
abbrev i_pair_in : Nat := 293
abbrev i_pair_of : Nat := 294
abbrev i_result : Nat := 324
abbrev i_result_in : Nat := 325
abbrev i_row_apart : Nat := 331
abbrev i_row_in : Nat := 332
abbrev i_row_of : Nat := 334
abbrev i_rows_apart : Nat := 337
abbrev i_shapes_within : Nat := 352
abbrev i_size_in : Nat := 363
abbrev i_spans_in : Nat := 365
abbrev i_steps_of : Nat := 371
abbrev i_turned : Nat := 393
abbrev i_ways : Nat := 404
abbrev i_ways_in : Nat := 405
abbrev i_within_in : Nat := 410
abbrev i__law_all_like : Nat := 425
abbrev i__law_back : Nat := 430
abbrev i__law_cup : Nat := 444
abbrev i__law_deepest : Nat := 447
abbrev i__law_depth : Nat := 448
abbrev i__law_group : Nat := 466
abbrev i__law_groups : Nat := 469
abbrev i__law_halved : Nat := 471
abbrev i__law_keeps : Nat := 484
abbrev i__law_less : Nat := 490
abbrev i__law_like : Nat := 491
abbrev i__law_outcomes : Nat := 509
abbrev i__law_roll : Nat := 524
abbrev i__law_row : Nat := 525
abbrev i__law_row_of : Nat := 526
abbrev i__law_same : Nat := 529
abbrev i__law_some : Nat := 540
abbrev i__law_table : Nat := 546
abbrev i_law : Nat := 569
def F_all_shapes : Fun := ⟨1, 1, (.cons (.ite (.op1 .not (.call i_fits_whole (.cons (.var 0) (.cons (.cst (Nt 1)) (.cons (.cst (Nt 7)) .nil))))) (.cons (.raise 5 (.cons (.cst (.str [110, 111, 116, 32, 104, 111, 119, 32, 109, 97, 110, 121, 32, 112, 108, 97, 99, 101, 115])) .nil)) .nil) .nil) (.cons (.ret (.op1 .tuple (.call i_groupings_in (.cons (.op2 .mul (.tup (.cons (.cst (Nt 0)) .nil)) (.var 0)) .nil)))) .nil))⟩
def F_always_keeps : Fun := ⟨3, 3, (.cons (.expr (.call i_need_three__outcomes (.cons (.var 0) (.cons (.var 1) (.cons (.var 2) .nil))))) (.cons (.ret (.op2 .eq (.call i_outcomes_in (.cons (.var 0) (.cons (.var 1) .nil))) (.lst (.cons (.var 2) .nil)))) .nil))⟩
def F_beaten_by : Fun := ⟨2, 3, (.cons (.expr (.call i_need_table (.cons (.var 0) .nil))) (.cons (.expr (.call i_need_thing (.cons (.var 0) (.cons (.var 1) .nil)))) (.cons (.ret (.op1 .tuple (.comp [2] (.cons (.nm 2) (.e (.op1 .range1 (.op1 .len (.var 0)))) (.cons (.call i_beats_in (.cons (.var 0) (.cons (.var 1) (.cons (.var 2) .nil)))) .nil) (.fin (.var 2)))))) .nil)))⟩
def F_beats : Fun := ⟨3, 3, (.cons (.expr (.call i_need_table (.cons (.var 0) .nil))) (.cons (.expr (.call i_need_thing (.cons (.var 0) (.cons (.var 1) .nil)))) (.cons (.expr (.call i_need_thing (.cons (.var 0) (.cons (.var 2) .nil)))) (.cons (.ret (.call i_beats_in (.cons (.var 0) (.cons (.var 1) (.cons (.var 2) .nil))))) .nil))))⟩
def F_beats_in : Fun := ⟨3, 3, (.cons (.ret (.and (.op2 .ne (.var 1) (.var 2)) (.and (.op2 .eq (.op2 .ix (.op2 .ix (.var 0) (.var 1)) (.var 2)) (.var 1)) (.op2 .eq (.op2 .ix (.op2 .ix (.var 0) (.var 2)) (.var 1)) (.var 1))))) .nil)⟩
def F_can_keep : Fun := ⟨3, 3, (.cons (.expr (.call i_need_three__outcomes (.cons (.var 0) (.cons (.var 1) (.cons (.var 2) .nil))))) (.cons (.ret (.op2 .isin (.var 2) (.call i_outcomes_in (.cons (.var 0) (.cons (.var 1) .nil))))) .nil))⟩
def F_depth_in : Fun := ⟨1, 2, (.cons (.ret (.ite (.isi (.var 0) .tuple) (.op2 .add (.cst (Nt 1)) (.op1 .maxl (.comp [1] (.cons (.nm 1) (.e (.var 0)) .nil (.fin (.call i_depth_in (.cons (.var 1) .nil))))))) (.cst (Nt 0)))) .nil)⟩
def F_depth_of : Fun := ⟨1, 1, (.cons (.expr (.call i_need_any_grouping (.cons (.var 0) .nil))) (.cons (.ret (.call i_depth_in (.cons (.var 0) .nil))) .nil))⟩
def F_entries_unlike : Fun := ⟨2, 5, (.cons (.expr (.call i_need_table (.cons (.var 0) .nil))) (.cons (.expr (.call i_need_table (.cons (.var 1) .nil))) (.cons (.ite (.op2 .ne (.op1 .len (.var 0)) (.op1 .len (.var 1))) (.cons (.raise 1 (.cons (.cst (.str [110, 111, 116, 32, 116, 97, 98, 108, 101, 115, 32, 111, 102, 32, 97, 115, 32, 109, 97, 110, 121, 32, 116, 104, 105, 110, 103, 115])) .nil)) .nil) .nil) (.cons (.asg (.nm 2) (.op1 .range1 (.op1 .len (.var 0)))) (.cons (.ret (.op1 .tuple (.comp [3, 4] (.cons (.nm 3) (.e (.var 2)) .nil (.cons (.nm 4) (.e (.var 2)) (.cons (.op2 .ne (.op2 .ix (.op2 .ix (.var 0) (.var 3)) (.var 4)) (.op2 .ix (.op2 .ix (.var 1) (.var 3)) (.var 4))) .nil) (.fin (.tup (.cons (.var 3) (.cons (.var 4) .nil))))))))) .nil)))))⟩
def F_fits_grouping : Fun := ⟨3, 4, (.cons (.ite (.call i_fits_whole (.cons (.var 0) (.cons (.cst (Nt 0)) (.cons (.op2 .sub (.var 1) (.cst (Nt 1))) .nil)))) (.cons (.ret (.cst (.bl true))) .nil) .nil) (.cons (.ite (.or (.op2 .eq (.var 2) (.cst (Nt 1))) (.op1 .not (.call i_is_tuple_of (.cons (.var 0) (.cons (.cst (Nt 2)) (.cons (.cst (Nt 2)) .nil)))))) (.cons (.ret (.cst (.bl false))) .nil) .nil) (.cons (.ret (.and (.op1 .all (.comp [3] (.cons (.nm 3) (.e (.var 0)) .nil (.fin (.call i_fits_grouping (.cons (.var 3) (.cons (.var 1) (.cons (.op2 .sub (.var 2) (.cst (Nt 1))) .nil)))))))) (.op2 .le (.call i_size_in (.cons (.var 0) .nil)) (.cst (Nt 10))))) .nil)))⟩
def F_fits_row : Fun := ⟨2, 3, (.cons (.ret (.and (.call i_is_tuple_of (.cons (.var 0) (.cons (.cst (Nt 1)) (.cons (.cst (Nt 10)) .nil)))) (.op1 .all (.comp [2] (.cons (.nm 2) (.e (.var 0)) .nil (.fin (.call i_fits_whole (.cons (.var 2) (.cons (.cst (Nt 0)) (.cons (.op2 .sub (.var 1) (.cst (Nt 1))) .nil)))))))))) .nil)⟩
def F_fits_table : Fun := ⟨1, 6, (.cons (.ite (.or (.op1 .not (.call i_is_tuple_of (.cons (.var 0) (.cons (.cst (Nt 1)) (.cons (.cst (Nt 5)) .nil))))) (.op1 .not (.op1 .all (.comp [4] (.cons (.nm 4) (.e (.var 0)) .nil (.fin (.call i_is_tuple_of (.cons (.var 4) (.cons (.op1 .len (.var 0)) (.cons (.op1 .len (.var 0)) .nil)))))))))) (.cons (.ret (.cst (.bl false))) .nil) .nil) (.cons (.asg (.nm 1) (.op1 .range1 (.op1 .len (.var 0)))) (.cons (.ite (.op1 .not (.op1 .all (.comp [3] (.cons (.nm 3) (.e (.var 0)) .nil (.fin (.op1 .all (.comp [4] (.cons (.nm 4) (.e (.var 3)) .nil (.fin (.call i_fits_whole (.cons (.var 4) (.cons (.cst (Nt 0)) (.cons (.op2 .sub (.op1 .len (.var 0)) (.cst (Nt 1))) .nil))))))))))))) (.cons (.ret (.cst (.bl false))) .nil) .nil) (.cons (.ret (.op1 .all (.comp [2] (.cons (.nm 2) (.e (.var 1)) .nil (.fin (.op1 .all (.comp [5] (.cons (.nm 5) (.e (.var 1)) .nil (.fin (.op2 .isin (.op2 .ix (.op2 .ix (.var 0) (.var 2)) (.var 5)) (.tup (.cons (.var 2) (.cons (.var 5) .nil))))))))))))) .nil))))⟩
def F_fits_whole : Fun := ⟨3, 3, (.cons (.ret (.and (.isi (.var 0) .int) (.and (.op1 .not (.isi (.var 0) .bool)) (.cmp2 .le .le (.var 1) (.var 0) (.var 2))))) .nil)⟩
def F_from_left : Fun := ⟨2, 2, (.cons (.expr (.call i_need_table (.cons (.var 0) .nil))) (.cons (.expr (.call i_need_row (.cons (.var 0) (.cons (.var 1) .nil)))) (.cons (.ret (.call i_result_in (.cons (.var 0) (.cons (.call i_from_left_in (.cons (.var 1) .nil)) .nil)))) .nil)))⟩
def F_from_left_in : Fun := ⟨1, 3, (.cons (.asg (.nm 1) (.op2 .ix (.var 0) (.cst (Nt 0)))) (.cons (.for_ (.nm 2) (.e (.op2 .slA (.var 0) (.cst (Nt 1)))) (.cons (.asg (.nm 1) (.tup (.cons (.var 1) (.cons (.var 2) .nil)))) .nil)) (.cons (.ret (.var 1)) .nil)))⟩
def F_from_right : Fun := ⟨2, 2, (.cons (.expr (.call i_need_table (.cons (.var 0) .nil))) (.cons (.expr (.call i_need_row (.cons (.var 0) (.cons (.var 1) .nil)))) (.cons (.ret (.call i_result_in (.cons (.var 0) (.cons (.call i_from_right_in (.cons (.var 1) .nil)) .nil)))) .nil)))⟩
def F_from_right_in : Fun := ⟨1, 3, (.cons (.asg (.nm 1) (.op2 .ix (.var 0) (.op1 .neg (.cst (Nt 1))))) (.cons (.for_ (.nm 2) (.e (.op1 .rev (.op2 .slB (.var 0) (.op1 .neg (.cst (Nt 1)))))) (.cons (.asg (.nm 1) (.tup (.cons (.var 2) (.cons (.var 1) .nil)))) .nil)) (.cons (.ret (.var 1)) .nil)))⟩
def F_groupings_in : Fun := ⟨1, 5, (.cons (.ite (.op2 .eq (.op1 .len (.var 0)) (.cst (Nt 1))) (.cons (.ret (.lst (.cons (.op2 .ix (.var 0) (.cst (Nt 0))) .nil))) .nil) .nil) (.cons (.asg (.nm 1) (.lst .nil)) (.cons (.for_ (.nm 2) (.e (.op2 .range2 (.cst (Nt 1)) (.op1 .len (.var 0)))) (.cons (.ext 1 (.comp [3, 4] (.cons (.nm 3) (.e (.call i_groupings_in (.cons (.op2 .slB (.var 0) (.var 2)) .nil))) .nil (.cons (.nm 4) (.e (.call i_groupings_in (.cons (.op2 .slA (.var 0) (.var 2)) .nil))) .nil (.fin (.tup (.cons (.var 3) (.cons (.var 4) .nil)))))))) .nil)) (.cons (.ret (.var 1)) .nil))))⟩
def F_groupings_many : Fun := ⟨1, 3, (.cons (.ite (.op1 .not (.call i_fits_whole (.cons (.var 0) (.cons (.cst (Nt 1)) (.cons (.cst (Nt 10)) .nil))))) (.cons (.raise 5 (.cons (.cst (.str [110, 111, 116, 32, 104, 111, 119, 32, 109, 97, 110, 121, 32, 116, 104, 105, 110, 103, 115])) .nil)) .nil) .nil) (.cons (.asg (.nm 1) (.lst (.cons (.cst (Nt 0)) (.cons (.cst (Nt 1)) .nil)))) (.cons (.whl (.op2 .le (.op1 .len (.var 1)) (.var 0)) (.cons (.app 1 (.op1 .sum (.comp [2] (.cons (.nm 2) (.e (.op2 .range2 (.cst (Nt 1)) (.op1 .len (.var 1)))) .nil (.fin (.op2 .mul (.op2 .ix (.var 1) (.var 2)) (.op2 .ix (.var 1) (.op2 .sub (.op1 .len (.var 1)) (.var 2))))))))) .nil)) (.cons (.ret (.op2 .ix (.var 1) (.var 0))) .nil))))⟩
def F_halved_in : Fun := ⟨1, 2, (.cons (.ite (.op2 .eq (.op1 .len (.var 0)) (.cst (Nt 1))) (.cons (.ret (.op2 .ix (.var 0) (.cst (Nt 0)))) .nil) .nil) (.cons (.asg (.nm 1) (.op2 .fdiv (.op2 .add (.op1 .len (.var 0)) (.cst (Nt 1))) (.cst (Nt 2)))) (.cons (.ret (.tup (.cons (.call i_halved_in (.cons (.op2 .slB (.var 0) (.var 1)) .nil)) (.cons (.call i_halved_in (.cons (.op2 .slA (.var 0) (.var 1)) .nil)) .nil)))) .nil)))⟩
def F_is_grouping : Fun := ⟨1, 1, (.cons (.ret (.call i_fits_grouping (.cons (.var 0) (.cons (.cst (Nt 5)) (.cons (.cst (Nt 10)) .nil))))) .nil)⟩
def F_is_row : Fun := ⟨1, 1, (.cons (.ret (.call i_fits_row (.cons (.var 0) (.cons (.cst (Nt 5)) .nil)))) .nil)⟩
def F_is_tuple_of : Fun := ⟨3, 3, (.cons (.ret (.and (.isi (.var 0) .tuple) (.cmp2 .le .le (.var 1) (.op1 .len (.var 0)) (.var 2)))) .nil)⟩
def F_joins_in__rows : Fun := ⟨2, 5, (.cons (.ite (.op1 .not (.isi (.var 1) .tuple)) (.cons (.ret (.lst .nil)) .nil) .nil) (.cons (.asg (.t2 (.nm 2) (.nm 3)) (.comp [4] (.cons (.nm 4) (.e (.var 1)) .nil (.fin (.call i_result_in (.cons (.var 0) (.cons (.var 4) .nil))))))) (.cons (.ret (.op2 .add (.op2 .add (.call i_joins_in__rows (.cons (.var 0) (.cons (.op2 .ix (.var 1) (.cst (Nt 0))) .nil))) (.call i_joins_in__rows (.cons (.var 0) (.cons (.op2 .ix (.var 1) (.cst (Nt 1))) .nil)))) (.lst (.cons (.tup (.cons (.var 2) (.cons (.var 3) (.cons (.op2 .ix (.op2 .ix (.var 0) (.var 2)) (.var 3)) .nil)))) .nil)))) .nil)))⟩
def F_kept : Fun := ⟨3, 3, (.cons (.expr (.call i_need_table (.cons (.var 0) .nil))) (.cons (.expr (.call i_need_thing (.cons (.var 0) (.cons (.var 1) .nil)))) (.cons (.expr (.call i_need_thing (.cons (.var 0) (.cons (.var 2) .nil)))) (.cons (.ret (.op2 .ix (.op2 .ix (.var 0) (.var 1)) (.var 2))) .nil))))⟩
def F_knocked_out : Fun := ⟨2, 2, (.cons (.expr (.call i_need_table (.cons (.var 0) .nil))) (.cons (.expr (.call i_need_row (.cons (.var 0) (.cons (.var 1) .nil)))) (.cons (.ret (.call i_result_in (.cons (.var 0) (.cons (.call i_halved_in (.cons (.var 1) .nil)) .nil)))) .nil)))⟩
def F_mirrored : Fun := ⟨1, 1, (.cons (.expr (.call i_need_any_grouping (.cons (.var 0) .nil))) (.cons (.ret (.call i_mirrored_in (.cons (.var 0) .nil))) .nil))⟩
def F_mirrored_in : Fun := ⟨1, 1, (.cons (.ret (.ite (.isi (.var 0) .tuple) (.tup (.cons (.call i_mirrored_in (.cons (.op2 .ix (.var 0) (.cst (Nt 1))) .nil)) (.cons (.call i_mirrored_in (.cons (.op2 .ix (.var 0) (.cst (Nt 0))) .nil)) .nil))) (.var 0))) .nil)⟩
def F_need_alike__whole : Fun := ⟨2, 2, (.cons (.expr (.call i_need_table (.cons (.var 0) .nil))) (.cons (.expr (.call i_need_table (.cons (.var 1) .nil))) (.cons (.ite (.op2 .ne (.op1 .len (.var 0)) (.op1 .len (.var 1))) (.cons (.raise 1 (.cons (.cst (.str [110, 111, 116, 32, 116, 97, 98, 108, 101, 115, 32, 111, 102, 32, 97, 115, 32, 109, 97, 110, 121, 32, 116, 104, 105, 110, 103, 115])) .nil)) .nil) .nil) .nil)))⟩
def F_need_any_grouping : Fun := ⟨1, 1, (.cons (.ite (.op1 .not (.call i_fits_grouping (.cons (.var 0) (.cons (.cst (Nt 5)) (.cons (.cst (Nt 10)) .nil))))) (.cons (.raise 3 (.cons (.cst (.str [110, 111, 116, 32, 97, 32, 103, 114, 111, 117, 112, 105, 110, 103])) .nil)) .nil) .nil) .nil)⟩
def F_need_both__outcomes : Fun := ⟨2, 2, (.cons (.expr (.call i_need_table (.cons (.var 0) .nil))) (.cons (.expr (.call i_need_row (.cons (.var 0) (.cons (.var 1) .nil)))) .nil))⟩
def F_need_grouping : Fun := ⟨2, 2, (.cons (.ite (.op1 .not (.call i_fits_grouping (.cons (.var 1) (.cons (.op1 .len (.var 0)) (.cons (.cst (Nt 10)) .nil))))) (.cons (.raise 3 (.cons (.cst (.str [110, 111, 116, 32, 97, 32, 103, 114, 111, 117, 112, 105, 110, 103])) .nil)) .nil) .nil) .nil)⟩
def F_need_row : Fun := ⟨2, 2, (.cons (.ite (.op1 .not (.call i_fits_row (.cons (.var 1) (.cons (.op1 .len (.var 0)) .nil)))) (.cons (.raise 2 (.cons (.cst (.str [110, 111, 116, 32, 97, 32, 114, 111, 119])) .nil)) .nil) .nil) .nil)⟩
def F_need_table : Fun := ⟨1, 1, (.cons (.ite (.op1 .not (.call i_fits_table (.cons (.var 0) .nil))) (.cons (.raise 1 (.cons (.cst (.str [110, 111, 116, 32, 97, 32, 116, 97, 98, 108, 101])) .nil)) .nil) .nil) .nil)⟩
def F_need_thing : Fun := ⟨2, 2, (.cons (.ite (.op1 .not (.call i_fits_whole (.cons (.var 1) (.cons (.cst (Nt 0)) (.cons (.op2 .sub (.op1 .len (.var 0)) (.cst (Nt 1))) .nil))))) (.cons (.raise 5 (.cons (.cst (.str [110, 111, 116, 32, 97, 32, 116, 104, 105, 110, 103])) .nil)) .nil) .nil) .nil)⟩
def F_need_three__outcomes : Fun := ⟨3, 3, (.cons (.expr (.call i_need_both__outcomes (.cons (.var 0) (.cons (.var 1) .nil)))) (.cons (.expr (.call i_need_thing (.cons (.var 0) (.cons (.var 2) .nil)))) .nil))⟩
def F_outcomes : Fun := ⟨2, 2, (.cons (.expr (.call i_need_both__outcomes (.cons (.var 0) (.cons (.var 1) .nil)))) (.cons (.ret (.op1 .tuple (.call i_outcomes_in (.cons (.var 0) (.cons (.var 1) .nil))))) .nil))⟩
def F_outcomes_in : Fun := ⟨2, 5, (.cons (.asg (.nm 2) (.op2 .ix (.call i_ways_in (.cons (.var 0) (.cons (.var 1) .nil))) (.tup (.cons (.cst (Nt 0)) (.cons (.op1 .len (.var 1)) .nil))))) (.cons (.ret (.comp [3, 4] (.cons (.t2 (.nm 3) (.nm 4)) (.enum (.var 2)) (.cons (.op2 .gt (.var 4) (.cst (Nt 0))) .nil) (.fin (.var 3))))) .nil))⟩
def F_pair_in : Fun := ⟨3, 3, (.cons (.ite (.op2 .eq (.op2 .ix (.op2 .ix (.var 0) (.var 1)) (.var 2)) (.op2 .ix (.op2 .ix (.var 0) (.var 2)) (.var 1))) (.cons (.ret (.op2 .ix (.op2 .ix (.var 0) (.var 1)) (.var 2))) .nil) .nil) (.cons (.ret (.ite (.op2 .eq (.op2 .ix (.op2 .ix (.var 0) (.var 1)) (.var 2)) (.var 1)) (.cst (.str [102, 105, 114, 115, 116])) (.cst (.str [108, 97, 115, 116])))) .nil))⟩
def F_pair_of : Fun := ⟨3, 3, (.cons (.expr (.call i_need_table (.cons (.var 0) .nil))) (.cons (.expr (.call i_need_thing (.cons (.var 0) (.cons (.var 1) .nil)))) (.cons (.expr (.call i_need_thing (.cons (.var 0) (.cons (.var 2) .nil)))) (.cons (.ite (.op2 .eq (.var 1) (.var 2)) (.cons (.raise 5 (.cons (.cst (.str [110, 111, 116, 32, 117, 110, 108, 105, 107, 101, 32, 116, 104, 105, 110, 103, 115])) .nil)) .nil) .nil) (.cons (.ret (.call i_pair_in (.cons (.var 0) (.cons (.var 1) (.cons (.var 2) .nil))))) .nil)))))⟩
def F_result : Fun := ⟨2, 2, (.cons (.expr (.call i_need_table (.cons (.var 0) .nil))) (.cons (.expr (.call i_need_grouping (.cons (.var 0) (.cons (.var 1) .nil)))) (.cons (.ret (.call i_result_in (.cons (.var 0) (.cons (.var 1) .nil)))) .nil)))⟩
def F_result_in : Fun := ⟨2, 2, (.cons (.ite (.op1 .not (.isi (.var 1) .tuple)) (.cons (.ret (.var 1)) .nil) .nil) (.cons (.ret (.op2 .ix (.op2 .ix (.var 0) (.call i_result_in (.cons (.var 0) (.cons (.op2 .ix (.var 1) (.cst (Nt 0))) .nil)))) (.call i_result_in (.cons (.var 0) (.cons (.op2 .ix (.var 1) (.cst (Nt 1))) .nil))))) .nil))⟩
def F_row_apart : Fun := ⟨2, 6, (.cons (.expr (.call i_need_alike__whole (.cons (.var 0) (.cons (.var 1) .nil)))) (.cons (.asg (.nm 2) (.op1 .list (.op1 .range1 (.op1 .len (.var 0))))) (.cons (.asg (.nm 3) (.comp [4, 5] (.cons (.nm 4) (.e (.var 2)) .nil (.cons (.nm 5) (.e (.var 2)) (.cons (.op2 .ne (.op2 .ix (.op2 .ix (.var 0) (.var 4)) (.var 5)) (.op2 .ix (.op2 .ix (.var 1) (.var 4)) (.var 5))) .nil) (.fin (.tup (.cons (.var 4) (.cons (.var 5) .nil)))))))) (.cons (.ret (.ite (.op2 .ne (.var 3) (.lst .nil)) (.op2 .ix (.var 3) (.cst (Nt 0))) (.cst .non))) .nil))))⟩
def F_row_in : Fun := ⟨1, 1, (.cons (.ret (.ite (.isi (.var 0) .tuple) (.op2 .add (.call i_row_in (.cons (.op2 .ix (.var 0) (.cst (Nt 0))) .nil)) (.call i_row_in (.cons (.op2 .ix (.var 0) (.cst (Nt 1))) .nil))) (.tup (.cons (.var 0) .nil)))) .nil)⟩
def F_row_of : Fun := ⟨1, 1, (.cons (.expr (.call i_need_any_grouping (.cons (.var 0) .nil))) (.cons (.ret (.call i_row_in (.cons (.var 0) .nil))) .nil))⟩
def F_rows_apart : Fun := ⟨3, 5, (.cons (.expr (.call i_need_alike__whole (.cons (.var 0) (.cons (.var 1) .nil)))) (.cons (.ite (.or (.op1 .not (.call i_is_tuple_of (.cons (.var 2) (.cons (.cst (Nt 0)) (.cons (.cst (Nt 20)) .nil))))) (.op1 .not (.op1 .all (.comp [4] (.cons (.nm 4) (.e (.var 2)) .nil (.fin (.call i_fits_row (.cons (.var 4) (.cons (.op1 .len (.var 0)) .nil))))))))) (.cons (.raise 2 (.cons (.cst (.str [110, 111, 116, 32, 114, 111, 119, 115])) .nil)) .nil) .nil) (.cons (.ret (.op1 .tuple (.comp [3] (.cons (.nm 3) (.e (.var 2)) (.cons (.op2 .ne (.call i_outcomes_in (.cons (.var 0) (.cons (.var 3) .nil))) (.call i_outcomes_in (.cons (.var 1) (.cons (.var 3) .nil)))) .nil) (.fin (.var 3)))))) .nil)))⟩
def F_shapes_within : Fun := ⟨2, 2, (.cons (.ite (.or (.op1 .not (.call i_fits_whole (.cons (.var 0) (.cons (.cst (Nt 1)) (.cons (.cst (Nt 10)) .nil))))) (.op1 .not (.call i_fits_whole (.cons (.var 1) (.cons (.cst (Nt 0)) (.cons (.cst (Nt 10)) .nil)))))) (.cons (.raise 5 (.cons (.cst (.str [110, 111, 116, 32, 104, 111, 119, 32, 109, 97, 110, 121, 32, 112, 108, 97, 99, 101, 115, 44, 32, 111, 114, 32, 104, 111, 119, 32, 100, 101, 101, 112])) .nil)) .nil) .nil) (.cons (.ret (.op2 .ix (.call i_within_in (.cons (.var 0) (.cons (.var 1) .nil))) (.var 0))) .nil))⟩
def F_size_in : Fun := ⟨1, 2, (.cons (.ret (.ite (.isi (.var 0) .tuple) (.op1 .sum (.comp [1] (.cons (.nm 1) (.e (.var 0)) .nil (.fin (.call i_size_in (.cons (.var 1) .nil)))))) (.cst (Nt 1)))) .nil)⟩
def F_spans_in : Fun := ⟨1, 4, (.cons (.asg (.nm 1) (.op1 .len (.var 0))) (.cons (.ret (.comp [2, 3] (.cons (.nm 2) (.e (.op2 .range2 (.cst (Nt 1)) (.op2 .add (.var 1) (.cst (Nt 1))))) .nil (.cons (.nm 3) (.e (.op1 .range1 (.op2 .add (.op2 .sub (.var 1) (.var 2)) (.cst (Nt 1))))) .nil (.fin (.tup (.cons (.var 3) (.cons (.op2 .add (.var 3) (.var 2)) .nil)))))))) .nil))⟩
def F_steps_of : Fun := ⟨2, 2, (.cons (.expr (.call i_need_table (.cons (.var 0) .nil))) (.cons (.expr (.call i_need_grouping (.cons (.var 0) (.cons (.var 1) .nil)))) (.cons (.ret (.op1 .tuple (.call i_joins_in__rows (.cons (.var 0) (.cons (.var 1) .nil))))) .nil)))⟩
def F_turned : Fun := ⟨1, 4, (.cons (.expr (.call i_need_table (.cons (.var 0) .nil))) (.cons (.asg (.nm 1) (.op1 .range1 (.op1 .len (.var 0)))) (.cons (.ret (.op1 .tuple (.comp [2] (.cons (.nm 2) (.e (.var 1)) .nil (.fin (.op1 .tuple (.comp [3] (.cons (.nm 3) (.e (.var 1)) .nil (.fin (.op2 .ix (.op2 .ix (.var 0) (.var 3)) (.var 2))))))))))) .nil)))⟩
def F_ways : Fun := ⟨2, 2, (.cons (.expr (.call i_need_both__outcomes (.cons (.var 0) (.cons (.var 1) .nil)))) (.cons (.ret (.op1 .tuple (.op2 .ix (.call i_ways_in (.cons (.var 0) (.cons (.var 1) .nil))) (.tup (.cons (.cst (Nt 0)) (.cons (.op1 .len (.var 1)) .nil)))))) .nil))⟩
def F_ways_in : Fun := ⟨2, 11, (.cons (.asg (.nm 2) (.dct true .nil)) (.cons (.for_ (.t2 (.nm 3) (.nm 4)) (.e (.call i_spans_in (.cons (.var 1) .nil))) (.cons (.asg (.nm 5) (.op2 .mul (.lst (.cons (.cst (Nt 0)) .nil)) (.op1 .len (.var 0)))) (.cons (.ite (.op2 .eq (.op2 .sub (.var 4) (.var 3)) (.cst (Nt 1))) (.cons (.set1 5 (.op2 .ix (.var 1) (.var 3)) (.cst (Nt 1))) .nil) .nil) (.cons (.for_ (.nm 6) (.e (.op2 .range2 (.op2 .add (.var 3) (.cst (Nt 1))) (.var 4))) (.cons (.for_ (.t2 (.nm 7) (.nm 8)) (.enum (.op2 .ix (.var 2) (.tup (.cons (.var 3) (.cons (.var 6) .nil))))) (.cons (.for_ (.t2 (.nm 9) (.nm 10)) (.enum (.op2 .ix (.var 2) (.tup (.cons (.var 6) (.cons (.var 4) .nil))))) (.cons (.aug1 5 (.op2 .ix (.op2 .ix (.var 0) (.var 7)) (.var 9)) .add (.op2 .mul (.var 8) (.var 10))) .nil)) .nil)) .nil)) (.cons (.set1 2 (.tup (.cons (.var 3) (.cons (.var 4) .nil))) (.var 5)) .nil))))) (.cons (.ret (.var 2)) .nil)))⟩
def F_within_in : Fun := ⟨2, 7, (.cons (.asg (.nm 2) (.op2 .add (.lst (.cons (.cst (Nt 0)) (.cons (.cst (Nt 1)) .nil))) (.op2 .mul (.lst (.cons (.cst (Nt 0)) .nil)) (.op2 .sub (.var 0) (.cst (Nt 1)))))) (.cons (.for_ (.nm 3) (.e (.op1 .range1 (.var 1))) (.cons (.asg (.nm 4) (.lst (.cons (.cst (Nt 0)) (.cons (.cst (Nt 1)) .nil)))) (.cons (.for_ (.nm 5) (.e (.op2 .range2 (.cst (Nt 2)) (.op2 .add (.var 0) (.cst (Nt 1))))) (.cons (.app 4 (.op1 .sum (.comp [6] (.cons (.nm 6) (.e (.op2 .range2 (.cst (Nt 1)) (.var 5))) .nil (.fin (.op2 .mul (.op2 .ix (.var 2) (.var 6)) (.op2 .ix (.var 2) (.op2 .sub (.var 5) (.var 6))))))))) .nil)) (.cons (.asg (.nm 2) (.var 4)) .nil)))) (.cons (.ret (.var 2)) .nil)))⟩
def F__law_all_like : Fun := ⟨2, 3, (.cons (.ret (.and (.isi (.var 0) .tuple) (.and (.op2 .eq (.op1 .len (.var 0)) (.op1 .len (.var 1))) (.op2 .eq (.comp [2] (.cons (.nm 2) (.e (.op1 .range1 (.op1 .len (.var 1)))) (.cons (.op1 .not (.call i__law_like (.cons (.op2 .ix (.var 0) (.var 2)) (.cons (.op2 .ix (.var 1) (.var 2)) .nil)))) .nil) (.fin (.var 2)))) (.lst .nil))))) .nil)⟩
def F__law_back : Fun := ⟨1, 1, (.cons (.ret (.ite (.isi (.var 0) .tuple) (.tup (.cons (.call i__law_back (.cons (.op2 .ix (.var 0) (.cst (Nt 1))) .nil)) (.cons (.call i__law_back (.cons (.op2 .ix (.var 0) (.cst (Nt 0))) .nil)) .nil))) (.var 0))) .nil)⟩
def F__law_deepest : Fun := ⟨1, 1, (.cons (.ret (.ite (.isi (.var 0) .tuple) (.op2 .add (.cst (Nt 1)) (.op2 .max2 (.call i__law_deepest (.cons (.op2 .ix (.var 0) (.cst (Nt 0))) .nil)) (.call i__law_deepest (.cons (.op2 .ix (.var 0) (.cst (Nt 1))) .nil)))) (.cst (Nt 0)))) .nil)⟩
def F__law_depth : Fun := ⟨1, 2, (.cons (.ret (.ite (.isi (.var 0) .tuple) (.op2 .add (.cst (Nt 1)) (.op1 .maxl (.comp [1] (.cons (.nm 1) (.e (.var 0)) .nil (.fin (.call i__law_depth (.cons (.var 1) .nil))))))) (.cst (Nt 0)))) .nil)⟩
def F__law_group : Fun := ⟨2, 3, (.cons (.ite (.op2 .eq (.op1 .len (.var 1)) (.cst (Nt 1))) (.cons (.ret (.op2 .ix (.var 1) (.cst (Nt 0)))) .nil) .nil) (.cons (.asg (.nm 2) (.op2 .add (.cst (Nt 1)) (.call i__law_roll (.cons (.var 0) (.cons (.op2 .sub (.op1 .len (.var 1)) (.cst (Nt 1))) .nil))))) (.cons (.ret (.tup (.cons (.call i__law_group (.cons (.var 0) (.cons (.op2 .slB (.var 1) (.var 2)) .nil))) (.cons (.call i__law_group (.cons (.var 0) (.cons (.op2 .slA (.var 1) (.var 2)) .nil))) .nil)))) .nil)))⟩
def F__law_groups : Fun := ⟨1, 5, (.cons (.ite (.op2 .eq (.op1 .len (.var 0)) (.cst (Nt 1))) (.cons (.ret (.lst (.cons (.op2 .ix (.var 0) (.cst (Nt 0))) .nil))) .nil) .nil) (.cons (.asg (.nm 1) (.lst .nil)) (.cons (.for_ (.nm 2) (.e (.op2 .range2 (.cst (Nt 1)) (.op1 .len (.var 0)))) (.cons (.for_ (.nm 3) (.e (.call i__law_groups (.cons (.op2 .slB (.var 0) (.var 2)) .nil))) (.cons (.asg (.nm 1) (.op2 .add (.var 1) (.comp [4] (.cons (.nm 4) (.e (.call i__law_groups (.cons (.op2 .slA (.var 0) (.var 2)) .nil))) .nil (.fin (.tup (.cons (.var 3) (.cons (.var 4) .nil)))))))) .nil)) .nil)) (.cons (.ret (.var 1)) .nil))))⟩
def F__law_halved : Fun := ⟨1, 2, (.cons (.ite (.op2 .eq (.op1 .len (.var 0)) (.cst (Nt 1))) (.cons (.ret (.op2 .ix (.var 0) (.cst (Nt 0)))) .nil) .nil) (.cons (.asg (.nm 1) (.op2 .sub (.op1 .len (.var 0)) (.op2 .fdiv (.op1 .len (.var 0)) (.cst (Nt 2))))) (.cons (.ret (.tup (.cons (.call i__law_halved (.cons (.op2 .slB (.var 0) (.var 1)) .nil)) (.cons (.call i__law_halved (.cons (.op2 .slA (.var 0) (.var 1)) .nil)) .nil)))) .nil)))⟩
def F__law_keeps : Fun := ⟨2, 2, (.cons (.ite (.isi (.var 1) .tuple) (.cons (.ret (.op2 .ix (.op2 .ix (.var 0) (.call i__law_keeps (.cons (.var 0) (.cons (.op2 .ix (.var 1) (.cst (Nt 0))) .nil)))) (.call i__law_keeps (.cons (.var 0) (.cons (.op2 .ix (.var 1) (.cst (Nt 1))) .nil))))) .nil) .nil) (.cons (.ret (.var 1)) .nil))⟩
def F__law_less : Fun := ⟨2, 3, (.cons (.ite (.op2 .eq (.var 0) (.cst (Nt 1))) (.cons (.ret (.cst (Nt 1))) .nil) .nil) (.cons (.ret (.ite (.op2 .gt (.var 1) (.cst (Nt 0))) (.op1 .sum (.comp [2] (.cons (.nm 2) (.e (.op2 .range2 (.cst (Nt 1)) (.var 0))) .nil (.fin (.op2 .mul (.call i__law_less (.cons (.var 2) (.cons (.op2 .sub (.var 1) (.cst (Nt 1))) .nil))) (.call i__law_less (.cons (.op2 .sub (.var 0) (.var 2)) (.cons (.op2 .sub (.var 1) (.cst (Nt 1))) .nil)))))))) (.cst (Nt 0)))) .nil))⟩
def F__law_like : Fun := ⟨2, 2, (.cons (.ite (.isi (.var 1) .tuple) (.cons (.ret (.and (.isi (.var 0) .tuple) (.and (.op2 .eq (.op1 .len (.var 0)) (.cst (Nt 2))) (.and (.call i__law_like (.cons (.op2 .ix (.var 0) (.cst (Nt 0))) (.cons (.op2 .ix (.var 1) (.cst (Nt 0))) .nil))) (.call i__law_like (.cons (.op2 .ix (.var 0) (.cst (Nt 1))) (.cons (.op2 .ix (.var 1) (.cst (Nt 1))) .nil))))))) .nil) .nil) (.cons (.ret (.call i__law_same (.cons (.var 0) (.cons (.var 1) .nil)))) .nil))⟩
def F__law_outcomes : Fun := ⟨2, 5, (.cons (.asg (.nm 2) (.comp [3] (.cons (.nm 3) (.e (.call i__law_groups (.cons (.var 1) .nil))) .nil (.fin (.call i__law_keeps (.cons (.var 0) (.cons (.var 3) .nil))))))) (.cons (.ret (.op1 .tuple (.comp [4] (.cons (.nm 4) (.e (.op1 .range1 (.op1 .len (.var 0)))) (.cons (.op2 .isin (.var 4) (.var 2)) .nil) (.fin (.var 4)))))) .nil))⟩
def F__law_row : Fun := ⟨3, 4, (.cons (.ret (.op1 .tuple (.comp [3] (.cons (.nm 3) (.e (.op1 .range1 (.op2 .add (.cst (Nt 1)) (.call i__law_roll (.cons (.var 0) (.cons (.var 2) .nil)))))) .nil (.fin (.call i__law_roll (.cons (.var 0) (.cons (.var 1) .nil)))))))) .nil)⟩
def F__law_row_of : Fun := ⟨1, 1, (.cons (.ret (.ite (.isi (.var 0) .tuple) (.op2 .add (.call i__law_row_of (.cons (.op2 .ix (.var 0) (.cst (Nt 0))) .nil)) (.call i__law_row_of (.cons (.op2 .ix (.var 0) (.cst (Nt 1))) .nil))) (.tup (.cons (.var 0) .nil)))) .nil)⟩
def F__law_same : Fun := ⟨2, 3, (.cons (.ite (.isi (.var 1) .tuple) (.cons (.ite (.or (.op1 .not (.isi (.var 0) .tuple)) (.op2 .ne (.op1 .len (.var 0)) (.op1 .len (.var 1)))) (.cons (.ret (.cst (.bl false))) .nil) .nil) (.cons (.ret (.op1 .all (.comp [2] (.cons (.nm 2) (.e (.op1 .range1 (.op1 .len (.var 1)))) .nil (.fin (.call i__law_same (.cons (.op2 .ix (.var 0) (.var 2)) (.cons (.op2 .ix (.var 1) (.var 2)) .nil)))))))) .nil)) .nil) (.cons (.ite (.op2 .is (.var 1) (.cst .non)) (.cons (.ret (.op2 .is (.var 0) (.cst .non))) .nil) .nil) (.cons (.ite (.isi (.var 1) .bool) (.cons (.ret (.ite (.var 1) (.op2 .is (.var 0) (.cst (.bl true))) (.op2 .is (.var 0) (.cst (.bl false))))) .nil) .nil) (.cons (.ite (.isi (.var 1) .int) (.cons (.ret (.and (.isi (.var 0) .int) (.and (.op1 .not (.isi (.var 0) .bool)) (.op2 .eq (.op1 .int (.var 0)) (.var 1))))) .nil) .nil) (.cons (.ret (.and (.isi (.var 0) .str) (.op2 .eq (.op1 .str (.var 0)) (.var 1)))) .nil)))))⟩
def F__law_some : Fun := ⟨2, 2, (.cons (.ret (.op2 .ix (.var 1) (.call i__law_roll (.cons (.var 0) (.cons (.op1 .len (.var 1)) .nil))))) .nil)⟩
def F__law_table : Fun := ⟨2, 6, (.cons (.asg (.nm 2) (.comp [3] (.cons (.nm 3) (.e (.op1 .range1 (.var 1))) .nil (.fin (.op2 .mul (.lst (.cons (.cst (Nt 0)) .nil)) (.var 1)))))) (.cons (.for_ (.nm 3) (.e (.op1 .range1 (.var 1))) (.cons (.for_ (.nm 4) (.e (.op1 .range1 (.var 1))) (.cons (.set2 2 (.var 3) (.var 4) (.call i__law_some (.cons (.var 0) (.cons (.lst (.cons (.var 3) (.cons (.var 4) .nil))) .nil)))) .nil)) .nil)) (.cons (.ret (.op1 .tuple (.comp [5] (.cons (.nm 5) (.e (.var 2)) .nil (.fin (.op1 .tuple (.var 5))))))) .nil)))⟩
class H_is_tuple_of (T : Nat → Option Fun) : Prop where
  q_is_tuple_of : T i_is_tuple_of = some F_is_tuple_of
class H_fits_whole (T : Nat → Option Fun) : Prop where
  q_fits_whole : T i_fits_whole = some F_fits_whole
class H_fits_table (T : Nat → Option Fun) : Prop extends H_fits_whole T, H_is_tuple_of T where
  q_fits_table : T i_fits_table = some F_fits_table
class H__law_some (T : Nat → Option Fun) : Prop where
  q__law_some : T i__law_some = some F__law_some
class H__law_same (T : Nat → Option Fun) : Prop where
  q__law_same : T i__law_same = some F__law_same
class H__law_table (T : Nat → Option Fun) : Prop extends H__law_some T where
  q__law_table : T i__law_table = some F__law_table
class H_pair_in (T : Nat → Option Fun) : Prop where
  q_pair_in : T i_pair_in = some F_pair_in
class H_beats_in (T : Nat → Option Fun) : Prop where
  q_beats_in : T i_beats_in = some F_beats_in
class H_need_table (T : Nat → Option Fun) : Prop extends H_fits_table T where
  q_need_table : T i_need_table = some F_need_table
class H_need_thing (T : Nat → Option Fun) : Prop extends H_fits_whole T where
  q_need_thing : T i_need_thing = some F_need_thing
class H_kept (T : Nat → Option Fun) : Prop extends H_need_table T, H_need_thing T where
  q_kept : T i_kept = some F_kept
class H_pair_of (T : Nat → Option Fun) : Prop extends H_need_table T, H_need_thing T, H_pair_in T where
  q_pair_of : T i_pair_of = some F_pair_of
class H_beats (T : Nat → Option Fun) : Prop extends H_beats_in T, H_need_table T, H_need_thing T where
  q_beats : T i_beats = some F_beats
class H_beaten_by (T : Nat → Option Fun) : Prop extends H_beats_in T, H_need_table T, H_need_thing T where
  q_beaten_by : T i_beaten_by = some F_beaten_by
class H_turned (T : Nat → Option Fun) : Prop extends H_need_table T where
  q_turned : T i_turned = some F_turned
class H_entries_unlike (T : Nat → Option Fun) : Prop extends H_need_table T where
  q_entries_unlike : T i_entries_unlike = some F_entries_unlike
class H_fits_row (T : Nat → Option Fun) : Prop extends H_fits_whole T, H_is_tuple_of T where
  q_fits_row : T i_fits_row = some F_fits_row
class H_size_in (T : Nat → Option Fun) : Prop where
  q_size_in : T i_size_in = some F_size_in
class H_fits_grouping (T : Nat → Option Fun) : Prop extends H_fits_whole T, H_is_tuple_of T, H_size_in T where
  q_fits_grouping : T i_fits_grouping = some F_fits_grouping
class H_row_in (T : Nat → Option Fun) : Prop where
  q_row_in : T i_row_in = some F_row_in
class H_need_any_grouping (T : Nat → Option Fun) : Prop extends H_fits_grouping T where
  q_need_any_grouping : T i_need_any_grouping = some F_need_any_grouping
class H_is_row (T : Nat → Option Fun) : Prop extends H_fits_row T where
  q_is_row : T i_is_row = some F_is_row
class H_is_grouping (T : Nat → Option Fun) : Prop extends H_fits_grouping T where
  q_is_grouping : T i_is_grouping = some F_is_grouping
class H_row_of (T : Nat → Option Fun) : Prop extends H_need_any_grouping T, H_row_in T where
  q_row_of : T i_row_of = some F_row_of
class H_depth_in (T : Nat → Option Fun) : Prop where
  q_depth_in : T i_depth_in = some F_depth_in
class H_depth_of (T : Nat → Option Fun) : Prop extends H_depth_in T, H_need_any_grouping T where
  q_depth_of : T i_depth_of = some F_depth_of
class H_mirrored_in (T : Nat → Option Fun) : Prop where
  q_mirrored_in : T i_mirrored_in = some F_mirrored_in
class H_mirrored (T : Nat → Option Fun) : Prop extends H_mirrored_in T, H_need_any_grouping T where
  q_mirrored : T i_mirrored = some F_mirrored
class H__law_row (T : Nat → Option Fun) : Prop where
  q__law_row : T i__law_row = some F__law_row
class H__law_group (T : Nat → Option Fun) : Prop where
  q__law_group : T i__law_group = some F__law_group
class H__law_row_of (T : Nat → Option Fun) : Prop where
  q__law_row_of : T i__law_row_of = some F__law_row_of
class H__law_back (T : Nat → Option Fun) : Prop where
  q__law_back : T i__law_back = some F__law_back
class H__law_depth (T : Nat → Option Fun) : Prop where
  q__law_depth : T i__law_depth = some F__law_depth
class H_result_in (T : Nat → Option Fun) : Prop where
  q_result_in : T i_result_in = some F_result_in
class H_need_grouping (T : Nat → Option Fun) : Prop extends H_fits_grouping T where
  q_need_grouping : T i_need_grouping = some F_need_grouping
class H_result (T : Nat → Option Fun) : Prop extends H_need_grouping T, H_need_table T, H_result_in T where
  q_result : T i_result = some F_result
class H_joins_in__rows (T : Nat → Option Fun) : Prop extends H_result_in T where
  q_joins_in__rows : T i_joins_in__rows = some F_joins_in__rows
class H_steps_of (T : Nat → Option Fun) : Prop extends H_joins_in__rows T, H_need_grouping T, H_need_table T where
  q_steps_of : T i_steps_of = some F_steps_of
class H__law_keeps (T : Nat → Option Fun) : Prop where
  q__law_keeps : T i__law_keeps = some F__law_keeps
class H_groupings_in (T : Nat → Option Fun) : Prop where
  q_groupings_in : T i_groupings_in = some F_groupings_in
class H_groupings_many (T : Nat → Option Fun) : Prop extends H_fits_whole T where
  q_groupings_many : T i_groupings_many = some F_groupings_many
class H__law_groups (T : Nat → Option Fun) : Prop where
  q__law_groups : T i__law_groups = some F__law_groups
class H_from_left_in (T : Nat → Option Fun) : Prop where
  q_from_left_in : T i_from_left_in = some F_from_left_in
class H_from_right_in (T : Nat → Option Fun) : Prop where
  q_from_right_in : T i_from_right_in = some F_from_right_in
class H_halved_in (T : Nat → Option Fun) : Prop where
  q_halved_in : T i_halved_in = some F_halved_in
class H_need_row (T : Nat → Option Fun) : Prop extends H_fits_row T where
  q_need_row : T i_need_row = some F_need_row
class H_from_left (T : Nat → Option Fun) : Prop extends H_from_left_in T, H_need_row T, H_need_table T, H_result_in T where
  q_from_left : T i_from_left = some F_from_left
class H_from_right (T : Nat → Option Fun) : Prop extends H_from_right_in T, H_need_row T, H_need_table T, H_result_in T where
  q_from_right : T i_from_right = some F_from_right
class H_knocked_out (T : Nat → Option Fun) : Prop extends H_halved_in T, H_need_row T, H_need_table T, H_result_in T where
  q_knocked_out : T i_knocked_out = some F_knocked_out
class H__law_halved (T : Nat → Option Fun) : Prop where
  q__law_halved : T i__law_halved = some F__law_halved
class H_spans_in (T : Nat → Option Fun) : Prop where
  q_spans_in : T i_spans_in = some F_spans_in
class H_ways_in (T : Nat → Option Fun) : Prop extends H_spans_in T where
  q_ways_in : T i_ways_in = some F_ways_in
class H_outcomes_in (T : Nat → Option Fun) : Prop extends H_ways_in T where
  q_outcomes_in : T i_outcomes_in = some F_outcomes_in
class H_need_both__outcomes (T : Nat → Option Fun) : Prop extends H_need_row T, H_need_table T where
  q_need_both__outcomes : T i_need_both__outcomes = some F_need_both__outcomes
class H_need_three__outcomes (T : Nat → Option Fun) : Prop extends H_need_both__outcomes T, H_need_thing T where
  q_need_three__outcomes : T i_need_three__outcomes = some F_need_three__outcomes
class H_outcomes (T : Nat → Option Fun) : Prop extends H_need_both__outcomes T, H_outcomes_in T where
  q_outcomes : T i_outcomes = some F_outcomes
class H_ways (T : Nat → Option Fun) : Prop extends H_need_both__outcomes T, H_ways_in T where
  q_ways : T i_ways = some F_ways
class H_can_keep (T : Nat → Option Fun) : Prop extends H_need_three__outcomes T, H_outcomes_in T where
  q_can_keep : T i_can_keep = some F_can_keep
class H_always_keeps (T : Nat → Option Fun) : Prop extends H_need_three__outcomes T, H_outcomes_in T where
  q_always_keeps : T i_always_keeps = some F_always_keeps
class H__law_outcomes (T : Nat → Option Fun) : Prop extends H__law_groups T, H__law_keeps T where
  q__law_outcomes : T i__law_outcomes = some F__law_outcomes
class H_within_in (T : Nat → Option Fun) : Prop where
  q_within_in : T i_within_in = some F_within_in
class H_all_shapes (T : Nat → Option Fun) : Prop extends H_fits_whole T, H_groupings_in T where
  q_all_shapes : T i_all_shapes = some F_all_shapes
class H_shapes_within (T : Nat → Option Fun) : Prop extends H_fits_whole T, H_within_in T where
  q_shapes_within : T i_shapes_within = some F_shapes_within
class H__law_like (T : Nat → Option Fun) : Prop extends H__law_same T where
  q__law_like : T i__law_like = some F__law_like
class H__law_all_like (T : Nat → Option Fun) : Prop extends H__law_like T where
  q__law_all_like : T i__law_all_like = some F__law_all_like
class H__law_deepest (T : Nat → Option Fun) : Prop where
  q__law_deepest : T i__law_deepest = some F__law_deepest
class H__law_less (T : Nat → Option Fun) : Prop where
  q__law_less : T i__law_less = some F__law_less
class H_need_alike__whole (T : Nat → Option Fun) : Prop extends H_need_table T where
  q_need_alike__whole : T i_need_alike__whole = some F_need_alike__whole
class H_row_apart (T : Nat → Option Fun) : Prop extends H_need_alike__whole T where
  q_row_apart : T i_row_apart = some F_row_apart
class H_rows_apart (T : Nat → Option Fun) : Prop extends H_fits_row T, H_is_tuple_of T, H_need_alike__whole T, H_outcomes_in T where
  q_rows_apart : T i_rows_apart = some F_rows_apart
end MP
set_option linter.all false
set_option maxRecDepth 100000
/-! ML1: reckoning with MP by one simp set. -/
namespace MP
section
variable {C : Nat → List D → M D} {ρ ρ₁ : List D} {α β γ : Type}
theorem W00 (a : α) (f : α → M β) : bnd (ret a) f = f a := by funext κ; rfl
/-- one after the other; not looked into ahead of its value -/
def kl (f : α → M β) (g : β → M γ) : α → M γ := fun a => bnd (f a) g
theorem W01 (f : α → M β) (g : β → M γ) (a : α) : kl f g a = bnd (f a) g := by unfold kl; rfl
theorem W02 (m : M α) (f : α → M β) (g : β → M γ) : bnd (bnd m f) g = bnd m (kl f g) := by funext κ; unfold kl bnd; cases m κ <;> rfl
theorem W03 (f : α → M β) : bnd bad f = bad := by funext κ; rfl
theorem W04 (a : α) : calm (ret a) = ret a := by funext κ; rfl
theorem W05 (a : α) : opt (some a) = ret a := by funext κ; rfl
theorem W06 : opt (none : Option α) = bad := by funext κ; rfl
theorem W07 (c : Bool) (m n : M α) (f : α → M β) : bnd (if c then m else n) f = if c then bnd m f else bnd n f := by cases c <;> rfl
theorem W08 (i : Nat) : ev C (.var i) ρ = getV ρ i := by rw [ev]
theorem W09 (d : D) : ev C (.cst d) ρ = ret d := by rw [ev]
theorem W0a (d : D) : ev C (.glb d) ρ = ret d := by rw [ev]
theorem W0b (es : Es) : ev C (.tup es) ρ = bnd (evs C es ρ) fun ds => ret (.tup ds) := by rw [ev]
theorem W0c (es : Es) : ev C (.lst es) ρ = bnd (evs C es ρ) fun ds => ret (.lst ds) := by rw [ev]
theorem W0d (t : Bool) (es : Es) : ev C (.dct t es) ρ = bnd (evs C es ρ) fun ds => opt ((twos ds).bind (mkDic t)) := by rw [ev]
theorem W0e (o : Op1) (a : E) : ev C (.op1 o a) ρ = bnd (ev C a ρ) fun x => opt (op1 o x) := by rw [ev]
theorem W0f (o : Op2) (a b : E) : ev C (.op2 o a b) ρ = bnd (ev C a ρ) fun x => bnd (ev C b ρ) fun y => op2M o x y := by rw [ev]
theorem W0g (o : Op3) (a b c : E) : ev C (.op3 o a b c) ρ = bnd (ev C a ρ) fun x => bnd (ev C b ρ) fun y => bnd (opt (chk3 o y)) fun _ => bnd (ev C c ρ) fun z => opt (op3 o x y z) := by rw [ev]
theorem W0h (i : Int) : chk3 .slC (.int i) = some () := rfl
theorem W0i (x : D) : chk3 .get2 x = some () := rfl
theorem W0j (a b : E) : ev C (.and a b) ρ = bnd (ev C a ρ) fun x => bnd (opt (truth x)) fun t => if t then ev C b ρ else ret x := by rw [ev]
theorem W0k (a b : E) : ev C (.or a b) ρ = bnd (ev C a ρ) fun x => bnd (opt (truth x)) fun t => if t then ret x else ev C b ρ := by rw [ev]
theorem W0l (c a b : E) : ev C (.ite c a b) ρ = bnd (ev C c ρ) fun x => bnd (opt (truth x)) fun t => if t then ev C a ρ else ev C b ρ := by rw [ev]
/-- the second half of a chain -/
def chain (n : D → M D) (u : D) (c : M D) : M D := match u with
  | .bl true => bnd c n
  | .bl false => ret (.bl false)
  | _ => bad
theorem W0m (o p : Op2) (a b c : E) : ev C (.cmp2 o p a b c) ρ = bnd (ev C a ρ) fun x => bnd (ev C b ρ) fun y => bnd (op2M o x y) fun u => chain (fun z => op2M p y z) u (ev C c ρ) := by
  rw [ev]; rfl
theorem W0n (n : D → M D) (b : Bool) (c : M D) : chain n (.bl b) c = if b then bnd c n else ret (.bl false) := by cases b <;> rfl
theorem W0o (a : E) (t : Ty) : ev C (.isi a t) ρ = bnd (ev C a ρ) fun x => opt ((isT x t).map .bl) := by rw [ev]
theorem W0p (f : Nat) (es : Es) : ev C (.call f es) ρ = bnd (evs C es ρ) fun ds => C f ds := by rw [ev]
theorem W0q (own : List Nat) (g : Gs) : ev C (.comp own g) ρ = bnd (calm (evg C g ρ (wipeD ρ own))) fun ds => opt ((sized ds).map .lst) := by rw [ev]
theorem W0r (t : Bool) (own : List Nat) (g : Gs) : ev C (.dcomp t own g) ρ = bnd (calm (evg C g ρ (wipeD ρ own))) fun ds => opt ((pairsOf ds).bind (mkDic t)) := by rw [ev]
theorem W0s : evs C .nil ρ = ret [] := by rw [evs]
theorem W0t (e : E) (es : Es) : evs C (.cons e es) ρ = bnd (ev C e ρ) fun d => bnd (evs C es ρ) fun ds => ret (d :: ds) := by rw [evs]
theorem W0u (a : E) : evi C (.e a) ρ = bnd (ev C a ρ) fun d => opt (walkD d) := by rw [evi]
theorem W0v (a : E) : evi C (.enum a) ρ = bnd (ev C a ρ) fun d => opt (enumD d) := by rw [evi]
theorem W0w (a b : E) : evi C (.zip a b) ρ = bnd (ev C a ρ) fun x => bnd (ev C b ρ) fun y => opt (zipD x y) := by rw [evi]
theorem W0x (e : E) : evg C (.fin e) ρ₁ ρ = bnd (ev C e ρ) fun d => ret [d] := by rw [evg]
theorem W0y (k v : E) : evg C (.fin2 k v) ρ₁ ρ = bnd (ev C k ρ) fun x => bnd (ev C v ρ) fun y => ret [.tup [x, y]] := by rw [evg]
theorem W0z (t : Tg) (it : It) (ifs : Es) (g : Gs) : evg C (.cons t it ifs g) ρ₁ ρ = bnd (evi C it ρ₁) fun xs => collect (fun x => bnd (opt (asg t x ρ)) fun ρ' => bnd (evt C ifs ρ') fun b => if b then evg C g ρ' ρ' else ret []) xs := by rw [evg]
theorem W10 : evt C .nil ρ = ret true := by rw [evt]
theorem W11 (e : E) (es : Es) : evt C (.cons e es) ρ = bnd (ev C e ρ) fun x => bnd (opt (truth x)) fun b => if b then evt C es ρ else ret false := by rw [evt]
/-- what stands behind a statement -/
def seq (C : Nat → List D → M D) (r : Ss) (f : Fl) : M Fl := match f with
  | .nx ρ' => exs C r ρ'
  | f => ret f
theorem W12 : exs C .nil ρ = ret (.nx ρ) := by rw [exs]
theorem W13 (s : S) (r : Ss) : exs C (.cons s r) ρ = bnd (ex C s ρ) (seq C r) := by
  rw [exs]; rfl
theorem W14 (r : Ss) : seq C r (.nx ρ) = exs C r ρ := rfl
theorem W15 (r : Ss) (d : D) : seq C r (.rt d) = ret (.rt d) := rfl
theorem W16 (r : Ss) : seq C r (.ct ρ) = ret (.ct ρ) := rfl
theorem W17 (t : Tg) (e : E) : ex C (.asg t e) ρ = bnd (ev C e ρ) fun d => bnd (opt (asg t d ρ)) fun ρ' => ret (.nx ρ') := by rw [ex]
theorem W18 (i : Nat) (o : Op2) (e : E) : ex C (.aug i o e) ρ = bnd (getV ρ i) fun x => bnd (ev C e ρ) fun y => bnd (opt (augD o x y)) fun z => ret (.nx (ρ.set i z)) := by rw [ex]
theorem W19 (i : Nat) (e : E) : ex C (.ext i e) ρ = bnd (getV ρ i) fun x => bnd (ev C e ρ) fun y => bnd (opt (extD x y)) fun z => ret (.nx (ρ.set i z)) := by rw [ex]
theorem W1a (i j : Int) : augD .add (.int i) (.int j) = some (.int (i + j)) := rfl
theorem W1b (i : Nat) (e : E) : ex C (.app i e) ρ = bnd (getV ρ i) fun x => bnd (opt (lstOf x)) fun _ => bnd (ev C e ρ) fun y => bnd (opt (appD x y)) fun z => ret (.nx (ρ.set i z)) := by rw [ex]
theorem W1c (i : Nat) (k e : E) : ex C (.set1 i k e) ρ = bnd (ev C e ρ) fun y => bnd (getV ρ i) fun x => bnd (ev C k ρ) fun j => bnd (opt (setD x j y)) fun x' => ret (.nx (ρ.set i x')) := by rw [ex]
theorem W1d (i : Nat) (k e : E) : ex C (.setc i k e) ρ = bnd (ev C e ρ) fun y => bnd (getV ρ i) fun x => bnd (ev C k ρ) fun j => bnd (setC x j y) fun _ => ret (.nx ρ) := by rw [ex]
theorem W1e (i : Nat) (k l e : E) : ex C (.set2 i k l e) ρ = bnd (ev C e ρ) fun y => bnd (getV ρ i) fun x => bnd (ev C k ρ) fun j => bnd (opt (rowD x j)) fun z => bnd (ev C l ρ) fun j2 => bnd (opt (setD z j2 y)) fun z' => bnd (opt (setD x j z')) fun x' => ret (.nx (ρ.set i x')) := by rw [ex]
theorem W1f (i : Nat) (k : E) (o : Op2) (e : E) : ex C (.aug1 i k o e) ρ = bnd (getV ρ i) fun x => bnd (ev C k ρ) fun j => bnd (opt ((lstOf x).bind fun _ => op2 .ix x j)) fun z => bnd (ev C e ρ) fun y => bnd (opt (augD o z y)) fun z' => bnd (opt (setD x j z')) fun x' => ret (.nx (ρ.set i x')) := by rw [ex]
theorem W1g (e : E) : ex C (.expr e) ρ = bnd (ev C e ρ) fun _ => ret (.nx ρ) := by rw [ex]
theorem W1h (e : E) : ex C (.ret e) ρ = bnd (ev C e ρ) fun d => ret (.rt d) := by rw [ex]
theorem W1i (c : E) (a b : Ss) : ex C (.ite c a b) ρ = bnd (ev C c ρ) fun x => bnd (opt (truth x)) fun t => if t then exs C a ρ else exs C b ρ := by rw [ex]
theorem W1j (t : Tg) (it : It) (b : Ss) : ex C (.for_ t it b) ρ = bnd (evi C it ρ) fun xs => forL (asg t) (exs C b) xs ρ := by rw [ex]
theorem W1k : ex C .cont ρ = ret (.ct ρ) := by rw [ex]
theorem W1l : ex C .pass ρ = ret (.nx ρ) := by rw [ex]
theorem W1m (i : Nat) (e : E) : ex C (.mkcup i e) ρ = bnd (ev C e ρ) fun d => mkC (cupOf d) (.nx (ρ.set i .cup)) := by rw [ex]
theorem W1n (j i : Nat) : ex C (.pop j i) ρ = bnd (getV ρ i) fun x => bnd (opt (popD x)) fun p => ret (.nx ((ρ.set i p.2).set j p.1)) := by rw [ex]
theorem W1o (xs : List D) : lstOf (.lst xs) = some xs := rfl
/-! a def's body -/
def ending (f : Fl) : M D := match f with
  | .nx _ => ret .non
  | .rt d => ret d
  | _ => bad
theorem run_b {T : Nat → Option Fun} {k f : Nat} {F : Fun} {ds : List D} (h : T f = some F) (hl : ds.length = F.np) : run T (k + 1) f ds = bnd (exs (run T k) F.body (ds ++ List.replicate (F.nl - F.np) .und)) ending := by
  rw [run, h]
  show body (run T k) F ds = _
  unfold body
  rw [if_pos hl]
  rfl
theorem W1p : ending (.nx ρ) = ret .non := rfl
theorem W1q (d : D) : ending (.rt d) = ret d := rfl
theorem W1r (n : Nat) : Nt n = .int (n : Int) := by unfold Nt; rfl
/-! slots -/
@[reducible] def nu : D → Bool
  | .und => false
  | _ => true
theorem getV_of {i : Nat} {d : D} (h : ρ[i]? = some d) (n : nu d = true) : getV ρ i = ret d := by
  unfold getV; rw [h]; cases d <;> first | rfl | cases n
/-- a slot's value -/
def gd (d : D) : M D := if nu d = true then ret d else bad
theorem W1s (d : D) (r : List D) : getV (d :: r) 0 = gd d := by
  unfold getV gd; cases d <;> rfl
theorem gd_of {d : D} (h : nu d = true) : gd d = ret d := if_pos h
theorem W1t (i : Int) : gd (.int i) = ret (.int i) := gd_of rfl
theorem W1u (i : Bool) : gd (.bl i) = ret (.bl i) := gd_of rfl
theorem W1v (i : List Nat) : gd (.str i) = ret (.str i) := gd_of rfl
theorem W1w  : gd (.non) = ret (.non) := gd_of rfl
theorem W1x (i : List D) : gd (.tup i) = ret (.tup i) := gd_of rfl
theorem W1y (i : List D) : gd (.lst i) = ret (.lst i) := gd_of rfl
theorem W1z (t : Bool) (a b : List D) : gd (.dic t a b) = ret (.dic t a b) := gd_of rfl
theorem W20 (a b : Int) : gd (.rng a b) = ret (.rng a b) := gd_of rfl
theorem W21  : gd (.cup) = ret (.cup) := gd_of rfl
theorem W22 (a : List Int) : gd (.scr a) = ret (.scr a) := gd_of rfl
theorem W23 (a : Nat) : gd (.fn a) = ret (.fn a) := gd_of rfl
theorem W24 (d : D) (r : List D) (i : Nat) : getV (d :: r) (i + 1) = getV r i := by
  unfold getV; rw [List.getElem?_cons_succ]
theorem W25 (i : Nat) (d : D) : asg (.nm i) d ρ = some (ρ.set i d) := rfl
theorem W26 (a b : Tg) (x y : D) : asg (.t2 a b) (.tup [x, y]) ρ = (asg a x ρ).bind (asg b y) := rfl
theorem W27 (a b : Tg) (x y : D) : asg (.t2 a b) (.lst [x, y]) ρ = (asg a x ρ).bind (asg b y) := rfl
theorem W28 (a b c : Tg) (x y z : D) : asg (.t3 a b c) (.tup [x, y, z]) ρ = (asg a x ρ).bind fun ρ => (asg b y ρ).bind (asg c z) := rfl
theorem W29 (a b c e : Tg) (x y z u : D) : asg (.t4 a b c e) (.tup [x, y, z, u]) ρ = (asg a x ρ).bind fun ρ => (asg b y ρ).bind fun ρ => (asg c z ρ).bind (asg e u) := rfl
theorem W2a (a : α) (f : α → Option β) : (some a).bind f = f a := rfl
theorem W2b (a : α) (f : α → β) : (some a).map f = some (f a) := rfl
theorem W2c : wipeD ρ [] = ρ := rfl
theorem W2d (i : Nat) (is : List Nat) : wipeD ρ (i :: is) = (wipeD ρ is).set i .und := rfl
theorem W2e (a b : D) (r : List D) : (a :: r).set 0 b = b :: r := rfl
theorem W2f (a b : D) (r : List D) (i : Nat) : (a :: r).set (i + 1) b = a :: r.set i b := rfl
theorem W2g {a : α} {r s : List α} : (a :: r) ++ s = a :: (r ++ s) := rfl
theorem W2h {s : List α} : [] ++ s = s := rfl
theorem W2i : List.replicate 0 D.und = [] := rfl
theorem W2j (n : Nat) : List.replicate (n + 1) D.und = .und :: List.replicate n .und := rfl
end
end MP
set_option linter.all false
set_option maxRecDepth 100000
/-! ML2: values: naturals, lists of them, comprehensions. -/
namespace MP
/-! numbers -/
theorem W2k (a b : Nat) : ((a : Int) + (b : Int)) = ((a + b : Nat) : Int) := by omega
theorem W2l (a b : Nat) : ((a : Int) * (b : Int)) = ((a * b : Nat) : Int) := by simp
theorem W2m (a b : Nat) (h : b ≤ a) : ((a : Int) - (b : Int)) = ((a - b : Nat) : Int) := by omega
theorem W2n (a b : Nat) : (((a : Int)) = (b : Int)) = (a = b) := propext Int.ofNat_inj
theorem W2o (a b : Nat) : (((a : Int)) ≤ (b : Int)) = (a ≤ b) := propext Int.ofNat_le
theorem W2p (a b : Nat) : (((a : Int)) < (b : Int)) = (a < b) := propext Int.ofNat_lt
theorem W2q (a b : Int) : eqD (.int a) (.int b) = some (decide (a = b)) := rfl
theorem W2r (a b : Int) : op2M .eq (.int a) (.int b) = ret (.bl (decide (a = b))) := by funext κ; rfl
theorem W2s (a b : Int) : op2M .ne (.int a) (.int b) = ret (.bl (!decide (a = b))) := by funext κ; rfl
theorem W2t (a b : Int) : op2M .le (.int a) (.int b) = ret (.bl (decide (a ≤ b))) := by funext κ; rfl
theorem W2u (a b : Int) : op2M .ge (.int a) (.int b) = ret (.bl (decide (b ≤ a))) := by funext κ; rfl
theorem W2v (a b : Int) : op2M .gt (.int a) (.int b) = ret (.bl (decide (b < a))) := by funext κ; rfl
theorem W2w (a b : Int) : op2M .lt (.int a) (.int b) = ret (.bl (decide (a < b))) := by funext κ; rfl
theorem W2x (a b : Int) : op2M .add (.int a) (.int b) = ret (.int (a + b)) := by funext κ; rfl
theorem W2y (a b : Int) : op2M .sub (.int a) (.int b) = ret (.int (a - b)) := by funext κ; rfl
theorem o_mulI (a b : Int) (h : mulOk a b = true) : op2M .mul (.int a) (.int b) = ret (.int (a * b)) := by
  funext κ
  show opt (mulD (.int a) (.int b)) κ = _
  unfold mulD
  simp only [h, if_true]; rfl
theorem W2z (a b : Nat) (h : a ≤ 1000000 ∨ b ≤ 1000000) : op2M .mul (.int (a : Int)) (.int (b : Int)) = ret (.int ((a * b : Nat) : Int)) := by
  rw [o_mulI _ _ (by
    unfold mulOk
    rcases h with h | h
    · rw [decide_eq_true (show -(2 ^ 64) < (a : Int) by omega), decide_eq_true (show (a : Int) < 2 ^ 64 by omega)]; rfl
    · rw [decide_eq_true (show -(2 ^ 64) < (b : Int) by omega), decide_eq_true (show (b : Int) < 2 ^ 64 by omega)]; simp)]
  simp
theorem W30 (a b : Nat) (h : 0 < b ∧ b < 1000000) : op2M .fdiv (.int (a : Int)) (.int (b : Int)) = ret (.int ((a / b : Nat) : Int)) := by
  funext κ
  show opt (fdivD (.int a) (.int b)) κ = _
  unfold fdivD
  simp only
  rw [if_pos (by omega)]; rfl
theorem W31 (a b : Nat) (h : 0 < b) : op2M .mod (.int (a : Int)) (.int (b : Int)) = ret (.int ((a % b : Nat) : Int)) := by
  funext κ
  show opt (modD (.int a) (.int b)) κ = _
  unfold modD
  simp only
  rw [if_pos (by omega)]; rfl
theorem W32 (b : Bool) : op1 .not (.bl b) = some (.bl (!b)) := rfl
theorem W33 (b : Bool) : truth (.bl b) = some b := rfl
theorem W34 : truth .non = some false := rfl
theorem W35 (xs : List D) : truth (.tup xs) = some (!xs.isEmpty) := rfl
theorem W36 (xs : List D) : truth (.lst xs) = some (!xs.isEmpty) := rfl
theorem W37 (xs : List D) : op1 .len (.tup xs) = some (.int (xs.length : Int)) := rfl
theorem W38 (xs : List D) : op1 .len (.lst xs) = some (.int (xs.length : Int)) := rfl
theorem W39 (xs : List D) : op1 .tuple (.lst xs) = some (.tup xs) := rfl
theorem W3a (xs : List D) : op1 .tuple (.tup xs) = some (.tup xs) := rfl
theorem W3b (xs : List D) : op1 .list (.tup xs) = some (.lst xs) := rfl
theorem W3c (xs : List D) : op1 .list (.lst xs) = some (.lst xs) := rfl
theorem W3d (a : Int) : op1 .int (.int a) = some (.int a) := rfl
theorem W3e (s : List Nat) : op1 .str (.str s) = some (.str s) := rfl
theorem W3f (xs : List D) : walkD (.tup xs) = some xs := rfl
theorem W3g (xs : List D) : walkD (.lst xs) = some xs := rfl
theorem W3h (xs : List D) : isT (.tup xs) .tuple = some true := rfl
theorem W3i (a : Int) : isT (.int a) .tuple = some false := rfl
theorem W3j (a : Int) : isT (.int a) .int = some true := rfl
theorem W3k (a : Int) : isT (.int a) .bool = some false := rfl
theorem W3l (a : Bool) : isT (.bl a) .int = some true := rfl
theorem W3m (a : Bool) : isT (.bl a) .bool = some true := rfl
theorem W3n (a : Bool) : isT (.bl a) .tuple = some false := rfl
theorem W3o (a : List Nat) : isT (.str a) .tuple = some false := rfl
theorem W3p (a : List Nat) : isT (.str a) .str = some true := rfl
theorem W3q : isT .non .tuple = some false := rfl
theorem W3r (xs : List D) : isT (.lst xs) .tuple = some false := rfl
theorem W3s (xs : List D) : isT (.tup xs) .int = some false := rfl
theorem W3t : decide True = true := rfl
theorem W3u : decide False = false := rfl
theorem W3v {α : Type} (a b : α) : (if true = true then a else b) = a := rfl
theorem W3w {α : Type} (a b : α) : (if false = true then a else b) = b := rfl
theorem W3x {α : Type} (a b : α) : (if True then a else b) = a := if_pos trivial
theorem W3y {α : Type} (a b : α) : (if False then a else b) = b := if_neg id
theorem W3z : (true = true) = True := eq_self true
theorem W40 : (false = true) = False := by simp
theorem W41 (c a b : Bool) : (if c = true then D.bl a else D.bl b) = D.bl (if c = true then a else b) := by cases c <;> rfl
theorem W42 (c a : Bool) : (if c = true then a else false) = (c && a) := by cases c <;> rfl
theorem W43 (c a : Bool) : (if c = true then true else a) = (c || a) := by cases c <;> rfl
theorem W44 (c a : Bool) : (if c = true then a else c) = (c && a) := by cases c <;> rfl
theorem W45 (c a : Bool) : (if c = true then c else a) = (c || a) := by cases c <;> rfl
theorem W46 {α : Type} (c : Bool) (a : α) : (if c = true then [a] else []).length = if c = true then 1 else 0 := by cases c <;> rfl
theorem W47 (a : Bool) : (true && a) = a := rfl
theorem W48 (a : Bool) : (false && a) = false := rfl
theorem W49 (a : Bool) : (true || a) = true := rfl
theorem W4a (a : Bool) : (false || a) = a := rfl
theorem W4b (a : Bool) : (a && true) = a := by simp
theorem W4c (a : Bool) : (a || false) = a := by simp
theorem W4d (n : Nat) : (n ≤ n) = True := eq_true (Nat.le_refl n)
theorem W4e (n : Nat) : (n = n) = True := eq_self n
theorem W4f (a b : Nat) (h : a ≤ b) : decide (a ≤ b) = true := decide_eq_true h
theorem W4g (a b : Nat) (h : b < a) : decide (a ≤ b) = false := decide_eq_false (by omega)
theorem W4h (a b : Nat) (h : a < b) : decide (a < b) = true := decide_eq_true h
theorem W4i (a b : Nat) (h : b ≤ a) : decide (a < b) = false := decide_eq_false (by omega)
theorem W4j (a b : Nat) (h : a = b) : decide (a = b) = true := decide_eq_true h
theorem W4k (a b : Nat) (h : a < b ∨ b < a) : decide (a = b) = false := decide_eq_false (by omega)
theorem W4l (C : Nat → List D → M D) (r : Ss) (c : Bool) (f g : Fl) : seq C r (if c = true then f else g) = if c = true then seq C r f else seq C r g := by cases c <;> rfl
theorem W4m (c : Bool) (f g : Fl) : ending (if c = true then f else g) = if c = true then ending f else ending g := by cases c <;> rfl
theorem W4n (c : Bool) : (if c = true then true else false) = c := by cases c <;> rfl
theorem W4o (c : Bool) : (if c = true then false else true) = !c := by cases c <;> rfl
theorem W4p (c : Bool) : (!!c) = c := by cases c <;> rfl
theorem W4q {α : Type} (l : List α) : l.map (fun a => a) = l := List.map_id' l
theorem W4r : (!true) = false := rfl
theorem W4s : (!false) = true := rfl
/-- by a rule: f 0, f 1, .. -/
def mapR {α : Type} (n : Nat) (f : Nat → α) : List α := (List.range n).map f
theorem W4t {α : Type} (n : Nat) (f : Nat → α) : (mapR n f).length = n := by simp [mapR]
theorem mapR_get {α : Type} {n i : Nat} (f : Nat → α) (h : i < n) : (mapR n f)[i]? = some (f i) := by simp [mapR, h]
theorem W4u {α : Type} {n i : Nat} (f : Nat → α) (h : i < n) : (mapR n f)[i]? = some (f i) := mapR_get f h
theorem W4v {α β : Type} (n : Nat) (f : Nat → α) (h : α → β) : (mapR n f).map h = mapR n fun i => h (f i) := by unfold mapR; rw [List.map_map]; rfl
theorem mapR_mem {α : Type} {n : Nat} {f : Nat → α} {x : α} : x ∈ mapR n f ↔ ∃ i, i < n ∧ x = f i := by
  unfold mapR
  rw [List.mem_map]
  exact ⟨fun ⟨i, hi, e⟩ => ⟨i, List.mem_range.mp hi, e.symm⟩, fun ⟨i, hi, e⟩ => ⟨i, List.mem_range.mpr hi, e.symm⟩⟩
theorem mapR_congr {α : Type} {n : Nat} {f g : Nat → α} (h : ∀ i, i < n → f i = g i) : mapR n f = mapR n g := List.map_congr_left fun i hi => h i (List.mem_range.mp hi)
theorem mapR_set {α : Type} {n i : Nat} (f : Nat → α) (v : α) : (mapR n f).set i v = mapR n fun k => if k = i then v else f k := by
  apply List.ext_getElem?
  intro j
  unfold mapR
  rw [List.getElem?_set]
  by_cases e : i = j
  · subst e
    by_cases h : i < n
    · simp [h]
    · simp [h]
  · rw [if_neg e, List.getElem?_map, List.getElem?_map]
    cases h : (List.range n)[j]? with
    | none => rfl
    | some k =>
      obtain ⟨h1, h2⟩ := List.getElem?_eq_some_iff.mp h
      have : k = j := by simpa using h2.symm
      subst this
      simp [Ne.symm e]
/-- naturals -/
def ns (l : List Nat) : List D := l.map fun (n : Nat) => .int (n : Int)
theorem W4w (l : List Nat) : (ns l).length = l.length := by simp [ns]
theorem W4x (l : List Nat) (i : Nat) : (ns l)[i]? = (l[i]?).map fun n => .int (n : Int) := by simp [ns]
theorem W4y (n : Nat) (f : Nat → Nat) : mapR n (fun i => D.int (f i : Int)) = ns (mapR n f) := by simp [ns, mapR]
theorem W4z (a b : List Nat) : ns a ++ ns b = ns (a ++ b) := by simp [ns]
theorem ns_inj {a b : List Nat} : ns a = ns b ↔ a = b := by
  refine ⟨fun h => ?_, fun h => by rw [h]⟩
  induction a generalizing b with
  | nil => cases b with
    | nil => rfl
    | cons y b => simp [ns] at h
  | cons x a ih => cases b with
    | nil => simp [ns] at h
    | cons y b =>
      simp only [ns, List.map_cons, List.cons.injEq, D.int.injEq, Int.ofNat_inj] at h
      rw [h.1, ih h.2]
/-- 0, 1, .. -/
def idx (n : Nat) : List D := ns (List.range n)
theorem rangeL_N (n : Nat) : rangeL 0 n = ns (List.range n) := by
  unfold rangeL ns
  rw [show ((n : Int) - 0).toNat = n by omega]
  refine List.map_congr_left fun i _ => ?_
  simp
theorem rangeL_NN (a b : Nat) : rangeL a b = ns ((List.range (b - a)).map (a + ·)) := by
  unfold rangeL ns
  rw [show ((b : Int) - a).toNat = b - a by omega, List.map_map]
  refine List.map_congr_left fun i _ => ?_
  simp
theorem W50 (n : Nat) (h : n ≤ 1000000) : op1 .range1 (.int (n : Int)) = some (.rng ((0 : Nat) : Int) (n : Int)) := by
  rw [show ((0 : Nat) : Int) = 0 from rfl]
  unfold op1 range1D
  simp only
  rw [if_pos (by omega)]
theorem W51 (a b : Nat) (h : a ≤ 1000000 ∧ b ≤ 1000000) : op2M .range2 (.int (a : Int)) (.int (b : Int)) = ret (.rng (a : Int) (b : Int)) := by
  funext κ
  have : op2 .range2 (.int (a : Int)) (.int (b : Int)) = some (.rng a b) := by
    unfold op2 range2D
    simp only
    rw [if_pos (by omega)]
  unfold op2M op2K
  simp only
  rw [this]; rfl
theorem W52 (n : Nat) (h : n ≤ 1000000) : walkD (.rng ((0 : Nat) : Int) (n : Int)) = some (idx n) := by
  unfold walkD
  simp only
  rw [if_pos (by omega)]
  show some (rangeL 0 n) = _
  rw [rangeL_N]; rfl
theorem w_rng (a b : Nat) (h : a ≤ 1000000 ∧ b ≤ 1000000) : walkD (.rng (a : Int) (b : Int)) = some (mapR (b - a) fun i => .int ((a + i : Nat) : Int)) := by
  unfold walkD
  simp only
  rw [if_pos (by omega), rangeL_NN]
  simp [ns, mapR]
theorem W53 (xs : List D) (i : Nat) : op2M .ix (.tup xs) (.int (i : Int)) = opt xs[i]? := by
  funext κ
  show opt (atD xs (i : Int)) κ = _
  unfold atD place
  by_cases h : i < xs.length
  · rw [if_pos (by omega), if_pos (by omega)]; rfl
  · rw [if_pos (by omega), if_neg (by omega)]
    rw [List.getElem?_eq_none (by omega)]; rfl
theorem W54 (xs : List D) (i : Nat) : op2M .ix (.lst xs) (.int (i : Int)) = opt xs[i]? := W53 xs i
theorem W55 {α : Type} (a : α) (r : List α) : (a :: r)[0]? = some a := rfl
theorem W56 {α : Type} (a : α) (r : List α) (i : Nat) : (a :: r)[i + 1]? = r[i]? := rfl
theorem W57 {α : Type} (a : α) (r : List α) : (a :: r).length = r.length + 1 := rfl
theorem W58 {α : Type} : ([] : List α).length = 0 := rfl
/-! walks -/
theorem collect_map {α : Type} (F : α → D) (f : D → M (List D)) : ∀ l : List α, collect f (l.map F) = l.foldr (fun a m => bnd (f (F a)) fun x => bnd m fun y => ret (x ++ y)) (ret [])
  | [] => rfl
  | a :: l => by rw [List.map_cons, collect, collect_map F f l]; rfl
/-- of a list; its rule is told that the item is one -/
def colM {α : Type} : (l : List α) → (∀ a, a ∈ l → M (List D)) → M (List D)
  | [], _ => ret []
  | a :: l, f => bnd (f a (List.mem_cons_self ..)) fun x => bnd (colM l fun b h => f b (List.mem_cons_of_mem _ h)) fun y => ret (x ++ y)
theorem colM_eq {α : Type} (f : α → M (List D)) : ∀ l : List α, colM l (fun a _ => f a) = l.foldr (fun a m => bnd (f a) fun x => bnd m fun y => ret (x ++ y)) (ret [])
  | [] => rfl
  | a :: l => by rw [colM, colM_eq f l]; rfl
def colR (n : Nat) (f : ∀ i, i < n → M (List D)) : M (List D) := colM (List.range n) fun i h => f i (List.mem_range.mp h)
theorem W59 (f : D → M (List D)) (n : Nat) (F : Nat → D) : collect f (mapR n F) = colR n fun i _ => f (F i) := by
  unfold mapR colR; rw [collect_map, colM_eq]
theorem W5a (f : D → M (List D)) (n : Nat) : collect f (idx n) = colR n fun i _ => f (.int (i : Int)) := by
  unfold idx ns colR; rw [collect_map, colM_eq]
theorem W5b (f : D → M (List D)) (l : List Nat) : collect f (ns l) = colM l fun (i : Nat) _ => f (.int (i : Int)) := by
  unfold ns; rw [collect_map, colM_eq]
theorem W5c {α : Type} (f : D → M (List D)) (F : α → D) (l : List α) : collect f (l.map F) = colM l fun i _ => f (F i) := by rw [collect_map, colM_eq]
theorem W5d {α : Type} (f : α → M (List D)) (n : Nat) (F : Nat → α) : colM (mapR n F) (fun a _ => f a) = colR n fun i _ => f (F i) := by
  unfold colR mapR; rw [colM_eq, colM_eq (fun i => f (F i)), List.foldr_map]
theorem W5e (f : D → M (List D)) : collect f [] = ret [] := rfl
theorem W5f (f : D → M (List D)) (x : D) (xs : List D) : collect f (x :: xs) = bnd (f x) fun a => bnd (collect f xs) fun b => ret (a ++ b) := rfl
theorem colM_congr {α : Type} : ∀ {l : List α} {f g : ∀ a, a ∈ l → M (List D)}, (∀ a h, f a h = g a h) → colM l f = colM l g
  | [], _, _, _ => rfl
  | a :: l, f, g, h => by
    rw [colM, colM, h, colM_congr (fun b hb => h b (List.mem_cons_of_mem _ hb))]
theorem colR_congr {n : Nat} {f g : ∀ i, i < n → M (List D)} (h : ∀ i hi, f i hi = g i hi) : colR n f = colR n g := colM_congr fun i hi => h i _
theorem colM_flat {α : Type} (h : α → List D) : ∀ l : List α, colM l (fun a _ => ret (h a)) = ret (l.flatMap h)
  | [] => rfl
  | a :: l => by rw [colM, colM_flat h l, W00, W00, List.flatMap_cons]
theorem W5g {α : Type} (h : α → List D) (l : List α) : colM l (fun a _ => ret (h a)) = ret (l.flatMap h) := colM_flat h l
theorem W5h {α : Type} (h : α → D) (l : List α) : l.flatMap (fun a => [h a]) = l.map h := by induction l <;> simp_all
/-- those of a range with a property -/
def flatR (n : Nat) (h : Nat → List D) : List D := (List.range n).flatMap h
theorem W5i (h : Nat → List D) (n : Nat) : colR n (fun a _ => ret (h a)) = ret (flatR n h) := colM_flat h _
theorem W5j (h : Nat → D) (n : Nat) : flatR n (fun a => [h a]) = mapR n h := W5h h _
theorem W5k {α : Type} (c : Bool) (a b : α) : (if c = true then ret a else ret b) = ret (if c = true then a else b) := by cases c <;> rfl
theorem filt_map {α : Type} (c : α → Bool) (h : α → D) (l : List α) : l.flatMap (fun a => if c a = true then [h a] else []) = (l.filter c).map h := by
  induction l with
  | nil => rfl
  | cons a l ih =>
    rw [List.flatMap_cons, ih, List.filter_cons]
    cases c a <;> rfl
theorem W5l (c : Nat → Bool) (f : Nat → Nat) (n : Nat) : flatR n (fun a => if c a = true then [D.int (f a : Int)] else []) = ns (((List.range n).filter c).map f) := by
  unfold flatR ns
  rw [filt_map, List.map_map]; rfl
theorem W5m (c : Nat → Bool) (n : Nat) : flatR n (fun a => if c a = true then [D.int (a : Int)] else []) = ns ((List.range n).filter c) := by
  unfold flatR ns
  rw [filt_map]
theorem sized_ok {xs : List D} (h : xs.length ≤ 16777216) : sized xs = some xs := by unfold sized; exact if_pos h
theorem W5n (xs : List D) : sized xs = if decide (xs.length ≤ 16777216) = true then some xs else none := by
  unfold sized line
  by_cases h : xs.length ≤ 16777216
  · rw [if_pos h, decide_eq_true h, if_pos rfl]
  · rw [if_neg h, decide_eq_false h, if_neg (by simp)]
theorem W5o {α β : Type} (l : List α) (f : α → β) : (l.map f).length = l.length := List.length_map f
theorem W5p {α : Type} (a b : List α) : (a ++ b).length = a.length + b.length := List.length_append
/-! all, any -/
def allR (n : Nat) (b : Nat → Bool) : Bool := (List.range n).all b
def anyR (n : Nat) (b : Nat → Bool) : Bool := (List.range n).any b
theorem bools_map' {α : Type} (b : α → Bool) : ∀ l : List α, bools (l.map fun a => D.bl (b a)) = some (l.map b)
  | [] => rfl
  | a :: l => by rw [List.map_cons, bools, bools_map' b l]; rfl
theorem all_mapB {α : Type} (b : α → Bool) (l : List α) : op1 .all (.lst (l.map fun a => D.bl (b a))) = some (.bl (l.all b)) := by
  show allD _ = _
  unfold allD
  simp [lstOf, bools_map', List.all_map]
theorem any_mapB {α : Type} (b : α → Bool) (l : List α) : op1 .any (.lst (l.map fun a => D.bl (b a))) = some (.bl (l.any b)) := by
  show anyD _ = _
  unfold anyD
  simp [lstOf, bools_map', List.any_map]
theorem W5q (n : Nat) (b : Nat → Bool) : op1 .all (.lst (mapR n fun i => .bl (b i))) = some (.bl (allR n b)) := all_mapB b _
theorem W5r (n : Nat) (b : Nat → Bool) : op1 .any (.lst (mapR n fun i => .bl (b i))) = some (.bl (anyR n b)) := any_mapB b _
theorem W5s {α : Type} (l : List α) (b : α → Bool) : op1 .all (.lst (l.map fun i => .bl (b i))) = some (.bl (l.all b)) := all_mapB b _
theorem W5t {α : Type} (l : List α) (b : α → Bool) : op1 .any (.lst (l.map fun i => .bl (b i))) = some (.bl (l.any b)) := any_mapB b _
theorem allR_iff {n : Nat} {b : Nat → Bool} : allR n b = true ↔ ∀ i, i < n → b i = true := by simp [allR]
theorem anyR_iff {n : Nat} {b : Nat → Bool} : anyR n b = true ↔ ∃ i, i < n ∧ b i = true := by simp [anyR]
theorem allR_congr {n : Nat} {b c : Nat → Bool} (h : ∀ i, i < n → b i = c i) : allR n b = allR n c := by
  unfold allR
  induction n with
  | zero => rfl
  | succ n ih => rw [List.range_succ, List.all_append, List.all_append, ih fun i hi => h i (by omega)]; simp [h n (by omega)]
theorem W5u (n : Nat) : (allR n fun _ => true) = true := allR_iff.mpr fun _ _ => rfl
/-! joining -/
theorem W5v (c : Bool) (a b : List D) : (if c = true then D.tup a else D.tup b) = D.tup (if c = true then a else b) := by cases c <;> rfl
theorem W5w (c : Bool) (a b : List D) : (if c = true then D.lst a else D.lst b) = D.lst (if c = true then a else b) := by cases c <;> rfl
theorem W5x (c : Bool) (a : Nat) : (if c = true then [D.int (a : Int)] else []) = ns (if c = true then [a] else []) := by cases c <;> rfl
theorem W5y (c : Bool) (a b : Nat) : (if c = true then D.int (a : Int) else D.int (b : Int)) = D.int ((if c = true then a else b : Nat) : Int) := by cases c <;> rfl
theorem W5z (a b : List D) : op2M .add (.tup a) (.tup b) = if decide (a.length + b.length ≤ 16777216) = true then ret (.tup (a ++ b)) else bad := by
  funext κ
  show opt (addD (.tup a) (.tup b)) κ = _
  unfold addD line
  by_cases h : a.length + b.length ≤ 16777216
  · simp only [if_pos h, decide_eq_true h, if_true]; rfl
  · simp only [if_neg h, decide_eq_false h]; rfl
theorem W60 (a b : List D) : op2M .add (.lst a) (.lst b) = if decide (a.length + b.length ≤ 16777216) = true then ret (.lst (a ++ b)) else bad := by
  funext κ
  show opt (addD (.lst a) (.lst b)) κ = _
  unfold addD line
  by_cases h : a.length + b.length ≤ 16777216
  · simp only [if_pos h, decide_eq_true h, if_true]; rfl
  · simp only [if_neg h, decide_eq_false h]; rfl
theorem W61 (n : Nat) (h : Nat → List Nat) : flatR n (fun a => ns (h a)) = ns ((List.range n).flatMap h) := by
  unfold flatR ns; rw [List.map_flatMap]
theorem W62 {α : Type} (l : List α) (h : α → List Nat) : l.flatMap (fun a => ns (h a)) = ns (l.flatMap h) := by
  unfold ns; rw [List.map_flatMap]
theorem W63 {α β : Type} (c : α → Bool) (h : α → β) (l : List α) : l.flatMap (fun a => if c a = true then [h a] else []) = (l.filter c).map h := by
  induction l with
  | nil => rfl
  | cons a l ih =>
    rw [List.flatMap_cons, ih, List.filter_cons]
    cases c a <;> rfl
theorem W64 {α : Type} (c : α → Bool) (l : List α) : l.flatMap (fun a => if c a = true then [a] else []) = l.filter c := by
  rw [W63 c (fun a => a), List.map_id']
theorem W65 {α β : Type} (h : α → β) (l : List α) : l.flatMap (fun a => [h a]) = l.map h := by induction l <;> simp_all
/-! in -/
theorem W66 (x : D) : memD x [] = some false := rfl
theorem W67 (x y : D) (ys : List D) : memD x (y :: ys) = (eqD y x).bind fun a => (memD x ys).map fun b => a || b := by
  unfold memD
  rw [eqAll]
  cases eqD y x with
  | none => rfl
  | some a =>
    cases h : eqAll x ys with
    | none => simp [h]
    | some bs => simp [h]
theorem W68 (a : Nat) : ∀ l : List Nat, memD (.int (a : Int)) (ns l) = some (decide (a ∈ l))
  | [] => by simp [ns, memD, eqAll]
  | b :: l => by
    have e : ns (b :: l) = .int (b : Int) :: ns l := rfl
    rw [e, W67, W68 a l, W2q]
    show some (decide ((b : Int) = a) || decide (a ∈ l)) = _
    by_cases h1 : a = b
    · subst h1; simp
    · have : ¬ ((b : Int) = a) := fun z => h1 (Int.ofNat_inj.mp z).symm
      simp [h1, this]
theorem W69 (x : D) (ys : List D) : op2M .isin x (.tup ys) = opt ((memD x ys).map .bl) := by funext κ; rfl
theorem W6a (x : D) (ys : List D) : op2M .isin x (.lst ys) = opt ((memD x ys).map .bl) := by funext κ; rfl
theorem W6b (x : D) (ys : List D) : op2M .notin x (.tup ys) = opt ((memD x ys).map fun b => .bl (!b)) := by funext κ; rfl
theorem W6c (x : D) (ys : List D) : op2M .notin x (.lst ys) = opt ((memD x ys).map fun b => .bl (!b)) := by funext κ; rfl
end MP
set_option linter.all false
set_option maxRecDepth 100000
/-! ML3: what draws; loops. -/
namespace MP
/-- whatever the cup: it ends well, its value has P -/
def Hr {α : Type} (m : M α) (P : α → Prop) : Prop := ∀ κ, ∃ a κ', m κ = .ok a κ' ∧ P a
section
variable {α β : Type}
theorem Hr.ret {a : α} {P : α → Prop} (h : P a) : Hr (ret a) P := fun κ => ⟨a, κ, rfl, h⟩
theorem Hr.bnd {m : M α} {f : α → M β} {P : α → Prop} {Q : β → Prop} (h : Hr m P) (q : ∀ a, P a → Hr (f a) Q) : Hr (bnd m f) Q := fun κ => by
  obtain ⟨a, κ', e, p⟩ := h κ
  unfold MP.bnd
  rw [e]
  exact q a p κ'
theorem Hr.mono {m : M α} {P Q : α → Prop} (h : Hr m P) (q : ∀ a, P a → Q a) : Hr m Q := fun κ => by
  obtain ⟨a, κ', e, p⟩ := h κ
  exact ⟨a, κ', e, q a p⟩
theorem Hr.eq {m n : M α} {P : α → Prop} (e : m = n) (h : Hr n P) : Hr m P := e ▸ h
theorem Hr.calm {m : M α} {P : α → Prop} (h : Hr m P) : Hr (calm m) P := fun κ => by
  obtain ⟨a, κ', e, p⟩ := h κ
  refine ⟨a, κ', ?_, p⟩
  unfold MP.calm
  rw [e]
end
section
variable {st : D → List D → Option (List D)} {b : List D → M Fl}
/-- on to the next item -/
def fgo (g : List D → M Fl) : Fl → M Fl
  | .nx ρ => g ρ
  | .ct ρ => g ρ
  | .bk _ => bad
  | .rt v => ret (.rt v)
theorem forL_c (x : D) (xs : List D) (ρ : List D) : forL st b (x :: xs) ρ = bnd (bnd (opt (st x ρ)) b) (fgo (forL st b xs)) := by
  rw [forL, W02]
  rfl
/-- a loop that goes on to its end -/
theorem hr_for {I : Nat → List D → Prop} {ρ : List D} : ∀ {xs : List D} {j : Nat}, I j ρ → (∀ i x ρ, xs[i]? = some x → I (j + i) ρ → Hr (bnd (opt (st x ρ)) b) fun f => ∃ ρ', (f = .nx ρ' ∨ f = .ct ρ') ∧ I (j + i + 1) ρ') → Hr (forL st b xs ρ) fun f => ∃ ρ', f = .nx ρ' ∧ I (j + xs.length) ρ'
  | [], j, h, _ => by
    rw [forL]
    exact Hr.ret ⟨ρ, rfl, h⟩
  | x :: xs, j, h, s => by
    rw [forL_c]
    have s0 := s 0 x ρ rfl h
    refine Hr.bnd s0 fun f ⟨ρ', hf, hi⟩ => ?_
    have r := hr_for (I := I) (ρ := ρ') (xs := xs) (j := j + 1) hi fun i y ρ e q => by
      have := s (i + 1) y ρ (by rw [List.getElem?_cons_succ]; exact e) (by rw [show j + (i + 1) = j + 1 + i by omega]; exact q)
      rw [show j + (i + 1) = j + 1 + i by omega] at this
      exact this
    rw [show j + 1 + xs.length = j + (x :: xs).length by rw [List.length_cons]; omega] at r
    rcases hf with rfl | rfl <;> exact r
/-- .. over a range -/
theorem hr_forN {I : Nat → List D → Prop} {ρ : List D} {n : Nat} (h : I 0 ρ) (s : ∀ i ρ, i < n → I i ρ → Hr (bnd (opt (st (.int (i : Int)) ρ)) b) fun f => ∃ ρ', (f = .nx ρ' ∨ f = .ct ρ') ∧ I (i + 1) ρ') : Hr (forL st b (idx n) ρ) fun f => ∃ ρ', f = .nx ρ' ∧ I n ρ' := by
  have := hr_for (st := st) (b := b) (I := I) (ρ := ρ) (xs := idx n) (j := 0) h fun i x ρ e q => by
    have hi : i < n := by
      have := (List.getElem?_eq_some_iff.mp e).1
      simpa [idx, ns] using this
    have : x = .int (i : Int) := by
      have e' : (idx n)[i]? = some (.int (i : Int)) := by simp [idx, ns, hi]
      rw [e'] at e; cases e; rfl
    subst this
    simpa using s i ρ hi (by simpa using q)
  simpa [idx, ns] using this
/-- a pure loop -/
theorem fp_for {I : Nat → List D → Prop} {ρ : List D} : ∀ {xs : List D} {j : Nat}, I j ρ → (∀ i x ρ, xs[i]? = some x → I (j + i) ρ → ∃ f, bnd (opt (st x ρ)) b = ret f ∧ ∃ ρ', (f = .nx ρ' ∨ f = .ct ρ') ∧ I (j + i + 1) ρ') → ∃ ρ', forL st b xs ρ = ret (.nx ρ') ∧ I (j + xs.length) ρ'
  | [], j, h, _ => ⟨ρ, by rw [forL], h⟩
  | x :: xs, j, h, s => by
    rw [forL_c]
    obtain ⟨f, e0, ρ', hf, hi⟩ := s 0 x ρ rfl h
    rw [e0, W00]
    have r := fp_for (I := I) (ρ := ρ') (xs := xs) (j := j + 1) hi fun i y ρ e q => by
      have := s (i + 1) y ρ (by rw [List.getElem?_cons_succ]; exact e) (by rw [show j + (i + 1) = j + 1 + i by omega]; exact q)
      rw [show j + (i + 1) = j + 1 + i by omega] at this
      exact this
    rw [show j + 1 + xs.length = j + (x :: xs).length by rw [List.length_cons]; omega] at r
    rcases hf with rfl | rfl <;> exact r
theorem fp_forN {I : Nat → List D → Prop} {ρ : List D} {n : Nat} (h : I 0 ρ) (s : ∀ i ρ, i < n → I i ρ → ∃ f, bnd (opt (st (.int (i : Int)) ρ)) b = ret f ∧ ∃ ρ', (f = .nx ρ' ∨ f = .ct ρ') ∧ I (i + 1) ρ') : ∃ ρ', forL st b (idx n) ρ = ret (.nx ρ') ∧ I n ρ' := by
  have := fp_for (st := st) (b := b) (I := I) (ρ := ρ) (xs := idx n) (j := 0) h fun i x ρ e q => by
    have hi : i < n := by
      have := (List.getElem?_eq_some_iff.mp e).1
      simpa [idx, ns] using this
    have : x = .int (i : Int) := by
      have e' : (idx n)[i]? = some (.int (i : Int)) := by simp [idx, ns, hi]
      rw [e'] at e; cases e; rfl
    subst this
    simpa using s i ρ hi (by simpa using q)
  simpa [idx, ns] using this
end
/-! the cup -/
def rollF (a b m c p d : Int) : Fun := ⟨2, 4, .cons (.ite (.op2 .gt (.op2 .ix (.var 0) (.cst (Nt 0))) (.cst (Nt 0))) (.cons (.asg (.nm 3) (.op2 .mod (.op1 .int (.op2 .ix (.var 0) (.cst (Nt 0)))) (.var 1))) (.cons (.setc 0 (.cst (Nt 0)) (.op2 .fdiv (.op2 .ix (.var 0) (.cst (Nt 0))) (.var 1))) (.cons (.ret (.var 3)) .nil))) .nil)
  (.cons (.setc 0 (.cst (Nt 1)) (.op2 .mod (.op1 .int (.op2 .add (.op2 .mul (.op2 .ix (.var 0) (.cst (Nt 1))) (.cst (.int a))) (.cst (.int b)))) (.cst (.int m))))
  (.cons (.asg (.nm 2) (.op2 .mod (.op1 .int (.op2 .mul (.op2 .ix (.var 0) (.cst (Nt 1))) (.op2 .add (.op2 .ix (.var 0) (.cst (Nt 1))) (.cst (.int c))))) (.cst (.int p))))
  (.cons (.ret (.op2 .mod (.op1 .int (.op2 .fdiv (.var 2) (.cst (.int d)))) (.var 1))) .nil)))⟩
/-- the law's own roll is one of these -/
class HRoll (T : Nat → Option Fun) : Prop where
  ex : ∃ a b m c p d : Int, T i__law_roll = some (rollF a b m c p d) ∧ (-(2 ^ 62) < a ∧ a < 2 ^ 62) ∧ (0 < m ∧ m < 2 ^ 62) ∧ 0 < p ∧ (0 < d ∧ d < 1000000)
theorem roll {T : Nat → Option Fun} [h : HRoll T] {k n : Nat} (h0 : 0 < n) (h1 : n < 1000000) : Hr (run T (k + 1) i__law_roll [.cup, .int (n : Int)]) fun r => ∃ i : Nat, r = .int (i : Int) ∧ i < n := by
  obtain ⟨a, b, m, c, p, d, e, ha, hm, hp, hd⟩ := h.ex
  intro κ
  rw [run_b e rfl]
  have hn : (0 : Int) < n := by omega
  have hn1 : (n : Int) < 1073741824 := by omega
  have fin : ∀ z : Int, ∃ i : Nat, D.int (z % n) = .int (i : Int) ∧ i < n := fun z => by
    have g1 := Int.emod_nonneg z (show (n : Int) ≠ 0 by omega)
    have g2 := Int.emod_lt_of_pos z hn
    exact ⟨(z % n).toNat, by rw [Int.toNat_of_nonneg g1], by omega⟩
  have n0 : ∀ x, Nt x = .int (x : Int) := W1r
  by_cases hc : κ.1 > 0
  · refine ⟨.int (κ.1 % n), (κ.1 / n, κ.2), ?_, fin _⟩
    simp [rollF, exs, ex, ev, evs, bnd, ret, getV, op2M, op2K, ixK, cupV, opt, truth, gtD, hc, op1, intD, op2, modD, fdivD, hn, hn1, asg, setC, cupS, ending, n0, h0]
  · have r1 := Int.emod_nonneg (κ.2 * a + b) (show m ≠ 0 by omega)
    have r2 := Int.emod_lt_of_pos (κ.2 * a + b) hm.1
    have e1 : mulOk κ.2 a = true := by
      unfold mulOk
      rw [decide_eq_true (show -(2 ^ 64) < a by omega), decide_eq_true (show a < 2 ^ 64 by omega)]; simp
    have e2 : mulOk ((κ.2 * a + b) % m) ((κ.2 * a + b) % m + c) = true := by
      unfold mulOk
      rw [decide_eq_true (show -(2 ^ 64) < (κ.2 * a + b) % m by omega), decide_eq_true (show (κ.2 * a + b) % m < 2 ^ 64 by omega)]; simp
    have d2 : d < 1073741824 := by omega
    refine ⟨.int (((κ.2 * a + b) % m) * (((κ.2 * a + b) % m) + c) % p / d % n), (κ.1, (κ.2 * a + b) % m), ?_, fin _⟩
    simp [rollF, exs, ex, ev, evs, bnd, ret, getV, op2M, op2K, ixK, cupV, opt, truth, gtD, hc, op1, intD, op2, modD, fdivD, hn, hn1, asg, setC, cupS, mulD, addD, e1, e2, hm.1, hp, hd.1, d2, ending, n0, h0]
end MP
set_option linter.all false
set_option maxRecDepth 100000
/-! ST: what the defs of tables compute. -/
namespace MP
section
variable {T : Nat → Option Fun}
theorem W6d [h : H_is_tuple_of T] {k : Nat} (xs : List D) (a b : Nat) : run T (k + 1) i_is_tuple_of [.tup xs, .int (a : Int), .int (b : Int)] = ret (.bl (decide (a ≤ xs.length) && decide (xs.length ≤ b))) := by
  rw [run_b h.q_is_tuple_of rfl]
  unfold F_is_tuple_of
  simp (disch := first | (with_reducible rfl) | assumption | omega) only [W00,W01,W02,W03,W04,W05,W06,W07,W08,W09,W0a,W0b,W0c,W0d,W0e,W0f,W0g,W0h,W0i,W0j,W0k,W0l,W0m,W0n,W0o,W0p,W0q,W0r,W0s,W0t,W0u,W0v,W0w,W0x,W0y,W0z,W10,W11,W12,W13,W14,W15,W16,W17,W18,W19,W1a,W1b,W1c,W1d,W1e,W1f,W1g,W1h,W1i,W1j,W1k,W1l,W1m,W1n,W1o,W1p,W1q,W1r,W1s,W1t,W1u,W1v,W1w,W1x,W1y,W1z,W20,W21,W22,W23,W24,W25,W26,W27,W28,W29,W2a,W2b,W2c,W2d,W2e,W2f,W2g,W2h,W2i,W2j,W2k,W2l,W2m,W2n,W2o,W2p,W2q,W2r,W2s,W2t,W2u,W2v,W2w,W2x,W2y,W2z,W30,W31,W32,W33,W34,W35,W36,W37,W38,W39,W3a,W3b,W3c,W3d,W3e,W3f,W3g,W3h,W3i,W3j,W3k,W3l,W3m,W3n,W3o,W3p,W3q,W3r,W3s,W3t,W3u,W3v,W3w,W3x,W3y,W3z,W40,W41,W42,W43,W44,W45,W46,W47,W48,W49,W4a,W4b,W4c,W4d,W4e,W4f,W4g,W4h,W4i,W4j,W4k,W4l,W4m,W4n,W4o,W4p,W4q,W4r,W4s,W4t,W4u,W4v,W4w,W4x,W4y,W4z,W50,W51,W52,W53,W54,W55,W56,W57,W58,W59,W5a,W5b,W5c,W5d,W5e,W5f,W5g,W5h,W5i,W5j,W5k,W5l,W5m,W5n,W5o,W5p,W5q,W5r,W5s,W5t,W5u,W5v,W5w,W5x,W5y,W5z,W60,W61,W62,W63,W64,W65,W66,W67,W68,W69,W6a,W6b,W6c,Nat.reduceSub]
theorem W6e [h : H_fits_whole T] {k : Nat} (v a b : Nat) : run T (k + 1) i_fits_whole [.int (v : Int), .int (a : Int), .int (b : Int)] = ret (.bl (decide (a ≤ v) && decide (v ≤ b))) := by
  rw [run_b h.q_fits_whole rfl]
  unfold F_fits_whole
  simp (disch := first | (with_reducible rfl) | assumption | omega) only [W00,W01,W02,W03,W04,W05,W06,W07,W08,W09,W0a,W0b,W0c,W0d,W0e,W0f,W0g,W0h,W0i,W0j,W0k,W0l,W0m,W0n,W0o,W0p,W0q,W0r,W0s,W0t,W0u,W0v,W0w,W0x,W0y,W0z,W10,W11,W12,W13,W14,W15,W16,W17,W18,W19,W1a,W1b,W1c,W1d,W1e,W1f,W1g,W1h,W1i,W1j,W1k,W1l,W1m,W1n,W1o,W1p,W1q,W1r,W1s,W1t,W1u,W1v,W1w,W1x,W1y,W1z,W20,W21,W22,W23,W24,W25,W26,W27,W28,W29,W2a,W2b,W2c,W2d,W2e,W2f,W2g,W2h,W2i,W2j,W2k,W2l,W2m,W2n,W2o,W2p,W2q,W2r,W2s,W2t,W2u,W2v,W2w,W2x,W2y,W2z,W30,W31,W32,W33,W34,W35,W36,W37,W38,W39,W3a,W3b,W3c,W3d,W3e,W3f,W3g,W3h,W3i,W3j,W3k,W3l,W3m,W3n,W3o,W3p,W3q,W3r,W3s,W3t,W3u,W3v,W3w,W3x,W3y,W3z,W40,W41,W42,W43,W44,W45,W46,W47,W48,W49,W4a,W4b,W4c,W4d,W4e,W4f,W4g,W4h,W4i,W4j,W4k,W4l,W4m,W4n,W4o,W4p,W4q,W4r,W4s,W4t,W4u,W4v,W4w,W4x,W4y,W4z,W50,W51,W52,W53,W54,W55,W56,W57,W58,W59,W5a,W5b,W5c,W5d,W5e,W5f,W5g,W5h,W5i,W5j,W5k,W5l,W5m,W5n,W5o,W5p,W5q,W5r,W5s,W5t,W5u,W5v,W5w,W5x,W5y,W5z,W60,W61,W62,W63,W64,W65,W66,W67,W68,W69,W6a,W6b,W6c,W6d,Nat.reduceSub]
/-- a table of n things -/
def tabD (n : Nat) (g : Nat → Nat → Nat) : D := .tup (mapR n fun i => .tup (ns (mapR n fun j => g i j)))
theorem mapR_tab (n : Nat) (g : Nat → Nat → Nat) : D.tup (mapR n fun i => D.tup (ns (mapR n fun j => g i j))) = tabD n g := rfl
theorem W6f (n : Nat) (g : Nat → Nat → Nat) : gd (tabD n g) = ret (tabD n g) := gd_of rfl
theorem W6g (n : Nat) (g : Nat → Nat → Nat) : op1 .len (tabD n g) = some (.int (n : Int)) := by
  unfold tabD; simp (disch := first | (with_reducible rfl) | assumption | omega) only [W00,W01,W02,W03,W04,W05,W06,W07,W08,W09,W0a,W0b,W0c,W0d,W0e,W0f,W0g,W0h,W0i,W0j,W0k,W0l,W0m,W0n,W0o,W0p,W0q,W0r,W0s,W0t,W0u,W0v,W0w,W0x,W0y,W0z,W10,W11,W12,W13,W14,W15,W16,W17,W18,W19,W1a,W1b,W1c,W1d,W1e,W1f,W1g,W1h,W1i,W1j,W1k,W1l,W1m,W1n,W1o,W1p,W1q,W1r,W1s,W1t,W1u,W1v,W1w,W1x,W1y,W1z,W20,W21,W22,W23,W24,W25,W26,W27,W28,W29,W2a,W2b,W2c,W2d,W2e,W2f,W2g,W2h,W2i,W2j,W2k,W2l,W2m,W2n,W2o,W2p,W2q,W2r,W2s,W2t,W2u,W2v,W2w,W2x,W2y,W2z,W30,W31,W32,W33,W34,W35,W36,W37,W38,W39,W3a,W3b,W3c,W3d,W3e,W3f,W3g,W3h,W3i,W3j,W3k,W3l,W3m,W3n,W3o,W3p,W3q,W3r,W3s,W3t,W3u,W3v,W3w,W3x,W3y,W3z,W40,W41,W42,W43,W44,W45,W46,W47,W48,W49,W4a,W4b,W4c,W4d,W4e,W4f,W4g,W4h,W4i,W4j,W4k,W4l,W4m,W4n,W4o,W4p,W4q,W4r,W4s,W4t,W4u,W4v,W4w,W4x,W4y,W4z,W50,W51,W52,W53,W54,W55,W56,W57,W58,W59,W5a,W5b,W5c,W5d,W5e,W5f,W5g,W5h,W5i,W5j,W5k,W5l,W5m,W5n,W5o,W5p,W5q,W5r,W5s,W5t,W5u,W5v,W5w,W5x,W5y,W5z,W60,W61,W62,W63,W64,W65,W66,W67,W68,W69,W6a,W6b,W6c,W6d,W6e,W6f,Nat.reduceSub]
theorem W6h (n : Nat) (g : Nat → Nat → Nat) : isT (tabD n g) .tuple = some true := rfl
theorem W6i (n i : Nat) (g : Nat → Nat → Nat) (hi : i < n) : op2M .ix (tabD n g) (.int (i : Int)) = ret (.tup (ns (mapR n fun j => g i j))) := by
  unfold tabD; simp (disch := first | (with_reducible rfl) | assumption | omega) only [W00,W01,W02,W03,W04,W05,W06,W07,W08,W09,W0a,W0b,W0c,W0d,W0e,W0f,W0g,W0h,W0i,W0j,W0k,W0l,W0m,W0n,W0o,W0p,W0q,W0r,W0s,W0t,W0u,W0v,W0w,W0x,W0y,W0z,W10,W11,W12,W13,W14,W15,W16,W17,W18,W19,W1a,W1b,W1c,W1d,W1e,W1f,W1g,W1h,W1i,W1j,W1k,W1l,W1m,W1n,W1o,W1p,W1q,W1r,W1s,W1t,W1u,W1v,W1w,W1x,W1y,W1z,W20,W21,W22,W23,W24,W25,W26,W27,W28,W29,W2a,W2b,W2c,W2d,W2e,W2f,W2g,W2h,W2i,W2j,W2k,W2l,W2m,W2n,W2o,W2p,W2q,W2r,W2s,W2t,W2u,W2v,W2w,W2x,W2y,W2z,W30,W31,W32,W33,W34,W35,W36,W37,W38,W39,W3a,W3b,W3c,W3d,W3e,W3f,W3g,W3h,W3i,W3j,W3k,W3l,W3m,W3n,W3o,W3p,W3q,W3r,W3s,W3t,W3u,W3v,W3w,W3x,W3y,W3z,W40,W41,W42,W43,W44,W45,W46,W47,W48,W49,W4a,W4b,W4c,W4d,W4e,W4f,W4g,W4h,W4i,W4j,W4k,W4l,W4m,W4n,W4o,W4p,W4q,W4r,W4s,W4t,W4u,W4v,W4w,W4x,W4y,W4z,W50,W51,W52,W53,W54,W55,W56,W57,W58,W59,W5a,W5b,W5c,W5d,W5e,W5f,W5g,W5h,W5i,W5j,W5k,W5l,W5m,W5n,W5o,W5p,W5q,W5r,W5s,W5t,W5u,W5v,W5w,W5x,W5y,W5z,W60,W61,W62,W63,W64,W65,W66,W67,W68,W69,W6a,W6b,W6c,W6d,W6e,W6f,W6g,W6h,Nat.reduceSub]
theorem W6j (n : Nat) (g : Nat → Nat → Nat) : walkD (tabD n g) = some (mapR n fun i => .tup (ns (mapR n fun j => g i j))) := rfl
theorem W6k [h : H_is_tuple_of T] {k n : Nat} (g : Nat → Nat → Nat) (a b : Nat) : run T (k + 1) i_is_tuple_of [tabD n g, .int (a : Int), .int (b : Int)] = ret (.bl (decide (a ≤ n) && decide (n ≤ b))) := by
  unfold tabD; simp (disch := first | (with_reducible rfl) | assumption | omega) only [W00,W01,W02,W03,W04,W05,W06,W07,W08,W09,W0a,W0b,W0c,W0d,W0e,W0f,W0g,W0h,W0i,W0j,W0k,W0l,W0m,W0n,W0o,W0p,W0q,W0r,W0s,W0t,W0u,W0v,W0w,W0x,W0y,W0z,W10,W11,W12,W13,W14,W15,W16,W17,W18,W19,W1a,W1b,W1c,W1d,W1e,W1f,W1g,W1h,W1i,W1j,W1k,W1l,W1m,W1n,W1o,W1p,W1q,W1r,W1s,W1t,W1u,W1v,W1w,W1x,W1y,W1z,W20,W21,W22,W23,W24,W25,W26,W27,W28,W29,W2a,W2b,W2c,W2d,W2e,W2f,W2g,W2h,W2i,W2j,W2k,W2l,W2m,W2n,W2o,W2p,W2q,W2r,W2s,W2t,W2u,W2v,W2w,W2x,W2y,W2z,W30,W31,W32,W33,W34,W35,W36,W37,W38,W39,W3a,W3b,W3c,W3d,W3e,W3f,W3g,W3h,W3i,W3j,W3k,W3l,W3m,W3n,W3o,W3p,W3q,W3r,W3s,W3t,W3u,W3v,W3w,W3x,W3y,W3z,W40,W41,W42,W43,W44,W45,W46,W47,W48,W49,W4a,W4b,W4c,W4d,W4e,W4f,W4g,W4h,W4i,W4j,W4k,W4l,W4m,W4n,W4o,W4p,W4q,W4r,W4s,W4t,W4u,W4v,W4w,W4x,W4y,W4z,W50,W51,W52,W53,W54,W55,W56,W57,W58,W59,W5a,W5b,W5c,W5d,W5e,W5f,W5g,W5h,W5i,W5j,W5k,W5l,W5m,W5n,W5o,W5p,W5q,W5r,W5s,W5t,W5u,W5v,W5w,W5x,W5y,W5z,W60,W61,W62,W63,W64,W65,W66,W67,W68,W69,W6a,W6b,W6c,W6d,W6e,W6f,W6g,W6h,W6i,W6j,Nat.reduceSub]
/-- of two things one is kept -/
def Valid (n : Nat) (g : Nat → Nat → Nat) : Prop := ∀ i, i < n → ∀ j, j < n → g i j = i ∨ g i j = j
def isTab (n : Nat) (g : Nat → Nat → Nat) : Bool := allR n fun i => allR n fun j => decide (i = g i j) || decide (j = g i j)
theorem isTab_iff {n : Nat} {g : Nat → Nat → Nat} : isTab n g = true ↔ Valid n g := by
  unfold isTab Valid
  simp only [allR_iff, Bool.or_eq_true, decide_eq_true_eq]
  exact ⟨fun h i hi j hj => (h i hi j hj).imp Eq.symm Eq.symm, fun h i hi j hj => (h i hi j hj).imp Eq.symm Eq.symm⟩
theorem Valid.lt {n : Nat} {g : Nat → Nat → Nat} (v : Valid n g) {i j : Nat} (hi : i < n) (hj : j < n) : g i j < n := by
  rcases v i hi j hj with h | h <;> omega
theorem s_fits_table' [h : H_fits_table T] {k n : Nat} (g : Nat → Nat → Nat) (h1 : 1 ≤ n) (h5 : n ≤ 5) : run T (k + 2) i_fits_table [tabD n g] = ret (.bl (isTab n g)) := by
  rw [run_b h.q_fits_table rfl]
  unfold F_fits_table
  simp (disch := first | (with_reducible rfl) | assumption | omega) only [W00,W01,W02,W03,W04,W05,W06,W07,W08,W09,W0a,W0b,W0c,W0d,W0e,W0f,W0g,W0h,W0i,W0j,W0k,W0l,W0m,W0n,W0o,W0p,W0q,W0r,W0s,W0t,W0u,W0v,W0w,W0x,W0y,W0z,W10,W11,W12,W13,W14,W15,W16,W17,W18,W19,W1a,W1b,W1c,W1d,W1e,W1f,W1g,W1h,W1i,W1j,W1k,W1l,W1m,W1n,W1o,W1p,W1q,W1r,W1s,W1t,W1u,W1v,W1w,W1x,W1y,W1z,W20,W21,W22,W23,W24,W25,W26,W27,W28,W29,W2a,W2b,W2c,W2d,W2e,W2f,W2g,W2h,W2i,W2j,W2k,W2l,W2m,W2n,W2o,W2p,W2q,W2r,W2s,W2t,W2u,W2v,W2w,W2x,W2y,W2z,W30,W31,W32,W33,W34,W35,W36,W37,W38,W39,W3a,W3b,W3c,W3d,W3e,W3f,W3g,W3h,W3i,W3j,W3k,W3l,W3m,W3n,W3o,W3p,W3q,W3r,W3s,W3t,W3u,W3v,W3w,W3x,W3y,W3z,W40,W41,W42,W43,W44,W45,W46,W47,W48,W49,W4a,W4b,W4c,W4d,W4e,W4f,W4g,W4h,W4i,W4j,W4k,W4l,W4m,W4n,W4o,W4p,W4q,W4r,W4s,W4t,W4u,W4v,W4w,W4x,W4y,W4z,W50,W51,W52,W53,W54,W55,W56,W57,W58,W59,W5a,W5b,W5c,W5d,W5e,W5f,W5g,W5h,W5i,W5j,W5k,W5l,W5m,W5n,W5o,W5p,W5q,W5r,W5s,W5t,W5u,W5v,W5w,W5x,W5y,W5z,W60,W61,W62,W63,W64,W65,W66,W67,W68,W69,W6a,W6b,W6c,W6d,W6e,W6f,W6g,W6h,W6i,W6j,W6k,Nat.reduceSub]
  cases e : isTab n g
  · unfold isTab at e; rw [e]
    cases (allR n fun i => allR n fun j => decide (g i j ≤ n - 1)) <;> rfl
  · have v := isTab_iff.mp e
    have : (allR n fun i => allR n fun j => decide (g i j ≤ n - 1)) = true := by
      simp only [allR_iff, decide_eq_true_eq]
      intro i hi j hj
      have := v.lt hi hj
      omega
    rw [this]
    unfold isTab at e; rw [e]; rfl
theorem s_fits_table [h : H_fits_table T] {k n : Nat} {g : Nat → Nat → Nat} (h1 : 1 ≤ n) (h5 : n ≤ 5) (v : Valid n g) : run T (k + 2) i_fits_table [tabD n g] = ret (.bl true) := by
  rw [s_fits_table' g h1 h5, isTab_iff.mpr v]
/-- n, g is a table -/
structure Tb (n : Nat) (g : Nat → Nat → Nat) : Prop where
  h1 : 1 ≤ n
  h5 : n ≤ 5
  v : Valid n g
theorem s_need_table [h : H_need_table T] {k n : Nat} {g : Nat → Nat → Nat} (t : Tb n g) : run T (k + 3) i_need_table [tabD n g] = ret .non := by
  rw [run_b h.q_need_table rfl]
  unfold F_need_table
  have e : run T (k + 2) i_fits_table [tabD n g] = ret (.bl true) := s_fits_table t.h1 t.h5 t.v
  simp (disch := first | (with_reducible rfl) | assumption | omega) only [W00,W01,W02,W03,W04,W05,W06,W07,W08,W09,W0a,W0b,W0c,W0d,W0e,W0f,W0g,W0h,W0i,W0j,W0k,W0l,W0m,W0n,W0o,W0p,W0q,W0r,W0s,W0t,W0u,W0v,W0w,W0x,W0y,W0z,W10,W11,W12,W13,W14,W15,W16,W17,W18,W19,W1a,W1b,W1c,W1d,W1e,W1f,W1g,W1h,W1i,W1j,W1k,W1l,W1m,W1n,W1o,W1p,W1q,W1r,W1s,W1t,W1u,W1v,W1w,W1x,W1y,W1z,W20,W21,W22,W23,W24,W25,W26,W27,W28,W29,W2a,W2b,W2c,W2d,W2e,W2f,W2g,W2h,W2i,W2j,W2k,W2l,W2m,W2n,W2o,W2p,W2q,W2r,W2s,W2t,W2u,W2v,W2w,W2x,W2y,W2z,W30,W31,W32,W33,W34,W35,W36,W37,W38,W39,W3a,W3b,W3c,W3d,W3e,W3f,W3g,W3h,W3i,W3j,W3k,W3l,W3m,W3n,W3o,W3p,W3q,W3r,W3s,W3t,W3u,W3v,W3w,W3x,W3y,W3z,W40,W41,W42,W43,W44,W45,W46,W47,W48,W49,W4a,W4b,W4c,W4d,W4e,W4f,W4g,W4h,W4i,W4j,W4k,W4l,W4m,W4n,W4o,W4p,W4q,W4r,W4s,W4t,W4u,W4v,W4w,W4x,W4y,W4z,W50,W51,W52,W53,W54,W55,W56,W57,W58,W59,W5a,W5b,W5c,W5d,W5e,W5f,W5g,W5h,W5i,W5j,W5k,W5l,W5m,W5n,W5o,W5p,W5q,W5r,W5s,W5t,W5u,W5v,W5w,W5x,W5y,W5z,W60,W61,W62,W63,W64,W65,W66,W67,W68,W69,W6a,W6b,W6c,W6d,W6e,W6f,W6g,W6h,W6i,W6j,W6k,Nat.reduceSub, e]
theorem W6l [h : H_need_thing T] {k n i : Nat} {g : Nat → Nat → Nat} (hi : i < n) : run T (k + 2) i_need_thing [tabD n g, .int (i : Int)] = ret .non := by
  rw [run_b h.q_need_thing rfl]
  unfold F_need_thing
  simp (disch := first | (with_reducible rfl) | assumption | omega) only [W00,W01,W02,W03,W04,W05,W06,W07,W08,W09,W0a,W0b,W0c,W0d,W0e,W0f,W0g,W0h,W0i,W0j,W0k,W0l,W0m,W0n,W0o,W0p,W0q,W0r,W0s,W0t,W0u,W0v,W0w,W0x,W0y,W0z,W10,W11,W12,W13,W14,W15,W16,W17,W18,W19,W1a,W1b,W1c,W1d,W1e,W1f,W1g,W1h,W1i,W1j,W1k,W1l,W1m,W1n,W1o,W1p,W1q,W1r,W1s,W1t,W1u,W1v,W1w,W1x,W1y,W1z,W20,W21,W22,W23,W24,W25,W26,W27,W28,W29,W2a,W2b,W2c,W2d,W2e,W2f,W2g,W2h,W2i,W2j,W2k,W2l,W2m,W2n,W2o,W2p,W2q,W2r,W2s,W2t,W2u,W2v,W2w,W2x,W2y,W2z,W30,W31,W32,W33,W34,W35,W36,W37,W38,W39,W3a,W3b,W3c,W3d,W3e,W3f,W3g,W3h,W3i,W3j,W3k,W3l,W3m,W3n,W3o,W3p,W3q,W3r,W3s,W3t,W3u,W3v,W3w,W3x,W3y,W3z,W40,W41,W42,W43,W44,W45,W46,W47,W48,W49,W4a,W4b,W4c,W4d,W4e,W4f,W4g,W4h,W4i,W4j,W4k,W4l,W4m,W4n,W4o,W4p,W4q,W4r,W4s,W4t,W4u,W4v,W4w,W4x,W4y,W4z,W50,W51,W52,W53,W54,W55,W56,W57,W58,W59,W5a,W5b,W5c,W5d,W5e,W5f,W5g,W5h,W5i,W5j,W5k,W5l,W5m,W5n,W5o,W5p,W5q,W5r,W5s,W5t,W5u,W5v,W5w,W5x,W5y,W5z,W60,W61,W62,W63,W64,W65,W66,W67,W68,W69,W6a,W6b,W6c,W6d,W6e,W6f,W6g,W6h,W6i,W6j,W6k,Nat.reduceSub]
theorem W6m (n j : Nat) (f : Nat → Nat) (hj : j < n) : op2M .ix (.tup (ns (mapR n f))) (.int (j : Int)) = ret (.int (f j : Int)) := by simp (disch := first | (with_reducible rfl) | assumption | omega) only [W00,W01,W02,W03,W04,W05,W06,W07,W08,W09,W0a,W0b,W0c,W0d,W0e,W0f,W0g,W0h,W0i,W0j,W0k,W0l,W0m,W0n,W0o,W0p,W0q,W0r,W0s,W0t,W0u,W0v,W0w,W0x,W0y,W0z,W10,W11,W12,W13,W14,W15,W16,W17,W18,W19,W1a,W1b,W1c,W1d,W1e,W1f,W1g,W1h,W1i,W1j,W1k,W1l,W1m,W1n,W1o,W1p,W1q,W1r,W1s,W1t,W1u,W1v,W1w,W1x,W1y,W1z,W20,W21,W22,W23,W24,W25,W26,W27,W28,W29,W2a,W2b,W2c,W2d,W2e,W2f,W2g,W2h,W2i,W2j,W2k,W2l,W2m,W2n,W2o,W2p,W2q,W2r,W2s,W2t,W2u,W2v,W2w,W2x,W2y,W2z,W30,W31,W32,W33,W34,W35,W36,W37,W38,W39,W3a,W3b,W3c,W3d,W3e,W3f,W3g,W3h,W3i,W3j,W3k,W3l,W3m,W3n,W3o,W3p,W3q,W3r,W3s,W3t,W3u,W3v,W3w,W3x,W3y,W3z,W40,W41,W42,W43,W44,W45,W46,W47,W48,W49,W4a,W4b,W4c,W4d,W4e,W4f,W4g,W4h,W4i,W4j,W4k,W4l,W4m,W4n,W4o,W4p,W4q,W4r,W4s,W4t,W4u,W4v,W4w,W4x,W4y,W4z,W50,W51,W52,W53,W54,W55,W56,W57,W58,W59,W5a,W5b,W5c,W5d,W5e,W5f,W5g,W5h,W5i,W5j,W5k,W5l,W5m,W5n,W5o,W5p,W5q,W5r,W5s,W5t,W5u,W5v,W5w,W5x,W5y,W5z,W60,W61,W62,W63,W64,W65,W66,W67,W68,W69,W6a,W6b,W6c,W6d,W6e,W6f,W6g,W6h,W6i,W6j,W6k,W6l,Nat.reduceSub]
theorem s_kept [h : H_kept T] {k n i j : Nat} {g : Nat → Nat → Nat} (t : Tb n g) (hi : i < n) (hj : j < n) : run T (k + 4) i_kept [tabD n g, .int (i : Int), .int (j : Int)] = ret (.int (g i j : Int)) := by
  rw [run_b h.q_kept rfl]
  unfold F_kept
  simp (disch := first | (with_reducible rfl) | assumption | omega) only [W00,W01,W02,W03,W04,W05,W06,W07,W08,W09,W0a,W0b,W0c,W0d,W0e,W0f,W0g,W0h,W0i,W0j,W0k,W0l,W0m,W0n,W0o,W0p,W0q,W0r,W0s,W0t,W0u,W0v,W0w,W0x,W0y,W0z,W10,W11,W12,W13,W14,W15,W16,W17,W18,W19,W1a,W1b,W1c,W1d,W1e,W1f,W1g,W1h,W1i,W1j,W1k,W1l,W1m,W1n,W1o,W1p,W1q,W1r,W1s,W1t,W1u,W1v,W1w,W1x,W1y,W1z,W20,W21,W22,W23,W24,W25,W26,W27,W28,W29,W2a,W2b,W2c,W2d,W2e,W2f,W2g,W2h,W2i,W2j,W2k,W2l,W2m,W2n,W2o,W2p,W2q,W2r,W2s,W2t,W2u,W2v,W2w,W2x,W2y,W2z,W30,W31,W32,W33,W34,W35,W36,W37,W38,W39,W3a,W3b,W3c,W3d,W3e,W3f,W3g,W3h,W3i,W3j,W3k,W3l,W3m,W3n,W3o,W3p,W3q,W3r,W3s,W3t,W3u,W3v,W3w,W3x,W3y,W3z,W40,W41,W42,W43,W44,W45,W46,W47,W48,W49,W4a,W4b,W4c,W4d,W4e,W4f,W4g,W4h,W4i,W4j,W4k,W4l,W4m,W4n,W4o,W4p,W4q,W4r,W4s,W4t,W4u,W4v,W4w,W4x,W4y,W4z,W50,W51,W52,W53,W54,W55,W56,W57,W58,W59,W5a,W5b,W5c,W5d,W5e,W5f,W5g,W5h,W5i,W5j,W5k,W5l,W5m,W5n,W5o,W5p,W5q,W5r,W5s,W5t,W5u,W5v,W5w,W5x,W5y,W5z,W60,W61,W62,W63,W64,W65,W66,W67,W68,W69,W6a,W6b,W6c,W6d,W6e,W6f,W6g,W6h,W6i,W6j,W6k,W6l,W6m,Nat.reduceSub, s_need_table t]
/-- stands above on either side -/
def beatsB (g : Nat → Nat → Nat) (i j : Nat) : Bool := !decide (i = j) && (decide (g i j = i) && decide (g j i = i))
theorem W6n [h : H_beats_in T] {k n i j : Nat} {g : Nat → Nat → Nat} (hi : i < n) (hj : j < n) : run T (k + 1) i_beats_in [tabD n g, .int (i : Int), .int (j : Int)] = ret (.bl (beatsB g i j)) := by
  rw [run_b h.q_beats_in rfl]
  unfold F_beats_in
  simp (disch := first | (with_reducible rfl) | assumption | omega) only [W00,W01,W02,W03,W04,W05,W06,W07,W08,W09,W0a,W0b,W0c,W0d,W0e,W0f,W0g,W0h,W0i,W0j,W0k,W0l,W0m,W0n,W0o,W0p,W0q,W0r,W0s,W0t,W0u,W0v,W0w,W0x,W0y,W0z,W10,W11,W12,W13,W14,W15,W16,W17,W18,W19,W1a,W1b,W1c,W1d,W1e,W1f,W1g,W1h,W1i,W1j,W1k,W1l,W1m,W1n,W1o,W1p,W1q,W1r,W1s,W1t,W1u,W1v,W1w,W1x,W1y,W1z,W20,W21,W22,W23,W24,W25,W26,W27,W28,W29,W2a,W2b,W2c,W2d,W2e,W2f,W2g,W2h,W2i,W2j,W2k,W2l,W2m,W2n,W2o,W2p,W2q,W2r,W2s,W2t,W2u,W2v,W2w,W2x,W2y,W2z,W30,W31,W32,W33,W34,W35,W36,W37,W38,W39,W3a,W3b,W3c,W3d,W3e,W3f,W3g,W3h,W3i,W3j,W3k,W3l,W3m,W3n,W3o,W3p,W3q,W3r,W3s,W3t,W3u,W3v,W3w,W3x,W3y,W3z,W40,W41,W42,W43,W44,W45,W46,W47,W48,W49,W4a,W4b,W4c,W4d,W4e,W4f,W4g,W4h,W4i,W4j,W4k,W4l,W4m,W4n,W4o,W4p,W4q,W4r,W4s,W4t,W4u,W4v,W4w,W4x,W4y,W4z,W50,W51,W52,W53,W54,W55,W56,W57,W58,W59,W5a,W5b,W5c,W5d,W5e,W5f,W5g,W5h,W5i,W5j,W5k,W5l,W5m,W5n,W5o,W5p,W5q,W5r,W5s,W5t,W5u,W5v,W5w,W5x,W5y,W5z,W60,W61,W62,W63,W64,W65,W66,W67,W68,W69,W6a,W6b,W6c,W6d,W6e,W6f,W6g,W6h,W6i,W6j,W6k,W6l,W6m,Nat.reduceSub]
  unfold beatsB
  cases decide (i = j) <;> cases decide (g i j = i) <;> rfl
theorem s_beats [h : H_beats T] {k n i j : Nat} {g : Nat → Nat → Nat} (t : Tb n g) (hi : i < n) (hj : j < n) : run T (k + 4) i_beats [tabD n g, .int (i : Int), .int (j : Int)] = ret (.bl (beatsB g i j)) := by
  rw [run_b h.q_beats rfl]
  unfold F_beats
  simp (disch := first | (with_reducible rfl) | assumption | omega) only [W00,W01,W02,W03,W04,W05,W06,W07,W08,W09,W0a,W0b,W0c,W0d,W0e,W0f,W0g,W0h,W0i,W0j,W0k,W0l,W0m,W0n,W0o,W0p,W0q,W0r,W0s,W0t,W0u,W0v,W0w,W0x,W0y,W0z,W10,W11,W12,W13,W14,W15,W16,W17,W18,W19,W1a,W1b,W1c,W1d,W1e,W1f,W1g,W1h,W1i,W1j,W1k,W1l,W1m,W1n,W1o,W1p,W1q,W1r,W1s,W1t,W1u,W1v,W1w,W1x,W1y,W1z,W20,W21,W22,W23,W24,W25,W26,W27,W28,W29,W2a,W2b,W2c,W2d,W2e,W2f,W2g,W2h,W2i,W2j,W2k,W2l,W2m,W2n,W2o,W2p,W2q,W2r,W2s,W2t,W2u,W2v,W2w,W2x,W2y,W2z,W30,W31,W32,W33,W34,W35,W36,W37,W38,W39,W3a,W3b,W3c,W3d,W3e,W3f,W3g,W3h,W3i,W3j,W3k,W3l,W3m,W3n,W3o,W3p,W3q,W3r,W3s,W3t,W3u,W3v,W3w,W3x,W3y,W3z,W40,W41,W42,W43,W44,W45,W46,W47,W48,W49,W4a,W4b,W4c,W4d,W4e,W4f,W4g,W4h,W4i,W4j,W4k,W4l,W4m,W4n,W4o,W4p,W4q,W4r,W4s,W4t,W4u,W4v,W4w,W4x,W4y,W4z,W50,W51,W52,W53,W54,W55,W56,W57,W58,W59,W5a,W5b,W5c,W5d,W5e,W5f,W5g,W5h,W5i,W5j,W5k,W5l,W5m,W5n,W5o,W5p,W5q,W5r,W5s,W5t,W5u,W5v,W5w,W5x,W5y,W5z,W60,W61,W62,W63,W64,W65,W66,W67,W68,W69,W6a,W6b,W6c,W6d,W6e,W6f,W6g,W6h,W6i,W6j,W6k,W6l,W6m,W6n,Nat.reduceSub, s_need_table t]
theorem s_beaten_by [h : H_beaten_by T] {k n i : Nat} {g : Nat → Nat → Nat} (t : Tb n g) (hi : i < n) : run T (k + 4) i_beaten_by [tabD n g, .int (i : Int)] = ret (.tup (ns ((List.range n).filter (beatsB g i)))) := by
  have h5 := t.h5
  rw [run_b h.q_beaten_by rfl]
  unfold F_beaten_by
  simp (disch := first | (with_reducible rfl) | assumption | omega) only [W00,W01,W02,W03,W04,W05,W06,W07,W08,W09,W0a,W0b,W0c,W0d,W0e,W0f,W0g,W0h,W0i,W0j,W0k,W0l,W0m,W0n,W0o,W0p,W0q,W0r,W0s,W0t,W0u,W0v,W0w,W0x,W0y,W0z,W10,W11,W12,W13,W14,W15,W16,W17,W18,W19,W1a,W1b,W1c,W1d,W1e,W1f,W1g,W1h,W1i,W1j,W1k,W1l,W1m,W1n,W1o,W1p,W1q,W1r,W1s,W1t,W1u,W1v,W1w,W1x,W1y,W1z,W20,W21,W22,W23,W24,W25,W26,W27,W28,W29,W2a,W2b,W2c,W2d,W2e,W2f,W2g,W2h,W2i,W2j,W2k,W2l,W2m,W2n,W2o,W2p,W2q,W2r,W2s,W2t,W2u,W2v,W2w,W2x,W2y,W2z,W30,W31,W32,W33,W34,W35,W36,W37,W38,W39,W3a,W3b,W3c,W3d,W3e,W3f,W3g,W3h,W3i,W3j,W3k,W3l,W3m,W3n,W3o,W3p,W3q,W3r,W3s,W3t,W3u,W3v,W3w,W3x,W3y,W3z,W40,W41,W42,W43,W44,W45,W46,W47,W48,W49,W4a,W4b,W4c,W4d,W4e,W4f,W4g,W4h,W4i,W4j,W4k,W4l,W4m,W4n,W4o,W4p,W4q,W4r,W4s,W4t,W4u,W4v,W4w,W4x,W4y,W4z,W50,W51,W52,W53,W54,W55,W56,W57,W58,W59,W5a,W5b,W5c,W5d,W5e,W5f,W5g,W5h,W5i,W5j,W5k,W5l,W5m,W5n,W5o,W5p,W5q,W5r,W5s,W5t,W5u,W5v,W5w,W5x,W5y,W5z,W60,W61,W62,W63,W64,W65,W66,W67,W68,W69,W6a,W6b,W6c,W6d,W6e,W6f,W6g,W6h,W6i,W6j,W6k,W6l,W6m,W6n,Nat.reduceSub, s_need_table t]
  have hf : (List.filter (beatsB g i) (List.range n)).length ≤ n := by have := List.length_filter_le (beatsB g i) (List.range n); rw [List.length_range] at this; exact this
  simp (disch := first | (with_reducible rfl) | assumption | omega) only [W00,W01,W02,W03,W04,W05,W06,W07,W08,W09,W0a,W0b,W0c,W0d,W0e,W0f,W0g,W0h,W0i,W0j,W0k,W0l,W0m,W0n,W0o,W0p,W0q,W0r,W0s,W0t,W0u,W0v,W0w,W0x,W0y,W0z,W10,W11,W12,W13,W14,W15,W16,W17,W18,W19,W1a,W1b,W1c,W1d,W1e,W1f,W1g,W1h,W1i,W1j,W1k,W1l,W1m,W1n,W1o,W1p,W1q,W1r,W1s,W1t,W1u,W1v,W1w,W1x,W1y,W1z,W20,W21,W22,W23,W24,W25,W26,W27,W28,W29,W2a,W2b,W2c,W2d,W2e,W2f,W2g,W2h,W2i,W2j,W2k,W2l,W2m,W2n,W2o,W2p,W2q,W2r,W2s,W2t,W2u,W2v,W2w,W2x,W2y,W2z,W30,W31,W32,W33,W34,W35,W36,W37,W38,W39,W3a,W3b,W3c,W3d,W3e,W3f,W3g,W3h,W3i,W3j,W3k,W3l,W3m,W3n,W3o,W3p,W3q,W3r,W3s,W3t,W3u,W3v,W3w,W3x,W3y,W3z,W40,W41,W42,W43,W44,W45,W46,W47,W48,W49,W4a,W4b,W4c,W4d,W4e,W4f,W4g,W4h,W4i,W4j,W4k,W4l,W4m,W4n,W4o,W4p,W4q,W4r,W4s,W4t,W4u,W4v,W4w,W4x,W4y,W4z,W50,W51,W52,W53,W54,W55,W56,W57,W58,W59,W5a,W5b,W5c,W5d,W5e,W5f,W5g,W5h,W5i,W5j,W5k,W5l,W5m,W5n,W5o,W5p,W5q,W5r,W5s,W5t,W5u,W5v,W5w,W5x,W5y,W5z,W60,W61,W62,W63,W64,W65,W66,W67,W68,W69,W6a,W6b,W6c,W6d,W6e,W6f,W6g,W6h,W6i,W6j,W6k,W6l,W6m,W6n,Nat.reduceSub]
def firstS : D := .str [102, 105, 114, 115, 116]
def lastS : D := .str [108, 97, 115, 116]
def pairD (g : Nat → Nat → Nat) (i j : Nat) : D := if g i j = g j i then .int (g i j : Int) else if g i j = i then firstS else lastS
theorem W6o [h : H_pair_in T] {k n i j : Nat} {g : Nat → Nat → Nat} (hi : i < n) (hj : j < n) : run T (k + 1) i_pair_in [tabD n g, .int (i : Int), .int (j : Int)] = ret (pairD g i j) := by
  rw [run_b h.q_pair_in rfl]
  unfold F_pair_in
  simp (disch := first | (with_reducible rfl) | assumption | omega) only [W00,W01,W02,W03,W04,W05,W06,W07,W08,W09,W0a,W0b,W0c,W0d,W0e,W0f,W0g,W0h,W0i,W0j,W0k,W0l,W0m,W0n,W0o,W0p,W0q,W0r,W0s,W0t,W0u,W0v,W0w,W0x,W0y,W0z,W10,W11,W12,W13,W14,W15,W16,W17,W18,W19,W1a,W1b,W1c,W1d,W1e,W1f,W1g,W1h,W1i,W1j,W1k,W1l,W1m,W1n,W1o,W1p,W1q,W1r,W1s,W1t,W1u,W1v,W1w,W1x,W1y,W1z,W20,W21,W22,W23,W24,W25,W26,W27,W28,W29,W2a,W2b,W2c,W2d,W2e,W2f,W2g,W2h,W2i,W2j,W2k,W2l,W2m,W2n,W2o,W2p,W2q,W2r,W2s,W2t,W2u,W2v,W2w,W2x,W2y,W2z,W30,W31,W32,W33,W34,W35,W36,W37,W38,W39,W3a,W3b,W3c,W3d,W3e,W3f,W3g,W3h,W3i,W3j,W3k,W3l,W3m,W3n,W3o,W3p,W3q,W3r,W3s,W3t,W3u,W3v,W3w,W3x,W3y,W3z,W40,W41,W42,W43,W44,W45,W46,W47,W48,W49,W4a,W4b,W4c,W4d,W4e,W4f,W4g,W4h,W4i,W4j,W4k,W4l,W4m,W4n,W4o,W4p,W4q,W4r,W4s,W4t,W4u,W4v,W4w,W4x,W4y,W4z,W50,W51,W52,W53,W54,W55,W56,W57,W58,W59,W5a,W5b,W5c,W5d,W5e,W5f,W5g,W5h,W5i,W5j,W5k,W5l,W5m,W5n,W5o,W5p,W5q,W5r,W5s,W5t,W5u,W5v,W5w,W5x,W5y,W5z,W60,W61,W62,W63,W64,W65,W66,W67,W68,W69,W6a,W6b,W6c,W6d,W6e,W6f,W6g,W6h,W6i,W6j,W6k,W6l,W6m,W6n,Nat.reduceSub]
  unfold pairD
  by_cases h1 : g i j = g j i <;> by_cases h2 : g i j = i <;> simp [h1, h2, firstS, lastS, W00, W1q]
theorem s_pair_of [h : H_pair_of T] {k n i j : Nat} {g : Nat → Nat → Nat} (t : Tb n g) (hi : i < n) (hj : j < n) (hij : i ≠ j) : run T (k + 4) i_pair_of [tabD n g, .int (i : Int), .int (j : Int)] = ret (pairD g i j) := by
  rw [run_b h.q_pair_of rfl]
  unfold F_pair_of
  simp (disch := first | (with_reducible rfl) | assumption | omega) only [W00,W01,W02,W03,W04,W05,W06,W07,W08,W09,W0a,W0b,W0c,W0d,W0e,W0f,W0g,W0h,W0i,W0j,W0k,W0l,W0m,W0n,W0o,W0p,W0q,W0r,W0s,W0t,W0u,W0v,W0w,W0x,W0y,W0z,W10,W11,W12,W13,W14,W15,W16,W17,W18,W19,W1a,W1b,W1c,W1d,W1e,W1f,W1g,W1h,W1i,W1j,W1k,W1l,W1m,W1n,W1o,W1p,W1q,W1r,W1s,W1t,W1u,W1v,W1w,W1x,W1y,W1z,W20,W21,W22,W23,W24,W25,W26,W27,W28,W29,W2a,W2b,W2c,W2d,W2e,W2f,W2g,W2h,W2i,W2j,W2k,W2l,W2m,W2n,W2o,W2p,W2q,W2r,W2s,W2t,W2u,W2v,W2w,W2x,W2y,W2z,W30,W31,W32,W33,W34,W35,W36,W37,W38,W39,W3a,W3b,W3c,W3d,W3e,W3f,W3g,W3h,W3i,W3j,W3k,W3l,W3m,W3n,W3o,W3p,W3q,W3r,W3s,W3t,W3u,W3v,W3w,W3x,W3y,W3z,W40,W41,W42,W43,W44,W45,W46,W47,W48,W49,W4a,W4b,W4c,W4d,W4e,W4f,W4g,W4h,W4i,W4j,W4k,W4l,W4m,W4n,W4o,W4p,W4q,W4r,W4s,W4t,W4u,W4v,W4w,W4x,W4y,W4z,W50,W51,W52,W53,W54,W55,W56,W57,W58,W59,W5a,W5b,W5c,W5d,W5e,W5f,W5g,W5h,W5i,W5j,W5k,W5l,W5m,W5n,W5o,W5p,W5q,W5r,W5s,W5t,W5u,W5v,W5w,W5x,W5y,W5z,W60,W61,W62,W63,W64,W65,W66,W67,W68,W69,W6a,W6b,W6c,W6d,W6e,W6f,W6g,W6h,W6i,W6j,W6k,W6l,W6m,W6n,W6o,Nat.reduceSub, s_need_table t]
/-! the laws' own draws -/
theorem s_some [h : H__law_some T] [HRoll T] {k : Nat} {xs : List D} (h0 : 0 < xs.length) (h1 : xs.length < 1000000) : Hr (run T (k + 2) i__law_some [.cup, .lst xs]) fun d => ∃ i, i < xs.length ∧ xs[i]? = some d := by
  rw [run_b h.q__law_some rfl]
  unfold F__law_some
  simp (disch := first | (with_reducible rfl) | assumption | omega) only [W00,W01,W02,W03,W04,W05,W06,W07,W08,W09,W0a,W0b,W0c,W0d,W0e,W0f,W0g,W0h,W0i,W0j,W0k,W0l,W0m,W0n,W0o,W0p,W0q,W0r,W0s,W0t,W0u,W0v,W0w,W0x,W0y,W0z,W10,W11,W12,W13,W14,W15,W16,W17,W18,W19,W1a,W1b,W1c,W1d,W1e,W1f,W1g,W1h,W1i,W1j,W1k,W1l,W1m,W1n,W1o,W1p,W1q,W1r,W1s,W1t,W1u,W1v,W1w,W1x,W1y,W1z,W20,W21,W22,W23,W24,W25,W26,W27,W28,W29,W2a,W2b,W2c,W2d,W2e,W2f,W2g,W2h,W2i,W2j,W2k,W2l,W2m,W2n,W2o,W2p,W2q,W2r,W2s,W2t,W2u,W2v,W2w,W2x,W2y,W2z,W30,W31,W32,W33,W34,W35,W36,W37,W38,W39,W3a,W3b,W3c,W3d,W3e,W3f,W3g,W3h,W3i,W3j,W3k,W3l,W3m,W3n,W3o,W3p,W3q,W3r,W3s,W3t,W3u,W3v,W3w,W3x,W3y,W3z,W40,W41,W42,W43,W44,W45,W46,W47,W48,W49,W4a,W4b,W4c,W4d,W4e,W4f,W4g,W4h,W4i,W4j,W4k,W4l,W4m,W4n,W4o,W4p,W4q,W4r,W4s,W4t,W4u,W4v,W4w,W4x,W4y,W4z,W50,W51,W52,W53,W54,W55,W56,W57,W58,W59,W5a,W5b,W5c,W5d,W5e,W5f,W5g,W5h,W5i,W5j,W5k,W5l,W5m,W5n,W5o,W5p,W5q,W5r,W5s,W5t,W5u,W5v,W5w,W5x,W5y,W5z,W60,W61,W62,W63,W64,W65,W66,W67,W68,W69,W6a,W6b,W6c,W6d,W6e,W6f,W6g,W6h,W6i,W6j,W6k,W6l,W6m,W6n,W6o,Nat.reduceSub]
  refine Hr.bnd (roll h0 h1) ?_
  rintro _ ⟨i, rfl, hi⟩
  have e : xs[i]? = some xs[i] := List.getElem?_eq_getElem hi
  simp (disch := first | (with_reducible rfl) | assumption | omega) only [W00,W01,W02,W03,W04,W05,W06,W07,W08,W09,W0a,W0b,W0c,W0d,W0e,W0f,W0g,W0h,W0i,W0j,W0k,W0l,W0m,W0n,W0o,W0p,W0q,W0r,W0s,W0t,W0u,W0v,W0w,W0x,W0y,W0z,W10,W11,W12,W13,W14,W15,W16,W17,W18,W19,W1a,W1b,W1c,W1d,W1e,W1f,W1g,W1h,W1i,W1j,W1k,W1l,W1m,W1n,W1o,W1p,W1q,W1r,W1s,W1t,W1u,W1v,W1w,W1x,W1y,W1z,W20,W21,W22,W23,W24,W25,W26,W27,W28,W29,W2a,W2b,W2c,W2d,W2e,W2f,W2g,W2h,W2i,W2j,W2k,W2l,W2m,W2n,W2o,W2p,W2q,W2r,W2s,W2t,W2u,W2v,W2w,W2x,W2y,W2z,W30,W31,W32,W33,W34,W35,W36,W37,W38,W39,W3a,W3b,W3c,W3d,W3e,W3f,W3g,W3h,W3i,W3j,W3k,W3l,W3m,W3n,W3o,W3p,W3q,W3r,W3s,W3t,W3u,W3v,W3w,W3x,W3y,W3z,W40,W41,W42,W43,W44,W45,W46,W47,W48,W49,W4a,W4b,W4c,W4d,W4e,W4f,W4g,W4h,W4i,W4j,W4k,W4l,W4m,W4n,W4o,W4p,W4q,W4r,W4s,W4t,W4u,W4v,W4w,W4x,W4y,W4z,W50,W51,W52,W53,W54,W55,W56,W57,W58,W59,W5a,W5b,W5c,W5d,W5e,W5f,W5g,W5h,W5i,W5j,W5k,W5l,W5m,W5n,W5o,W5p,W5q,W5r,W5s,W5t,W5u,W5v,W5w,W5x,W5y,W5z,W60,W61,W62,W63,W64,W65,W66,W67,W68,W69,W6a,W6b,W6c,W6d,W6e,W6f,W6g,W6h,W6i,W6j,W6k,W6l,W6m,W6n,W6o,Nat.reduceSub, e]
  exact Hr.ret ⟨i, hi, e⟩
theorem s_someT [h : H__law_some T] [HRoll T] {k : Nat} {xs : List D} (h0 : 0 < xs.length) (h1 : xs.length < 1000000) : Hr (run T (k + 2) i__law_some [.cup, .tup xs]) fun d => ∃ i, i < xs.length ∧ xs[i]? = some d := by
  rw [run_b h.q__law_some rfl]
  unfold F__law_some
  simp (disch := first | (with_reducible rfl) | assumption | omega) only [W00,W01,W02,W03,W04,W05,W06,W07,W08,W09,W0a,W0b,W0c,W0d,W0e,W0f,W0g,W0h,W0i,W0j,W0k,W0l,W0m,W0n,W0o,W0p,W0q,W0r,W0s,W0t,W0u,W0v,W0w,W0x,W0y,W0z,W10,W11,W12,W13,W14,W15,W16,W17,W18,W19,W1a,W1b,W1c,W1d,W1e,W1f,W1g,W1h,W1i,W1j,W1k,W1l,W1m,W1n,W1o,W1p,W1q,W1r,W1s,W1t,W1u,W1v,W1w,W1x,W1y,W1z,W20,W21,W22,W23,W24,W25,W26,W27,W28,W29,W2a,W2b,W2c,W2d,W2e,W2f,W2g,W2h,W2i,W2j,W2k,W2l,W2m,W2n,W2o,W2p,W2q,W2r,W2s,W2t,W2u,W2v,W2w,W2x,W2y,W2z,W30,W31,W32,W33,W34,W35,W36,W37,W38,W39,W3a,W3b,W3c,W3d,W3e,W3f,W3g,W3h,W3i,W3j,W3k,W3l,W3m,W3n,W3o,W3p,W3q,W3r,W3s,W3t,W3u,W3v,W3w,W3x,W3y,W3z,W40,W41,W42,W43,W44,W45,W46,W47,W48,W49,W4a,W4b,W4c,W4d,W4e,W4f,W4g,W4h,W4i,W4j,W4k,W4l,W4m,W4n,W4o,W4p,W4q,W4r,W4s,W4t,W4u,W4v,W4w,W4x,W4y,W4z,W50,W51,W52,W53,W54,W55,W56,W57,W58,W59,W5a,W5b,W5c,W5d,W5e,W5f,W5g,W5h,W5i,W5j,W5k,W5l,W5m,W5n,W5o,W5p,W5q,W5r,W5s,W5t,W5u,W5v,W5w,W5x,W5y,W5z,W60,W61,W62,W63,W64,W65,W66,W67,W68,W69,W6a,W6b,W6c,W6d,W6e,W6f,W6g,W6h,W6i,W6j,W6k,W6l,W6m,W6n,W6o,Nat.reduceSub]
  refine Hr.bnd (roll h0 h1) ?_
  rintro _ ⟨i, rfl, hi⟩
  have e : xs[i]? = some xs[i] := List.getElem?_eq_getElem hi
  simp (disch := first | (with_reducible rfl) | assumption | omega) only [W00,W01,W02,W03,W04,W05,W06,W07,W08,W09,W0a,W0b,W0c,W0d,W0e,W0f,W0g,W0h,W0i,W0j,W0k,W0l,W0m,W0n,W0o,W0p,W0q,W0r,W0s,W0t,W0u,W0v,W0w,W0x,W0y,W0z,W10,W11,W12,W13,W14,W15,W16,W17,W18,W19,W1a,W1b,W1c,W1d,W1e,W1f,W1g,W1h,W1i,W1j,W1k,W1l,W1m,W1n,W1o,W1p,W1q,W1r,W1s,W1t,W1u,W1v,W1w,W1x,W1y,W1z,W20,W21,W22,W23,W24,W25,W26,W27,W28,W29,W2a,W2b,W2c,W2d,W2e,W2f,W2g,W2h,W2i,W2j,W2k,W2l,W2m,W2n,W2o,W2p,W2q,W2r,W2s,W2t,W2u,W2v,W2w,W2x,W2y,W2z,W30,W31,W32,W33,W34,W35,W36,W37,W38,W39,W3a,W3b,W3c,W3d,W3e,W3f,W3g,W3h,W3i,W3j,W3k,W3l,W3m,W3n,W3o,W3p,W3q,W3r,W3s,W3t,W3u,W3v,W3w,W3x,W3y,W3z,W40,W41,W42,W43,W44,W45,W46,W47,W48,W49,W4a,W4b,W4c,W4d,W4e,W4f,W4g,W4h,W4i,W4j,W4k,W4l,W4m,W4n,W4o,W4p,W4q,W4r,W4s,W4t,W4u,W4v,W4w,W4x,W4y,W4z,W50,W51,W52,W53,W54,W55,W56,W57,W58,W59,W5a,W5b,W5c,W5d,W5e,W5f,W5g,W5h,W5i,W5j,W5k,W5l,W5m,W5n,W5o,W5p,W5q,W5r,W5s,W5t,W5u,W5v,W5w,W5x,W5y,W5z,W60,W61,W62,W63,W64,W65,W66,W67,W68,W69,W6a,W6b,W6c,W6d,W6e,W6f,W6g,W6h,W6i,W6j,W6k,W6l,W6m,W6n,W6o,Nat.reduceSub, e]
  exact Hr.ret ⟨i, hi, e⟩
def rowsD (n : Nat) (g : Nat → Nat → Nat) : D := .lst (mapR n fun i => .lst (ns (mapR n fun j => g i j)))
theorem W6p (n : Nat) (g : Nat → Nat → Nat) : gd (rowsD n g) = ret (rowsD n g) := gd_of rfl
theorem rows_row {n i : Nat} {g : Nat → Nat → Nat} (hi : i < n) : rowD (rowsD n g) (.int (i : Int)) = some (.lst (ns (mapR n fun j => g i j))) := by
  have : ixD (.lst (mapR n fun i => D.lst (ns (mapR n fun j => g i j)))) (.int (i : Int)) = some (.lst (ns (mapR n fun j => g i j))) := by
    show atD _ _ = _
    unfold atD place
    rw [if_pos (by omega), W4t, if_pos (by omega)]
    exact mapR_get _ hi
  show (ixD (.lst (mapR n fun i => D.lst (ns (mapR n fun j => g i j)))) (.int (i : Int))).bind (fun z => if isLst z then some z else none) = _
  rw [this]; rfl
theorem rows_set {n i j v : Nat} {g : Nat → Nat → Nat} (hi : i < n) (hj : j < n) : ∃ z, setD (.lst (ns (mapR n fun j => g i j))) (.int (j : Int)) (.int (v : Int)) = some z ∧ setD (rowsD n g) (.int (i : Int)) z = some (rowsD n fun a b => if a = i ∧ b = j then v else g a b) := by
  refine ⟨.lst ((ns (mapR n fun j => g i j)).set j (.int (v : Int))), ?_, ?_⟩
  · unfold setD place
    simp only [W4w,W4t]
    rw [if_pos (by omega), if_pos (by omega)]; rfl
  · unfold setD place rowsD
    simp only [W4t]
    rw [if_pos (by omega), if_pos (by omega)]
    show some (D.lst _) = _
    congr 2
    rw [show ((i : Int).toNat) = i from rfl, mapR_set]
    refine mapR_congr fun a ha => ?_
    by_cases h : a = i
    · subst h
      rw [if_pos rfl]
      congr 1
      rw [← W4y, mapR_set, ← W4y]
      refine mapR_congr fun b hb => ?_
      by_cases e : b = j <;> simp [e]
    · rw [if_neg h]
      congr 2
      refine mapR_congr fun b hb => ?_
      simp [h]
theorem W6q (x : D) (n : Nat) (h : n ≤ 1000000) : op2M .mul (.lst [x]) (.int (n : Int)) = ret (.lst (mapR n fun _ => x)) := by
  funext κ
  have : op2 .mul (.lst [x]) (.int (n : Int)) = some (.lst (mapR n fun _ => x)) := by
    unfold op2 mulD
    simp only
    rw [if_pos (by simp [line]; omega)]
    congr 2
    rw [show ((n : Int).toNat) = n from rfl]
    unfold mapR
    rw [List.map_const', List.length_range]
    induction n with
    | zero => rfl
    | succ n ih => rw [List.replicate_succ, List.flatten_cons, ih (by omega)]; rfl
  unfold op2M op2K
  simp only
  rw [this]; rfl
theorem s_law_table [h : H__law_table T] [HRoll T] {k n : Nat} (h1 : 1 ≤ n) (h5 : n ≤ 5) : Hr (run T (k + 3) i__law_table [.cup, .int (n : Int)]) fun d => ∃ g, d = tabD n g ∧ Tb n g := by
  rw [run_b h.q__law_table rfl]
  unfold F__law_table
  simp (disch := first | (with_reducible rfl) | assumption | omega) only [W00,W01,W02,W03,W04,W05,W06,W07,W08,W09,W0a,W0b,W0c,W0d,W0e,W0f,W0g,W0h,W0i,W0j,W0k,W0l,W0m,W0n,W0o,W0p,W0q,W0r,W0s,W0t,W0u,W0v,W0w,W0x,W0y,W0z,W10,W11,W12,W13,W14,W15,W16,W17,W18,W19,W1a,W1b,W1c,W1d,W1e,W1f,W1g,W1h,W1i,W1j,W1k,W1l,W1m,W1n,W1o,W1p,W1q,W1r,W1s,W1t,W1u,W1v,W1w,W1x,W1y,W1z,W20,W21,W22,W23,W24,W25,W26,W27,W28,W29,W2a,W2b,W2c,W2d,W2e,W2f,W2g,W2h,W2i,W2j,W2k,W2l,W2m,W2n,W2o,W2p,W2q,W2r,W2s,W2t,W2u,W2v,W2w,W2x,W2y,W2z,W30,W31,W32,W33,W34,W35,W36,W37,W38,W39,W3a,W3b,W3c,W3d,W3e,W3f,W3g,W3h,W3i,W3j,W3k,W3l,W3m,W3n,W3o,W3p,W3q,W3r,W3s,W3t,W3u,W3v,W3w,W3x,W3y,W3z,W40,W41,W42,W43,W44,W45,W46,W47,W48,W49,W4a,W4b,W4c,W4d,W4e,W4f,W4g,W4h,W4i,W4j,W4k,W4l,W4m,W4n,W4o,W4p,W4q,W4r,W4s,W4t,W4u,W4v,W4w,W4x,W4y,W4z,W50,W51,W52,W53,W54,W55,W56,W57,W58,W59,W5a,W5b,W5c,W5d,W5e,W5f,W5g,W5h,W5i,W5j,W5k,W5l,W5m,W5n,W5o,W5p,W5q,W5r,W5s,W5t,W5u,W5v,W5w,W5x,W5y,W5z,W60,W61,W62,W63,W64,W65,W66,W67,W68,W69,W6a,W6b,W6c,W6d,W6e,W6f,W6g,W6h,W6i,W6j,W6k,W6l,W6m,W6n,W6o,W6p,W6q,Nat.reduceSub]
  rw [show D.lst (mapR n fun i => D.lst (ns (mapR n fun i => 0))) = rowsD n fun _ _ => 0 from rfl]
  refine Hr.bnd (P := fun f => ∃ x y g, f = .nx [.cup, .int (n : Int), rowsD n g, x, y, .und] ∧ Valid n g) (Hr.mono (hr_forN (I := fun i ρ => ∃ x y g, ρ = [.cup, .int (n : Int), rowsD n g, x, y, .und] ∧ ∀ a, a < i → ∀ b, b < n → g a b = a ∨ g a b = b) ⟨_, _, _, rfl, fun a ha => absurd ha (by omega)⟩ ?_) ?_) ?_
  · rintro i _ hi ⟨x, y, g, rfl, hg⟩
    simp (disch := first | (with_reducible rfl) | assumption | omega) only [W00,W01,W02,W03,W04,W05,W06,W07,W08,W09,W0a,W0b,W0c,W0d,W0e,W0f,W0g,W0h,W0i,W0j,W0k,W0l,W0m,W0n,W0o,W0p,W0q,W0r,W0s,W0t,W0u,W0v,W0w,W0x,W0y,W0z,W10,W11,W12,W13,W14,W15,W16,W17,W18,W19,W1a,W1b,W1c,W1d,W1e,W1f,W1g,W1h,W1i,W1j,W1k,W1l,W1m,W1n,W1o,W1p,W1q,W1r,W1s,W1t,W1u,W1v,W1w,W1x,W1y,W1z,W20,W21,W22,W23,W24,W25,W26,W27,W28,W29,W2a,W2b,W2c,W2d,W2e,W2f,W2g,W2h,W2i,W2j,W2k,W2l,W2m,W2n,W2o,W2p,W2q,W2r,W2s,W2t,W2u,W2v,W2w,W2x,W2y,W2z,W30,W31,W32,W33,W34,W35,W36,W37,W38,W39,W3a,W3b,W3c,W3d,W3e,W3f,W3g,W3h,W3i,W3j,W3k,W3l,W3m,W3n,W3o,W3p,W3q,W3r,W3s,W3t,W3u,W3v,W3w,W3x,W3y,W3z,W40,W41,W42,W43,W44,W45,W46,W47,W48,W49,W4a,W4b,W4c,W4d,W4e,W4f,W4g,W4h,W4i,W4j,W4k,W4l,W4m,W4n,W4o,W4p,W4q,W4r,W4s,W4t,W4u,W4v,W4w,W4x,W4y,W4z,W50,W51,W52,W53,W54,W55,W56,W57,W58,W59,W5a,W5b,W5c,W5d,W5e,W5f,W5g,W5h,W5i,W5j,W5k,W5l,W5m,W5n,W5o,W5p,W5q,W5r,W5s,W5t,W5u,W5v,W5w,W5x,W5y,W5z,W60,W61,W62,W63,W64,W65,W66,W67,W68,W69,W6a,W6b,W6c,W6d,W6e,W6f,W6g,W6h,W6i,W6j,W6k,W6l,W6m,W6n,W6o,W6p,W6q,Nat.reduceSub]
    refine Hr.bnd (P := fun f => ∃ x y g, f = .nx [.cup, .int (n : Int), rowsD n g, x, y, .und] ∧ ∀ a, a < i + 1 → ∀ b, b < n → g a b = a ∨ g a b = b) (Hr.mono (hr_forN (I := fun j ρ => ∃ y g, ρ = [.cup, .int (n : Int), rowsD n g, .int (i : Int), y, .und] ∧ ∀ a b, (a < i ∧ b < n) ∨ (a = i ∧ b < j) → g a b = a ∨ g a b = b) ⟨_, _, rfl, fun a b q => ?_⟩ ?_) ?_) ?_
    · rcases q with q | q
      · exact hg a q.1 b q.2
      · omega
    · rintro j _ hj ⟨y, g, rfl, hg⟩
      simp (disch := first | (with_reducible rfl) | assumption | omega) only [W00,W01,W02,W03,W04,W05,W06,W07,W08,W09,W0a,W0b,W0c,W0d,W0e,W0f,W0g,W0h,W0i,W0j,W0k,W0l,W0m,W0n,W0o,W0p,W0q,W0r,W0s,W0t,W0u,W0v,W0w,W0x,W0y,W0z,W10,W11,W12,W13,W14,W15,W16,W17,W18,W19,W1a,W1b,W1c,W1d,W1e,W1f,W1g,W1h,W1i,W1j,W1k,W1l,W1m,W1n,W1o,W1p,W1q,W1r,W1s,W1t,W1u,W1v,W1w,W1x,W1y,W1z,W20,W21,W22,W23,W24,W25,W26,W27,W28,W29,W2a,W2b,W2c,W2d,W2e,W2f,W2g,W2h,W2i,W2j,W2k,W2l,W2m,W2n,W2o,W2p,W2q,W2r,W2s,W2t,W2u,W2v,W2w,W2x,W2y,W2z,W30,W31,W32,W33,W34,W35,W36,W37,W38,W39,W3a,W3b,W3c,W3d,W3e,W3f,W3g,W3h,W3i,W3j,W3k,W3l,W3m,W3n,W3o,W3p,W3q,W3r,W3s,W3t,W3u,W3v,W3w,W3x,W3y,W3z,W40,W41,W42,W43,W44,W45,W46,W47,W48,W49,W4a,W4b,W4c,W4d,W4e,W4f,W4g,W4h,W4i,W4j,W4k,W4l,W4m,W4n,W4o,W4p,W4q,W4r,W4s,W4t,W4u,W4v,W4w,W4x,W4y,W4z,W50,W51,W52,W53,W54,W55,W56,W57,W58,W59,W5a,W5b,W5c,W5d,W5e,W5f,W5g,W5h,W5i,W5j,W5k,W5l,W5m,W5n,W5o,W5p,W5q,W5r,W5s,W5t,W5u,W5v,W5w,W5x,W5y,W5z,W60,W61,W62,W63,W64,W65,W66,W67,W68,W69,W6a,W6b,W6c,W6d,W6e,W6f,W6g,W6h,W6i,W6j,W6k,W6l,W6m,W6n,W6o,W6p,W6q,Nat.reduceSub]
      refine Hr.bnd (s_some (xs := [.int (i : Int), .int (j : Int)]) (by simp) (by simp)) ?_
      rintro d ⟨q, hq, e⟩
      have : ∃ v : Nat, d = .int (v : Int) ∧ (v = i ∨ v = j) := by
        have hq : q < 2 := hq
        have : q = 0 ∨ q = 1 := by omega
        rcases this with rfl | rfl
        · cases e; exact ⟨i, rfl, .inl rfl⟩
        · cases e; exact ⟨j, rfl, .inr rfl⟩
      obtain ⟨v, rfl, hv⟩ := this
      obtain ⟨z, e1, e2⟩ := rows_set (v := v) (g := g) hi hj
      simp (disch := first | (with_reducible rfl) | assumption | omega) only [W00,W01,W02,W03,W04,W05,W06,W07,W08,W09,W0a,W0b,W0c,W0d,W0e,W0f,W0g,W0h,W0i,W0j,W0k,W0l,W0m,W0n,W0o,W0p,W0q,W0r,W0s,W0t,W0u,W0v,W0w,W0x,W0y,W0z,W10,W11,W12,W13,W14,W15,W16,W17,W18,W19,W1a,W1b,W1c,W1d,W1e,W1f,W1g,W1h,W1i,W1j,W1k,W1l,W1m,W1n,W1o,W1p,W1q,W1r,W1s,W1t,W1u,W1v,W1w,W1x,W1y,W1z,W20,W21,W22,W23,W24,W25,W26,W27,W28,W29,W2a,W2b,W2c,W2d,W2e,W2f,W2g,W2h,W2i,W2j,W2k,W2l,W2m,W2n,W2o,W2p,W2q,W2r,W2s,W2t,W2u,W2v,W2w,W2x,W2y,W2z,W30,W31,W32,W33,W34,W35,W36,W37,W38,W39,W3a,W3b,W3c,W3d,W3e,W3f,W3g,W3h,W3i,W3j,W3k,W3l,W3m,W3n,W3o,W3p,W3q,W3r,W3s,W3t,W3u,W3v,W3w,W3x,W3y,W3z,W40,W41,W42,W43,W44,W45,W46,W47,W48,W49,W4a,W4b,W4c,W4d,W4e,W4f,W4g,W4h,W4i,W4j,W4k,W4l,W4m,W4n,W4o,W4p,W4q,W4r,W4s,W4t,W4u,W4v,W4w,W4x,W4y,W4z,W50,W51,W52,W53,W54,W55,W56,W57,W58,W59,W5a,W5b,W5c,W5d,W5e,W5f,W5g,W5h,W5i,W5j,W5k,W5l,W5m,W5n,W5o,W5p,W5q,W5r,W5s,W5t,W5u,W5v,W5w,W5x,W5y,W5z,W60,W61,W62,W63,W64,W65,W66,W67,W68,W69,W6a,W6b,W6c,W6d,W6e,W6f,W6g,W6h,W6i,W6j,W6k,W6l,W6m,W6n,W6o,W6p,W6q,Nat.reduceSub, rows_row hi, e1, e2]
      refine Hr.ret ⟨_, .inl rfl, _, _, rfl, fun a b q => ?_⟩
      by_cases c : a = i ∧ b = j
      · rw [if_pos c, c.1, c.2]; exact hv
      · rw [if_neg c]
        exact hg a b (by omega)
    · rintro f ⟨ρ, rfl, y, g, rfl, hg⟩
      exact ⟨_, _, _, rfl, fun a ha b hb => hg a b (by omega)⟩
    · rintro f ⟨x, y, g, rfl, hg⟩
      simp (disch := first | (with_reducible rfl) | assumption | omega) only [W00,W01,W02,W03,W04,W05,W06,W07,W08,W09,W0a,W0b,W0c,W0d,W0e,W0f,W0g,W0h,W0i,W0j,W0k,W0l,W0m,W0n,W0o,W0p,W0q,W0r,W0s,W0t,W0u,W0v,W0w,W0x,W0y,W0z,W10,W11,W12,W13,W14,W15,W16,W17,W18,W19,W1a,W1b,W1c,W1d,W1e,W1f,W1g,W1h,W1i,W1j,W1k,W1l,W1m,W1n,W1o,W1p,W1q,W1r,W1s,W1t,W1u,W1v,W1w,W1x,W1y,W1z,W20,W21,W22,W23,W24,W25,W26,W27,W28,W29,W2a,W2b,W2c,W2d,W2e,W2f,W2g,W2h,W2i,W2j,W2k,W2l,W2m,W2n,W2o,W2p,W2q,W2r,W2s,W2t,W2u,W2v,W2w,W2x,W2y,W2z,W30,W31,W32,W33,W34,W35,W36,W37,W38,W39,W3a,W3b,W3c,W3d,W3e,W3f,W3g,W3h,W3i,W3j,W3k,W3l,W3m,W3n,W3o,W3p,W3q,W3r,W3s,W3t,W3u,W3v,W3w,W3x,W3y,W3z,W40,W41,W42,W43,W44,W45,W46,W47,W48,W49,W4a,W4b,W4c,W4d,W4e,W4f,W4g,W4h,W4i,W4j,W4k,W4l,W4m,W4n,W4o,W4p,W4q,W4r,W4s,W4t,W4u,W4v,W4w,W4x,W4y,W4z,W50,W51,W52,W53,W54,W55,W56,W57,W58,W59,W5a,W5b,W5c,W5d,W5e,W5f,W5g,W5h,W5i,W5j,W5k,W5l,W5m,W5n,W5o,W5p,W5q,W5r,W5s,W5t,W5u,W5v,W5w,W5x,W5y,W5z,W60,W61,W62,W63,W64,W65,W66,W67,W68,W69,W6a,W6b,W6c,W6d,W6e,W6f,W6g,W6h,W6i,W6j,W6k,W6l,W6m,W6n,W6o,W6p,W6q,Nat.reduceSub]
      exact Hr.ret ⟨_, .inl rfl, _, _, _, rfl, hg⟩
  · rintro f ⟨ρ, rfl, x, y, g, rfl, hg⟩
    exact ⟨_, _, _, rfl, hg⟩
  · rintro f ⟨x, y, g, rfl, hg⟩
    unfold rowsD
    simp (disch := first | (with_reducible rfl) | assumption | omega) only [W00,W01,W02,W03,W04,W05,W06,W07,W08,W09,W0a,W0b,W0c,W0d,W0e,W0f,W0g,W0h,W0i,W0j,W0k,W0l,W0m,W0n,W0o,W0p,W0q,W0r,W0s,W0t,W0u,W0v,W0w,W0x,W0y,W0z,W10,W11,W12,W13,W14,W15,W16,W17,W18,W19,W1a,W1b,W1c,W1d,W1e,W1f,W1g,W1h,W1i,W1j,W1k,W1l,W1m,W1n,W1o,W1p,W1q,W1r,W1s,W1t,W1u,W1v,W1w,W1x,W1y,W1z,W20,W21,W22,W23,W24,W25,W26,W27,W28,W29,W2a,W2b,W2c,W2d,W2e,W2f,W2g,W2h,W2i,W2j,W2k,W2l,W2m,W2n,W2o,W2p,W2q,W2r,W2s,W2t,W2u,W2v,W2w,W2x,W2y,W2z,W30,W31,W32,W33,W34,W35,W36,W37,W38,W39,W3a,W3b,W3c,W3d,W3e,W3f,W3g,W3h,W3i,W3j,W3k,W3l,W3m,W3n,W3o,W3p,W3q,W3r,W3s,W3t,W3u,W3v,W3w,W3x,W3y,W3z,W40,W41,W42,W43,W44,W45,W46,W47,W48,W49,W4a,W4b,W4c,W4d,W4e,W4f,W4g,W4h,W4i,W4j,W4k,W4l,W4m,W4n,W4o,W4p,W4q,W4r,W4s,W4t,W4u,W4v,W4w,W4x,W4y,W4z,W50,W51,W52,W53,W54,W55,W56,W57,W58,W59,W5a,W5b,W5c,W5d,W5e,W5f,W5g,W5h,W5i,W5j,W5k,W5l,W5m,W5n,W5o,W5p,W5q,W5r,W5s,W5t,W5u,W5v,W5w,W5x,W5y,W5z,W60,W61,W62,W63,W64,W65,W66,W67,W68,W69,W6a,W6b,W6c,W6d,W6e,W6f,W6g,W6h,W6i,W6j,W6k,W6l,W6m,W6n,W6o,W6p,W6q,Nat.reduceSub]
    exact Hr.ret ⟨g, rfl, h1, h5, hg⟩
/-- plain data, not deeper than n -/
def plainD : Nat → D → Bool
  | _, .int _ => true
  | _, .bl _ => true
  | _, .str _ => true
  | _, .non => true
  | n + 1, .tup xs => decide (xs.length ≤ 1000) && xs.all (plainD n)
  | _, _ => false
theorem plain_ns (n : Nat) (l : List Nat) (h : l.length ≤ 1000) : plainD (n + 1) (.tup (ns l)) = true := by
  unfold plainD
  rw [W4w, decide_eq_true h, Bool.true_and]
  simp [ns, plainD]
theorem W6r (d : D) : op2M .is d .non = opt ((isB d .non).map .bl) := by funext κ; rfl
theorem same_atom [h : H__law_same T] {k : Nat} {d : D} (p : plainD 0 d = true) : run T (k + 1) i__law_same [d, d] = ret (.bl true) := by
  rw [run_b h.q__law_same rfl]
  funext κ
  cases d <;> simp [plainD] at p
  · simp [F__law_same, exs, ex, ev, evs, bnd, ret, getV, op2M, op2K, opt, op1, op2, isT, truth, isB, ending]
  · rename_i b
    cases b <;> simp [F__law_same, exs, ex, ev, evs, bnd, ret, getV, op2M, op2K, opt, op1, op2, isT, truth, isB, ending]
  · simp [F__law_same, exs, ex, ev, evs, bnd, ret, getV, op2M, op2K, opt, op1, op2, isT, truth, isB, intD, eqD, eqF, ending]
  · simp [F__law_same, exs, ex, ev, evs, bnd, ret, getV, op2M, op2K, opt, op1, op2, isT, truth, isB, strD, eqD, eqF, ending]
theorem same_ok [h : H__law_same T] : ∀ {n k : Nat} {d : D}, plainD n d = true → run T (k + n + 1) i__law_same [d, d] = ret (.bl true) := by
  intro n
  induction n with
  | zero => intro k d p; exact same_atom p
  | succ n ih =>
    intro k d p
    cases d with
    | tup xs =>
      have p' : (decide (xs.length ≤ 1000) && xs.all (plainD n)) = true := p
      obtain ⟨hl, ha⟩ := Bool.and_eq_true_iff.mp p'
      have hl := of_decide_eq_true hl
      rw [show k + (n + 1) + 1 = (k + n + 1) + 1 from by omega, run_b h.q__law_same rfl]
      unfold F__law_same
      simp (disch := first | (with_reducible rfl) | assumption | omega) only [W00,W01,W02,W03,W04,W05,W06,W07,W08,W09,W0a,W0b,W0c,W0d,W0e,W0f,W0g,W0h,W0i,W0j,W0k,W0l,W0m,W0n,W0o,W0p,W0q,W0r,W0s,W0t,W0u,W0v,W0w,W0x,W0y,W0z,W10,W11,W12,W13,W14,W15,W16,W17,W18,W19,W1a,W1b,W1c,W1d,W1e,W1f,W1g,W1h,W1i,W1j,W1k,W1l,W1m,W1n,W1o,W1p,W1q,W1r,W1s,W1t,W1u,W1v,W1w,W1x,W1y,W1z,W20,W21,W22,W23,W24,W25,W26,W27,W28,W29,W2a,W2b,W2c,W2d,W2e,W2f,W2g,W2h,W2i,W2j,W2k,W2l,W2m,W2n,W2o,W2p,W2q,W2r,W2s,W2t,W2u,W2v,W2w,W2x,W2y,W2z,W30,W31,W32,W33,W34,W35,W36,W37,W38,W39,W3a,W3b,W3c,W3d,W3e,W3f,W3g,W3h,W3i,W3j,W3k,W3l,W3m,W3n,W3o,W3p,W3q,W3r,W3s,W3t,W3u,W3v,W3w,W3x,W3y,W3z,W40,W41,W42,W43,W44,W45,W46,W47,W48,W49,W4a,W4b,W4c,W4d,W4e,W4f,W4g,W4h,W4i,W4j,W4k,W4l,W4m,W4n,W4o,W4p,W4q,W4r,W4s,W4t,W4u,W4v,W4w,W4x,W4y,W4z,W50,W51,W52,W53,W54,W55,W56,W57,W58,W59,W5a,W5b,W5c,W5d,W5e,W5f,W5g,W5h,W5i,W5j,W5k,W5l,W5m,W5n,W5o,W5p,W5q,W5r,W5s,W5t,W5u,W5v,W5w,W5x,W5y,W5z,W60,W61,W62,W63,W64,W65,W66,W67,W68,W69,W6a,W6b,W6c,W6d,W6e,W6f,W6g,W6h,W6i,W6j,W6k,W6l,W6m,W6n,W6o,W6p,W6q,W6r,Nat.reduceSub]
      have hx : ∀ i (hi : i < xs.length), run T (k + n + 1) i__law_same [xs[i], xs[i]] = ret (.bl true) := fun i hi => ih (List.all_eq_true.mp ha _ (List.getElem_mem hi))
      simp (disch := first | (with_reducible rfl) | assumption | omega) only [W00,W01,W02,W03,W04,W05,W06,W07,W08,W09,W0a,W0b,W0c,W0d,W0e,W0f,W0g,W0h,W0i,W0j,W0k,W0l,W0m,W0n,W0o,W0p,W0q,W0r,W0s,W0t,W0u,W0v,W0w,W0x,W0y,W0z,W10,W11,W12,W13,W14,W15,W16,W17,W18,W19,W1a,W1b,W1c,W1d,W1e,W1f,W1g,W1h,W1i,W1j,W1k,W1l,W1m,W1n,W1o,W1p,W1q,W1r,W1s,W1t,W1u,W1v,W1w,W1x,W1y,W1z,W20,W21,W22,W23,W24,W25,W26,W27,W28,W29,W2a,W2b,W2c,W2d,W2e,W2f,W2g,W2h,W2i,W2j,W2k,W2l,W2m,W2n,W2o,W2p,W2q,W2r,W2s,W2t,W2u,W2v,W2w,W2x,W2y,W2z,W30,W31,W32,W33,W34,W35,W36,W37,W38,W39,W3a,W3b,W3c,W3d,W3e,W3f,W3g,W3h,W3i,W3j,W3k,W3l,W3m,W3n,W3o,W3p,W3q,W3r,W3s,W3t,W3u,W3v,W3w,W3x,W3y,W3z,W40,W41,W42,W43,W44,W45,W46,W47,W48,W49,W4a,W4b,W4c,W4d,W4e,W4f,W4g,W4h,W4i,W4j,W4k,W4l,W4m,W4n,W4o,W4p,W4q,W4r,W4s,W4t,W4u,W4v,W4w,W4x,W4y,W4z,W50,W51,W52,W53,W54,W55,W56,W57,W58,W59,W5a,W5b,W5c,W5d,W5e,W5f,W5g,W5h,W5i,W5j,W5k,W5l,W5m,W5n,W5o,W5p,W5q,W5r,W5s,W5t,W5u,W5v,W5w,W5x,W5y,W5z,W60,W61,W62,W63,W64,W65,W66,W67,W68,W69,W6a,W6b,W6c,W6d,W6e,W6f,W6g,W6h,W6i,W6j,W6k,W6l,W6m,W6n,W6o,W6p,W6q,W6r,Nat.reduceSub, List.getElem?_eq_getElem, hx]
    | _ => exact same_atom (k := k + (n + 1)) p
theorem same_eq [h : H__law_same T] {n k : Nat} {d e : D} (p : plainD n d = true) (q : d = e) (hk : n + 1 ≤ k) : run T k i__law_same [d, e] = ret (.bl true) := by
  subst q
  obtain ⟨j, rfl⟩ : ∃ j, k = j + n + 1 := ⟨k - n - 1, by omega⟩
  exact same_ok p
theorem hr_same [h : H__law_same T] {n k : Nat} {d e : D} {α : Type} {f : D → M α} {Q : α → Prop} (p : plainD n d = true) (q : d = e) (hk : n + 1 ≤ k) (r : Hr (f (.bl true)) Q) : Hr (bnd (run T k i__law_same [d, e]) f) Q := by
  rw [same_eq p q hk, W00]; exact r
theorem same_le [h : H__law_same T] {n k : Nat} {d : D} (p : plainD n d = true) (hk : n + 1 ≤ k) : run T k i__law_same [d, d] = ret (.bl true) := by
  obtain ⟨j, rfl⟩ : ∃ j, k = j + n + 1 := ⟨k - n - 1, by omega⟩
  exact same_ok p
end
end MP
set_option linter.all false
set_option maxRecDepth 100000
/-! ML4: a law's frame: what is written ahead, the cup, the rest. -/
namespace MP
def takeS : Nat → Ss → Ss
  | 0, _ => .nil
  | _, .nil => .nil
  | n + 1, .cons s r => .cons s (takeS n r)
def dropS : Nat → Ss → Ss
  | 0, r => r
  | _, .nil => .nil
  | n + 1, .cons _ r => dropS n r
theorem exs_split (C : Nat → List D → M D) : ∀ (n : Nat) (r : Ss) (ρ : List D), exs C r ρ = bnd (exs C (takeS n r) ρ) (seq C (dropS n r))
  | 0, r, ρ => by rw [takeS, W12, W00]; rfl
  | n + 1, .nil, ρ => by rw [takeS, dropS, W12, W00]; rfl; all_goals (intro h; cases h)
  | n + 1, .cons s r, ρ => by
    rw [takeS, dropS, W13, W13, W02]
    congr; funext f
    cases f with
    | nx ρ' => exact exs_split C n r ρ'
    | _ => rfl
def stOf (o : Out Fl) : List D := match o with
  | .ok (.nx ρ) _ => ρ
  | _ => []
def cupF (a b c p d : Int) : Fun := ⟨1, 2, .cons (.asg (.nm 1) (.op1 .abs (.op2 .ix (.op2 .add (.op1 .list (.var 0)) (.lst (.cons (.cst (Nt 0)) .nil))) (.cst (Nt 0))))) (.cons (.ret (.lst (.cons (.ite (.op2 .ge (.var 1) (.op2 .pow (.cst (Nt 10)) (.cst (Nt 18)))) (.op2 .fdiv (.var 1) (.cst (.int a))) (.cst (Nt 0))) (.cons (.op2 .add (.op2 .mod (.op1 .int (.op2 .add (.op2 .mul (.var 1) (.cst (.int b))) (.cst (.int c)))) (.cst (.int p))) (.cst (.int d))) .nil)))) .nil)⟩
class HCup (T : Nat → Option Fun) : Prop where
  ex : ∃ a b c p d : Int, T i__law_cup = some (cupF a b c p d) ∧ (0 < a ∧ a < 1000000) ∧ (-(2 ^ 62) < b ∧ b < 2 ^ 62) ∧ 0 < p
theorem law_cup {T : Nat → Option Fun} [h : HCup T] {k : Nat} {l : List Int} (hl : l.length ≤ 1000000) : ∃ x y : Int, run T (k + 1) i__law_cup [.scr l] = ret (.lst [.int x, .int y]) := by
  obtain ⟨a, b, c, p, d, e, ha, hb, hp⟩ := h.ex
  have hcell : ∃ z : Int, (l.map D.int ++ [D.int 0])[0]? = some (.int z) := by
    cases l with
    | nil => exact ⟨0, rfl⟩
    | cons x r => exact ⟨x, rfl⟩
  obtain ⟨z, hz⟩ := hcell
  obtain ⟨w, hw, hab⟩ : ∃ w : Int, 0 ≤ w ∧ op1 .abs (.int z) = some (.int w) := ⟨if z < 0 then -z else z, by split <;> omega, rfl⟩
  have e1 : op1 .list (.scr l) = some (.lst (l.map D.int)) := rfl
  have e2 : op2M .add (.lst (l.map D.int)) (.lst [.int ((0 : Nat) : Int)]) = ret (.lst (l.map D.int ++ [.int 0])) := by
    funext κ
    have : addD (.lst (l.map D.int)) (.lst [.int ((0 : Nat) : Int)]) = some (.lst (l.map D.int ++ [.int 0])) := by
      unfold addD
      simp only
      rw [if_pos (by simp [line]; omega)]; rfl
    show opt (addD (.lst (l.map D.int)) (.lst [.int ((0 : Nat) : Int)])) κ = _
    rw [this]; rfl
  have e3 : op2M .pow (.int ((10 : Nat) : Int)) (.int ((18 : Nat) : Int)) = ret (.int 1000000000000000000) := by funext κ; rfl
  have e4 : op2M .fdiv (.int w) (.int a) = ret (.int (w / a)) := by
    funext κ
    show opt (fdivD (.int w) (.int a)) κ = _
    unfold fdivD
    simp only
    rw [if_pos (by omega)]; rfl
  have e5 : op2M .mul (.int w) (.int b) = ret (.int (w * b)) := o_mulI w b (by
    unfold mulOk
    rw [decide_eq_true (show -(2 ^ 64) < b by omega), decide_eq_true (show b < 2 ^ 64 by omega)]; simp)
  have e6 : ∀ y : Int, op2M .mod (.int y) (.int p) = ret (.int (y % p)) := fun y => by
    funext κ
    show opt (modD (.int y) (.int p)) κ = _
    unfold modD
    simp only
    rw [if_pos hp]; rfl
  rw [run_b e rfl]
  unfold cupF
  cases hc : decide ((1000000000000000000 : Int) ≤ w)
  · refine ⟨((0 : Nat) : Int), (w * b + c) % p + d, ?_⟩
    simp (disch := first | (with_reducible rfl) | assumption | omega) only [W00,W01,W02,W03,W04,W05,W06,W07,W08,W09,W0a,W0b,W0c,W0d,W0e,W0f,W0g,W0h,W0i,W0j,W0k,W0l,W0m,W0n,W0o,W0p,W0q,W0r,W0s,W0t,W0u,W0v,W0w,W0x,W0y,W0z,W10,W11,W12,W13,W14,W15,W16,W17,W18,W19,W1a,W1b,W1c,W1d,W1e,W1f,W1g,W1h,W1i,W1j,W1k,W1l,W1m,W1n,W1o,W1p,W1q,W1r,W1s,W1t,W1u,W1v,W1w,W1x,W1y,W1z,W20,W21,W22,W23,W24,W25,W26,W27,W28,W29,W2a,W2b,W2c,W2d,W2e,W2f,W2g,W2h,W2i,W2j,W2k,W2l,W2m,W2n,W2o,W2p,W2q,W2r,W2s,W2t,W2u,W2v,W2w,W2x,W2y,W2z,W30,W31,W32,W33,W34,W35,W36,W37,W38,W39,W3a,W3b,W3c,W3d,W3e,W3f,W3g,W3h,W3i,W3j,W3k,W3l,W3m,W3n,W3o,W3p,W3q,W3r,W3s,W3t,W3u,W3v,W3w,W3x,W3y,W3z,W40,W41,W42,W43,W44,W45,W46,W47,W48,W49,W4a,W4b,W4c,W4d,W4e,W4f,W4g,W4h,W4i,W4j,W4k,W4l,W4m,W4n,W4o,W4p,W4q,W4r,W4s,W4t,W4u,W4v,W4w,W4x,W4y,W4z,W50,W51,W52,W53,W54,W55,W56,W57,W58,W59,W5a,W5b,W5c,W5d,W5e,W5f,W5g,W5h,W5i,W5j,W5k,W5l,W5m,W5n,W5o,W5p,W5q,W5r,W5s,W5t,W5u,W5v,W5w,W5x,W5y,W5z,W60,W61,W62,W63,W64,W65,W66,W67,W68,W69,W6a,W6b,W6c,W6d,W6e,W6f,W6g,W6h,W6i,W6j,W6k,W6l,W6m,W6n,W6o,W6p,W6q,W6r,Nat.reduceSub, e1, e2, e3, e5, e6, hz, hab, hc]
  · refine ⟨w / a, (w * b + c) % p + d, ?_⟩
    simp (disch := first | (with_reducible rfl) | assumption | omega) only [W00,W01,W02,W03,W04,W05,W06,W07,W08,W09,W0a,W0b,W0c,W0d,W0e,W0f,W0g,W0h,W0i,W0j,W0k,W0l,W0m,W0n,W0o,W0p,W0q,W0r,W0s,W0t,W0u,W0v,W0w,W0x,W0y,W0z,W10,W11,W12,W13,W14,W15,W16,W17,W18,W19,W1a,W1b,W1c,W1d,W1e,W1f,W1g,W1h,W1i,W1j,W1k,W1l,W1m,W1n,W1o,W1p,W1q,W1r,W1s,W1t,W1u,W1v,W1w,W1x,W1y,W1z,W20,W21,W22,W23,W24,W25,W26,W27,W28,W29,W2a,W2b,W2c,W2d,W2e,W2f,W2g,W2h,W2i,W2j,W2k,W2l,W2m,W2n,W2o,W2p,W2q,W2r,W2s,W2t,W2u,W2v,W2w,W2x,W2y,W2z,W30,W31,W32,W33,W34,W35,W36,W37,W38,W39,W3a,W3b,W3c,W3d,W3e,W3f,W3g,W3h,W3i,W3j,W3k,W3l,W3m,W3n,W3o,W3p,W3q,W3r,W3s,W3t,W3u,W3v,W3w,W3x,W3y,W3z,W40,W41,W42,W43,W44,W45,W46,W47,W48,W49,W4a,W4b,W4c,W4d,W4e,W4f,W4g,W4h,W4i,W4j,W4k,W4l,W4m,W4n,W4o,W4p,W4q,W4r,W4s,W4t,W4u,W4v,W4w,W4x,W4y,W4z,W50,W51,W52,W53,W54,W55,W56,W57,W58,W59,W5a,W5b,W5c,W5d,W5e,W5f,W5g,W5h,W5i,W5j,W5k,W5l,W5m,W5n,W5o,W5p,W5q,W5r,W5s,W5t,W5u,W5v,W5w,W5x,W5y,W5z,W60,W61,W62,W63,W64,W65,W66,W67,W68,W69,W6a,W6b,W6c,W6d,W6e,W6f,W6g,W6h,W6i,W6j,W6k,W6l,W6m,W6n,W6o,W6p,W6q,W6r,Nat.reduceSub, e1, e2, e3, e4, e5, e6, hz, hab, hc]
theorem hr_mkcup {T : Nat → Option Fun} [h : HCup T] {k c : Nat} {l : List Int} {ρ : List D} (hl : l.length ≤ 1000000) : Hr (ex (run T (k + 1)) (.mkcup c (.call i__law_cup (.cons (.var 0) .nil))) (.scr l :: ρ)) fun f => f = .nx ((.scr l :: ρ).set c .cup) := by
  obtain ⟨x, y, e⟩ := law_cup (T := T) (k := k) hl
  intro κ
  refine ⟨_, (x, y), ?_, rfl⟩
  simp (disch := first | (with_reducible rfl) | assumption | omega) only [W00,W01,W02,W03,W04,W05,W06,W07,W08,W09,W0a,W0b,W0c,W0d,W0e,W0f,W0g,W0h,W0i,W0j,W0k,W0l,W0m,W0n,W0o,W0p,W0q,W0r,W0s,W0t,W0u,W0v,W0w,W0x,W0y,W0z,W10,W11,W12,W13,W14,W15,W16,W17,W18,W19,W1a,W1b,W1c,W1d,W1e,W1f,W1g,W1h,W1i,W1j,W1k,W1l,W1m,W1n,W1o,W1p,W1q,W1r,W1s,W1t,W1u,W1v,W1w,W1x,W1y,W1z,W20,W21,W22,W23,W24,W25,W26,W27,W28,W29,W2a,W2b,W2c,W2d,W2e,W2f,W2g,W2h,W2i,W2j,W2k,W2l,W2m,W2n,W2o,W2p,W2q,W2r,W2s,W2t,W2u,W2v,W2w,W2x,W2y,W2z,W30,W31,W32,W33,W34,W35,W36,W37,W38,W39,W3a,W3b,W3c,W3d,W3e,W3f,W3g,W3h,W3i,W3j,W3k,W3l,W3m,W3n,W3o,W3p,W3q,W3r,W3s,W3t,W3u,W3v,W3w,W3x,W3y,W3z,W40,W41,W42,W43,W44,W45,W46,W47,W48,W49,W4a,W4b,W4c,W4d,W4e,W4f,W4g,W4h,W4i,W4j,W4k,W4l,W4m,W4n,W4o,W4p,W4q,W4r,W4s,W4t,W4u,W4v,W4w,W4x,W4y,W4z,W50,W51,W52,W53,W54,W55,W56,W57,W58,W59,W5a,W5b,W5c,W5d,W5e,W5f,W5g,W5h,W5i,W5j,W5k,W5l,W5m,W5n,W5o,W5p,W5q,W5r,W5s,W5t,W5u,W5v,W5w,W5x,W5y,W5z,W60,W61,W62,W63,W64,W65,W66,W67,W68,W69,W6a,W6b,W6c,W6d,W6e,W6f,W6g,W6h,W6i,W6j,W6k,W6l,W6m,W6n,W6o,W6p,W6q,W6r,Nat.reduceSub, e]
  rfl
/-- a law: what is written ahead holds, the rest from the cup on -/
theorem law_by {T : Nat → Option Fun} [HCup T] {F : Fun} {k n c : Nat} {l : List Int} {ρ : List D} (hl : l.length ≤ 1000000) (hT : T i_law = some F) (h1 : 1 = F.np)
    (hd : dropS n F.body = .cons (.mkcup c (.call i__law_cup (.cons (.var 0) .nil))) (dropS (n + 1) F.body))
    (hpre : exs (run T (k + 1)) (takeS n F.body) ([.scr l] ++ List.replicate (F.nl - F.np) .und) = ret (.nx (.scr l :: ρ)))
    (h : Hr (exs (run T (k + 1)) (dropS (n + 1) F.body) ((.scr l :: ρ).set c .cup)) fun f => f = .rt (.bl true)) : ∃ κ, run T (k + 1 + 1) i_law [.scr l] (0, 0) = .ok (.bl true) κ := by
  have : Hr (run T (k + 1 + 1) i_law [.scr l]) fun d => d = .bl true := by
    rw [run_b hT (show [D.scr l].length = F.np from h1), exs_split _ n, hpre, W00, W14, hd, W13, W02]
    refine Hr.bnd (hr_mkcup hl) ?_
    rintro f rfl
    rw [W01, W14]
    refine Hr.bnd h ?_
    rintro f rfl
    exact Hr.ret rfl
  obtain ⟨a, κ, e, p⟩ := this (0, 0)
  exact ⟨κ, by rw [e, p]⟩
end MP
set_option linter.all false
set_option maxRecDepth 100000
/-! ML5: slices, more of lists; draws of rows. -/
namespace MP
theorem clip_n (n i : Nat) : clip n (i : Int) = min i n := by
  unfold clip
  rw [if_pos (by omega)]; rfl
theorem cut_lo {α : Type} (xs : List α) (i : Nat) : cutL xs (some (i : Int)) none = xs.drop i := by
  unfold cutL
  simp only [clip_n]
  by_cases h : i ≤ xs.length
  · rw [Nat.min_eq_left h, List.take_of_length_le (by rw [List.length_drop]; exact Nat.le_refl _)]
  · rw [Nat.min_eq_right (by omega), List.drop_of_length_le (Nat.le_refl _), List.drop_of_length_le (by omega)]; simp
theorem cut_hi {α : Type} (xs : List α) (i : Nat) : cutL xs none (some (i : Int)) = xs.take i := by
  unfold cutL
  simp only [clip_n, List.drop_zero, Nat.sub_zero]
  by_cases h : i ≤ xs.length
  · rw [Nat.min_eq_left h]
  · rw [Nat.min_eq_right (by omega), List.take_of_length_le (Nat.le_refl _), List.take_of_length_le (by omega)]
theorem cut_both {α : Type} (xs : List α) (i j : Nat) : cutL xs (some (i : Int)) (some (j : Int)) = (xs.drop i).take (j - i) := by
  unfold cutL
  simp only [clip_n]
  by_cases h : i ≤ xs.length
  · rw [Nat.min_eq_left h]
    by_cases g : j ≤ xs.length
    · rw [Nat.min_eq_left g]
    · rw [Nat.min_eq_right (by omega), List.take_of_length_le (by rw [List.length_drop]; exact Nat.le_refl _), List.take_of_length_le (by rw [List.length_drop]; omega)]
  · rw [Nat.min_eq_right (show xs.length ≤ i by omega), List.drop_of_length_le (Nat.le_refl _), List.drop_of_length_le (by omega)]; simp
theorem cut_last {α : Type} (xs : List α) : cutL xs none (some (-1)) = xs.dropLast := by
  unfold cutL clip
  simp only [List.drop_zero, Nat.sub_zero]
  rw [if_neg (by decide), List.dropLast_eq_take]
  congr 1
  omega
theorem W6s (xs : List D) (i : Nat) : op2M .slA (.tup xs) (.int (i : Int)) = ret (.tup (xs.drop i)) := by
  funext κ
  show opt (some (D.tup (cutL xs (some (i : Int)) none))) κ = _
  rw [cut_lo]; rfl
theorem W6t (xs : List D) (i : Nat) : op2M .slA (.lst xs) (.int (i : Int)) = ret (.lst (xs.drop i)) := by
  funext κ
  show opt (some (D.lst (cutL xs (some (i : Int)) none))) κ = _
  rw [cut_lo]; rfl
theorem W6u (xs : List D) (i : Nat) : op2M .slB (.tup xs) (.int (i : Int)) = ret (.tup (xs.take i)) := by
  funext κ
  show opt (some (D.tup (cutL xs none (some (i : Int))))) κ = _
  rw [cut_hi]; rfl
theorem W6v (xs : List D) (i : Nat) : op2M .slB (.lst xs) (.int (i : Int)) = ret (.lst (xs.take i)) := by
  funext κ
  show opt (some (D.lst (cutL xs none (some (i : Int))))) κ = _
  rw [cut_hi]; rfl
theorem W6w (xs : List D) (i j : Nat) : op3 .slC (.tup xs) (.int (i : Int)) (.int (j : Int)) = some (.tup ((xs.drop i).take (j - i))) := by
  show some (D.tup (cutL xs (some (i : Int)) (some (j : Int)))) = _
  rw [cut_both]
theorem W6x (xs : List D) (i j : Nat) : op3 .slC (.lst xs) (.int (i : Int)) (.int (j : Int)) = some (.lst ((xs.drop i).take (j - i))) := by
  show some (D.lst (cutL xs (some (i : Int)) (some (j : Int)))) = _
  rw [cut_both]
theorem W6y (i : Int) : op1 .neg (.int i) = some (.int (-i)) := rfl
theorem W6z (xs : List D) : op2M .slB (.tup xs) (.int (-((1 : Nat) : Int))) = ret (.tup xs.dropLast) := by
  funext κ
  show opt (some (D.tup (cutL xs none (some (-1))))) κ = _
  rw [cut_last]; rfl
theorem W70 (xs : List D) : op2M .slB (.lst xs) (.int (-((1 : Nat) : Int))) = ret (.lst xs.dropLast) := by
  funext κ
  show opt (some (D.lst (cutL xs none (some (-1))))) κ = _
  rw [cut_last]; rfl
theorem at_last {α : Type} (xs : List α) : atD xs (-1) = xs.getLast? := by
  unfold atD place
  rw [if_neg (by decide), List.getLast?_eq_getElem?]
  by_cases h : xs.length = 0
  · rw [if_neg (by omega), List.getElem?_eq_none (by omega)]; rfl
  · rw [if_pos (by omega)]
    show xs[((-1 : Int) + xs.length).toNat]? = _
    congr 1
    omega
theorem W71 (xs : List D) : op2M .ix (.tup xs) (.int (-((1 : Nat) : Int))) = opt xs.getLast? := by
  funext κ
  show opt (atD xs (-1)) κ = _
  rw [at_last]
theorem W72 (xs : List D) : op2M .ix (.lst xs) (.int (-((1 : Nat) : Int))) = opt xs.getLast? := by
  funext κ
  show opt (atD xs (-1)) κ = _
  rw [at_last]
theorem W73 (xs : List D) : op1 .rev (.tup xs) = some (.tup xs.reverse) := rfl
theorem W74 (xs : List D) : op1 .rev (.lst xs) = some (.lst xs.reverse) := rfl
theorem W75 (l : List Nat) (i : Nat) : (ns l).drop i = ns (l.drop i) := by simp [ns]
theorem W76 (l : List Nat) (i : Nat) : (ns l).take i = ns (l.take i) := by simp [ns]
theorem W77 (l : List Nat) : (ns l).reverse = ns l.reverse := by simp [ns]
theorem W78 (l : List Nat) : (ns l).dropLast = ns l.dropLast := by
  rw [List.dropLast_eq_take, List.dropLast_eq_take, W76, W4w]
theorem W79 (l : List Nat) : (ns l).getLast? = l.getLast?.map fun n => .int (n : Int) := by simp [ns, List.getLast?_map]
theorem W7a (l : List Nat) : (ns l).isEmpty = l.isEmpty := by cases l <;> rfl
theorem W7b : ns [] = [] := rfl
theorem ns_c (a : Nat) (l : List Nat) : ns (a :: l) = .int (a : Int) :: ns l := rfl
theorem ns_c1 (a : Nat) : [D.int (a : Int)] = ns [a] := rfl
theorem W7c (n : Nat) : truth (.int (n : Int)) = some (!decide (n = 0)) := by
  show some ((n : Int) != 0) = _
  congr 1
  by_cases h : n = 0
  · subst h; rfl
  · have : (n : Int) ≠ 0 := by omega
    simp [h]
theorem W7d (l : List Nat) (b : Nat → Bool) : l.flatMap (fun a => [D.bl (b a)]) = l.map fun a => .bl (b a) := by induction l <;> simp_all
theorem sum_mapN (l : List Nat) : op1 .sum (.lst (ns l)) = some (.int ((l.sum : Nat) : Int)) := by
  have h : ∀ l : List Nat, intL (ns l) = some (l.map fun (n : Nat) => (n : Int)) := fun l => by
    induction l with
    | nil => rfl
    | cons a l ih => rw [ns_c, intL, ih]; rfl
  have e : ∀ l : List Nat, (l.map fun (n : Nat) => (n : Int)).sum = ((l.sum : Nat) : Int) := fun l => by
    induction l with
    | nil => rfl
    | cons a l ih => rw [List.map_cons, List.sum_cons, List.sum_cons, ih]; omega
  show ((lstOf (.lst (ns l))).bind fun xs => (intL xs).map fun ns => D.int ns.sum) = _
  show (intL (ns l)).map (fun ns => D.int ns.sum) = _
  rw [h, Option.map_some, e]
theorem W7e (l : List Nat) : op1 .sum (.tup (ns l)) = some (.int ((l.sum : Nat) : Int)) := sum_mapN l
theorem W7f (l : List Nat) : op1 .sum (.lst (ns l)) = some (.int ((l.sum : Nat) : Int)) := sum_mapN l
theorem W7g {α β : Type} (l : List α) : l.flatMap (fun _ => ([] : List β)) = [] := by induction l <;> simp_all
theorem eqL_nil (xs : List D) : eqD (.lst xs) (.lst []) = some xs.isEmpty := by
  cases xs with
  | nil => rfl
  | cons x xs => rfl
theorem eqT_nil (xs : List D) : eqD (.tup xs) (.tup []) = some xs.isEmpty := by cases xs <;> rfl
theorem W7h (xs : List D) : op2M .ne (.lst xs) (.lst []) = ret (.bl (!xs.isEmpty)) := by
  funext κ
  show opt ((eqD (.lst xs) (.lst [])).map fun b => D.bl (!b)) κ = _
  rw [eqL_nil]; rfl
theorem W7i (xs : List D) : op2M .eq (.lst xs) (.lst []) = ret (.bl xs.isEmpty) := by
  funext κ
  show opt ((eqD (.lst xs) (.lst [])).map D.bl) κ = _
  rw [eqL_nil]; rfl
theorem W7j (xs : List D) : op2M .ne (.tup xs) (.tup []) = ret (.bl (!xs.isEmpty)) := by
  funext κ
  show opt ((eqD (.tup xs) (.tup [])).map fun b => D.bl (!b)) κ = _
  rw [eqT_nil]; rfl
theorem W7k (xs : List D) : op2M .eq (.tup xs) (.tup []) = ret (.bl xs.isEmpty) := by
  funext κ
  show opt ((eqD (.tup xs) (.tup [])).map D.bl) κ = _
  rw [eqT_nil]; rfl
theorem W7l {α : Type} : ([] : List α).isEmpty = true := rfl
theorem W7m {α : Type} (a : α) (l : List α) : (a :: l).isEmpty = false := rfl
theorem W7n {α β : Type} (l : List α) (f : α → β) : (l.map f).isEmpty = l.isEmpty := by cases l <;> rfl
theorem W7o {α β : Type} (l : List α) (f : α → β) : (l.map f).getLast? = l.getLast?.map f := List.getLast?_map ..
theorem plain_map {α : Type} (n : Nat) (l : List α) (f : α → D) (h : l.length ≤ 1000) (p : ∀ a, a ∈ l → plainD n (f a) = true) : plainD (n + 1) (.tup (l.map f)) = true := by
  unfold plainD
  rw [List.length_map, decide_eq_true h, Bool.true_and, List.all_map]
  exact List.all_eq_true.mpr fun a ha => p a ha
/-! drawing lists -/
theorem hr_colM {α : Type} {P : α → Nat → Prop} : ∀ {l : List α} {f : ∀ a, a ∈ l → M (List D)}, (∀ a h, Hr (f a h) fun r => ∃ v : Nat, r = [.int (v : Int)] ∧ P a v) → Hr (colM l f) fun r => ∃ vs : List Nat, r = ns vs ∧ vs.length = l.length ∧ ∀ (i : Nat) (a : α) (v : Nat), l[i]? = some a → vs[i]? = some v → P a v
  | [], f, _ => Hr.ret ⟨[], rfl, rfl, fun i a v h => by simp at h⟩
  | a :: l, f, h => by
    rw [colM]
    refine Hr.bnd (h a _) ?_
    rintro _ ⟨v, rfl, hv⟩
    refine Hr.bnd (hr_colM (P := P) fun b hb => h b _) ?_
    rintro _ ⟨vs, rfl, hl, hvs⟩
    refine Hr.ret ⟨v :: vs, rfl, by simp [hl], fun i b w e1 e2 => ?_⟩
    cases i with
    | zero => simp at e1 e2; subst e1 e2; exact hv
    | succ i => exact hvs i b w (by simpa using e1) (by simpa using e2)
theorem hr_colR {n : Nat} {P : Nat → Nat → Prop} {f : ∀ i, i < n → M (List D)} (h : ∀ i hi, Hr (f i hi) fun r => ∃ v : Nat, r = [.int (v : Int)] ∧ P i v) : Hr (colR n f) fun r => ∃ vs : List Nat, r = ns vs ∧ vs.length = n ∧ ∀ (i : Nat) (v : Nat), vs[i]? = some v → P i v := by
  refine Hr.mono (hr_colM (P := P) (l := List.range n) fun a ha => h a (List.mem_range.mp ha)) ?_
  rintro _ ⟨vs, rfl, hl, hv⟩
  refine ⟨vs, rfl, by simpa using hl, fun i v e => hv i i v ?_ e⟩
  have := (List.getElem?_eq_some_iff.mp e).1
  rw [hl] at this
  exact List.getElem?_range (by simpa using this)
/-- all less than n -/
def Below (n : Nat) (l : List Nat) : Prop := ∀ v ∈ l, v < n
theorem s_law_row {T : Nat → Option Fun} [h : H__law_row T] [HRoll T] {k n m : Nat} (hn : 0 < n ∧ n < 1000000) (hm : 0 < m ∧ m < 1000) : Hr (run T (k + 2) i__law_row [.cup, .int (n : Int), .int (m : Int)]) fun d => ∃ r : List Nat, d = .tup (ns r) ∧ 1 ≤ r.length ∧ r.length ≤ m ∧ Below n r := by
  rw [run_b h.q__law_row rfl]
  unfold F__law_row
  simp (disch := first | (with_reducible rfl) | assumption | omega) only [W00,W01,W02,W03,W04,W05,W06,W07,W08,W09,W0a,W0b,W0c,W0d,W0e,W0f,W0g,W0h,W0i,W0j,W0k,W0l,W0m,W0n,W0o,W0p,W0q,W0r,W0s,W0t,W0u,W0v,W0w,W0x,W0y,W0z,W10,W11,W12,W13,W14,W15,W16,W17,W18,W19,W1a,W1b,W1c,W1d,W1e,W1f,W1g,W1h,W1i,W1j,W1k,W1l,W1m,W1n,W1o,W1p,W1q,W1r,W1s,W1t,W1u,W1v,W1w,W1x,W1y,W1z,W20,W21,W22,W23,W24,W25,W26,W27,W28,W29,W2a,W2b,W2c,W2d,W2e,W2f,W2g,W2h,W2i,W2j,W2k,W2l,W2m,W2n,W2o,W2p,W2q,W2r,W2s,W2t,W2u,W2v,W2w,W2x,W2y,W2z,W30,W31,W32,W33,W34,W35,W36,W37,W38,W39,W3a,W3b,W3c,W3d,W3e,W3f,W3g,W3h,W3i,W3j,W3k,W3l,W3m,W3n,W3o,W3p,W3q,W3r,W3s,W3t,W3u,W3v,W3w,W3x,W3y,W3z,W40,W41,W42,W43,W44,W45,W46,W47,W48,W49,W4a,W4b,W4c,W4d,W4e,W4f,W4g,W4h,W4i,W4j,W4k,W4l,W4m,W4n,W4o,W4p,W4q,W4r,W4s,W4t,W4u,W4v,W4w,W4x,W4y,W4z,W50,W51,W52,W53,W54,W55,W56,W57,W58,W59,W5a,W5b,W5c,W5d,W5e,W5f,W5g,W5h,W5i,W5j,W5k,W5l,W5m,W5n,W5o,W5p,W5q,W5r,W5s,W5t,W5u,W5v,W5w,W5x,W5y,W5z,W60,W61,W62,W63,W64,W65,W66,W67,W68,W69,W6a,W6b,W6c,W6d,W6e,W6f,W6g,W6h,W6i,W6j,W6k,W6l,W6m,W6n,W6o,W6p,W6q,W6r,W6s,W6t,W6u,W6v,W6w,W6x,W6y,W6z,W70,W71,W72,W73,W74,W75,W76,W77,W78,W79,W7a,W7b,W7c,W7d,W7e,W7f,W7g,W7h,W7i,W7j,W7k,W7l,W7m,W7n,W7o,Nat.reduceSub]
  refine Hr.bnd (Hr.calm ?_) (P := fun ds => ∃ r : List Nat, ds = ns r ∧ 1 ≤ r.length ∧ r.length ≤ m ∧ Below n r) ?_
  · refine Hr.bnd (roll hm.1 (by omega)) ?_
    rintro _ ⟨c, rfl, hc⟩
    simp (disch := first | (with_reducible rfl) | assumption | omega) only [W00,W01,W02,W03,W04,W05,W06,W07,W08,W09,W0a,W0b,W0c,W0d,W0e,W0f,W0g,W0h,W0i,W0j,W0k,W0l,W0m,W0n,W0o,W0p,W0q,W0r,W0s,W0t,W0u,W0v,W0w,W0x,W0y,W0z,W10,W11,W12,W13,W14,W15,W16,W17,W18,W19,W1a,W1b,W1c,W1d,W1e,W1f,W1g,W1h,W1i,W1j,W1k,W1l,W1m,W1n,W1o,W1p,W1q,W1r,W1s,W1t,W1u,W1v,W1w,W1x,W1y,W1z,W20,W21,W22,W23,W24,W25,W26,W27,W28,W29,W2a,W2b,W2c,W2d,W2e,W2f,W2g,W2h,W2i,W2j,W2k,W2l,W2m,W2n,W2o,W2p,W2q,W2r,W2s,W2t,W2u,W2v,W2w,W2x,W2y,W2z,W30,W31,W32,W33,W34,W35,W36,W37,W38,W39,W3a,W3b,W3c,W3d,W3e,W3f,W3g,W3h,W3i,W3j,W3k,W3l,W3m,W3n,W3o,W3p,W3q,W3r,W3s,W3t,W3u,W3v,W3w,W3x,W3y,W3z,W40,W41,W42,W43,W44,W45,W46,W47,W48,W49,W4a,W4b,W4c,W4d,W4e,W4f,W4g,W4h,W4i,W4j,W4k,W4l,W4m,W4n,W4o,W4p,W4q,W4r,W4s,W4t,W4u,W4v,W4w,W4x,W4y,W4z,W50,W51,W52,W53,W54,W55,W56,W57,W58,W59,W5a,W5b,W5c,W5d,W5e,W5f,W5g,W5h,W5i,W5j,W5k,W5l,W5m,W5n,W5o,W5p,W5q,W5r,W5s,W5t,W5u,W5v,W5w,W5x,W5y,W5z,W60,W61,W62,W63,W64,W65,W66,W67,W68,W69,W6a,W6b,W6c,W6d,W6e,W6f,W6g,W6h,W6i,W6j,W6k,W6l,W6m,W6n,W6o,W6p,W6q,W6r,W6s,W6t,W6u,W6v,W6w,W6x,W6y,W6z,W70,W71,W72,W73,W74,W75,W76,W77,W78,W79,W7a,W7b,W7c,W7d,W7e,W7f,W7g,W7h,W7i,W7j,W7k,W7l,W7m,W7n,W7o,Nat.reduceSub]
    refine Hr.mono (hr_colR (P := fun _ v => v < n) fun i hi => Hr.bnd (roll hn.1 hn.2) ?_) ?_
    · rintro _ ⟨v, rfl, hv⟩
      exact Hr.ret ⟨v, rfl, hv⟩
    · rintro _ ⟨vs, rfl, hl, hv⟩
      refine ⟨vs, rfl, by omega, by omega, fun v hv' => ?_⟩
      obtain ⟨i, hi⟩ := List.getElem?_of_mem hv'
      exact hv i v hi
  · rintro _ ⟨r, rfl, h1, h2, h3⟩
    have : r.length ≤ 16777216 := by omega
    simp (disch := first | (with_reducible rfl) | assumption | omega) only [W00,W01,W02,W03,W04,W05,W06,W07,W08,W09,W0a,W0b,W0c,W0d,W0e,W0f,W0g,W0h,W0i,W0j,W0k,W0l,W0m,W0n,W0o,W0p,W0q,W0r,W0s,W0t,W0u,W0v,W0w,W0x,W0y,W0z,W10,W11,W12,W13,W14,W15,W16,W17,W18,W19,W1a,W1b,W1c,W1d,W1e,W1f,W1g,W1h,W1i,W1j,W1k,W1l,W1m,W1n,W1o,W1p,W1q,W1r,W1s,W1t,W1u,W1v,W1w,W1x,W1y,W1z,W20,W21,W22,W23,W24,W25,W26,W27,W28,W29,W2a,W2b,W2c,W2d,W2e,W2f,W2g,W2h,W2i,W2j,W2k,W2l,W2m,W2n,W2o,W2p,W2q,W2r,W2s,W2t,W2u,W2v,W2w,W2x,W2y,W2z,W30,W31,W32,W33,W34,W35,W36,W37,W38,W39,W3a,W3b,W3c,W3d,W3e,W3f,W3g,W3h,W3i,W3j,W3k,W3l,W3m,W3n,W3o,W3p,W3q,W3r,W3s,W3t,W3u,W3v,W3w,W3x,W3y,W3z,W40,W41,W42,W43,W44,W45,W46,W47,W48,W49,W4a,W4b,W4c,W4d,W4e,W4f,W4g,W4h,W4i,W4j,W4k,W4l,W4m,W4n,W4o,W4p,W4q,W4r,W4s,W4t,W4u,W4v,W4w,W4x,W4y,W4z,W50,W51,W52,W53,W54,W55,W56,W57,W58,W59,W5a,W5b,W5c,W5d,W5e,W5f,W5g,W5h,W5i,W5j,W5k,W5l,W5m,W5n,W5o,W5p,W5q,W5r,W5s,W5t,W5u,W5v,W5w,W5x,W5y,W5z,W60,W61,W62,W63,W64,W65,W66,W67,W68,W69,W6a,W6b,W6c,W6d,W6e,W6f,W6g,W6h,W6i,W6j,W6k,W6l,W6m,W6n,W6o,W6p,W6q,W6r,W6s,W6t,W6u,W6v,W6w,W6x,W6y,W6z,W70,W71,W72,W73,W74,W75,W76,W77,W78,W79,W7a,W7b,W7c,W7d,W7e,W7f,W7g,W7h,W7i,W7j,W7k,W7l,W7m,W7n,W7o,Nat.reduceSub]
    exact Hr.ret ⟨r, rfl, h1, h2, h3⟩
/-! loops over lists -/
section
variable {st : D → List D → Option (List D)} {b : List D → M Fl} {α : Type}
theorem fp_forP {I : List α → List D → Prop} {F : α → D} {ρ : List D} {l : List α} (h : I [] ρ) (s : ∀ p v q ρ, l = p ++ v :: q → I p ρ → ∃ f, bnd (opt (st (F v) ρ)) b = ret f ∧ ∃ ρ', (f = .nx ρ' ∨ f = .ct ρ') ∧ I (p ++ [v]) ρ') : ∃ ρ', forL st b (l.map F) ρ = ret (.nx ρ') ∧ I l ρ' := by
  have := fp_for (st := st) (b := b) (I := fun i ρ => I (l.take i) ρ) (ρ := ρ) (xs := l.map F) (j := 0) h fun i x ρ e q => by
    rw [List.getElem?_map] at e
    obtain ⟨v, hv, rfl⟩ := Option.map_eq_some_iff.mp e
    obtain ⟨hi, hv'⟩ := List.getElem?_eq_some_iff.mp hv
    have := s (l.take i) v (l.drop (i + 1)) ρ (by rw [← hv', List.getElem_cons_drop, List.take_append_drop]) (by simpa using q)
    rw [Nat.zero_add, List.take_succ_eq_append_getElem hi, hv']
    exact this
  simpa using this
theorem hr_forP {I : List α → List D → Prop} {F : α → D} {ρ : List D} {l : List α} (h : I [] ρ) (s : ∀ p v q ρ, l = p ++ v :: q → I p ρ → Hr (bnd (opt (st (F v) ρ)) b) fun f => ∃ ρ', (f = .nx ρ' ∨ f = .ct ρ') ∧ I (p ++ [v]) ρ') : Hr (forL st b (l.map F) ρ) fun f => ∃ ρ', f = .nx ρ' ∧ I l ρ' := by
  have := hr_for (st := st) (b := b) (I := fun i ρ => I (l.take i) ρ) (ρ := ρ) (xs := l.map F) (j := 0) h fun i x ρ e q => by
    rw [List.getElem?_map] at e
    obtain ⟨v, hv, rfl⟩ := Option.map_eq_some_iff.mp e
    obtain ⟨hi, hv'⟩ := List.getElem?_eq_some_iff.mp hv
    have := s (l.take i) v (l.drop (i + 1)) ρ (by rw [← hv', List.getElem_cons_drop, List.take_append_drop]) (by simpa using q)
    rw [Nat.zero_add, List.take_succ_eq_append_getElem hi, hv']
    exact this
  simpa using this
end
/-! bools -/
theorem W7p (b : Bool) : op2M .isnot (.bl b) (.bl true) = ret (.bl (!b)) := by funext κ; cases b <;> rfl
theorem W7q (b : Bool) : op2M .isnot (.bl b) (.bl false) = ret (.bl b) := by funext κ; cases b <;> rfl
theorem W7r (b : Bool) : op2M .is (.bl b) (.bl true) = ret (.bl b) := by funext κ; cases b <;> rfl
theorem W7s (b : Bool) : op2M .is (.bl b) (.bl false) = ret (.bl (!b)) := by funext κ; cases b <;> rfl
theorem W7t (a b : Bool) : op2M .ne (.bl a) (.bl b) = ret (.bl (!(a == b))) := by funext κ; rfl
theorem W7u (a b : Bool) : op2M .eq (.bl a) (.bl b) = ret (.bl (a == b)) := by funext κ; rfl
theorem W7v (a b : Bool) : op1 .all (.lst [.bl a, .bl b]) = some (.bl (a && b)) := by
  show some (D.bl ([a, b].all id)) = _
  simp
theorem W7w (a b : Bool) : op1 .any (.lst [.bl a, .bl b]) = some (.bl (a || b)) := by
  show some (D.bl ([a, b].any id)) = _
  simp
/-! == of plain data with itself -/
theorem eqs_refl {f : D → D → Option Bool} : ∀ {xs : List D}, (∀ x ∈ xs, f x x = some true) → eqs f xs xs = some true
  | [], _ => rfl
  | x :: xs, h => by rw [eqs, h x (by simp), Option.bind_some, eqs_refl fun y hy => h y (by simp [hy])]; rfl
theorem eqF_refl : ∀ {n m : Nat} {d : D}, plainD n d = true → n < m → eqF m d d = some true
  | n, m + 1, d, p, h => by
    cases d with
    | tup xs =>
      cases n with
      | zero => simp [plainD] at p
      | succ n =>
        unfold plainD at p
        obtain ⟨_, ha⟩ := Bool.and_eq_true_iff.mp p
        show eqs (eqF m) xs xs = _
        exact eqs_refl fun x hx => eqF_refl (List.all_eq_true.mp ha x hx) (by omega)
    | non => rfl
    | bl b => show some (b == b) = _; simp
    | int i => show some (i == i) = _; simp
    | str s => show some (s == s) = _; simp
    | _ => cases n <;> simp [plainD] at p
theorem ne_refl {n : Nat} {d : D} (p : plainD n d = true) (h : n < 64) : op2M .ne d d = ret (.bl false) := by
  funext κ
  show opt ((eqD d d).map fun b => D.bl (!b)) κ = _
  rw [show eqD d d = some true from eqF_refl p h]; rfl
theorem eq_refl {n : Nat} {d : D} (p : plainD n d = true) (h : n < 64) : op2M .eq d d = ret (.bl true) := by
  funext κ
  show opt ((eqD d d).map D.bl) κ = _
  rw [show eqD d d = some true from eqF_refl p h]; rfl
end MP
set_option linter.all false
set_option maxRecDepth 100000
set_option maxHeartbeats 1000000
/-! SR: what the defs of rows compute. -/
namespace MP
/-- groupings -/
inductive G where
  | leaf (n : Nat) | node (a b : G)
def gD : G → D
  | .leaf n => .int (n : Int)
  | .node a b => .tup [gD a, gD b]
namespace G
def keep (g : Nat → Nat → Nat) : G → Nat
  | leaf n => n
  | node a b => g (a.keep g) (b.keep g)
def row : G → List Nat
  | leaf n => [n]
  | node a b => a.row ++ b.row
def size : G → Nat
  | leaf _ => 1
  | node a b => a.size + b.size
def deep : G → Nat
  | leaf _ => 0
  | node a b => max a.deep b.deep + 1
def mir : G → G
  | leaf n => leaf n
  | node a b => node b.mir a.mir
def under (n : Nat) : G → Prop
  | leaf m => m < n
  | node a b => a.under n ∧ b.under n
def joins (g : Nat → Nat → Nat) : G → List (Nat × Nat × Nat)
  | leaf _ => []
  | node a b => a.joins g ++ b.joins g ++ [(a.keep g, b.keep g, g (a.keep g) (b.keep g))]
theorem size_row : ∀ x : G, x.row.length = x.size
  | leaf _ => rfl
  | node a b => by rw [row, List.length_append, size_row a, size_row b, size]
theorem size_pos : ∀ x : G, 1 ≤ x.size
  | leaf _ => Nat.le_refl _
  | node a b => by have := size_pos a; rw [size]; omega
theorem deep_lt : ∀ x : G, x.deep < x.size
  | leaf _ => Nat.zero_lt_one
  | node a b => by
    have := deep_lt a
    have := deep_lt b
    have := size_pos a
    have := size_pos b
    rw [deep, size]
    omega
theorem under_row {n : Nat} : ∀ {x : G}, x.under n ↔ Below n x.row
  | leaf m => by
    show m < n ↔ ∀ v ∈ [m], v < n
    simp
  | node a b => by
    show a.under n ∧ b.under n ↔ ∀ v ∈ a.row ++ b.row, v < n
    rw [under_row, under_row]
    unfold Below
    simp only [List.mem_append]
    exact ⟨fun ⟨h1, h2⟩ v hv => hv.elim (h1 v) (h2 v), fun h => ⟨fun v hv => h v (.inl hv), fun v hv => h v (.inr hv)⟩⟩
theorem keep_row {n : Nat} {g : Nat → Nat → Nat} (v : Valid n g) : ∀ {x : G}, x.under n → x.keep g ∈ x.row
  | leaf m, _ => by simp [keep, row]
  | node a b, h => by
    have h1 := keep_row v h.1
    have h2 := keep_row v h.2
    have b1 := under_row.mp h.1 _ h1
    have b2 := under_row.mp h.2 _ h2
    show g _ _ ∈ a.row ++ b.row
    rcases v _ b1 _ b2 with e | e <;> rw [e]
    · exact List.mem_append.mpr (.inl h1)
    · exact List.mem_append.mpr (.inr h2)
theorem keep_lt {n : Nat} {g : Nat → Nat → Nat} (v : Valid n g) {x : G} (h : x.under n) : x.keep g < n := under_row.mp h _ (keep_row v h)
theorem mir_size : ∀ x : G, x.mir.size = x.size
  | leaf _ => rfl
  | node a b => by rw [mir, size, size, mir_size a, mir_size b, Nat.add_comm]
theorem mir_row : ∀ x : G, x.mir.row = x.row.reverse
  | leaf _ => rfl
  | node a b => by rw [mir, row, row, mir_row a, mir_row b, List.reverse_append]
theorem mir_under {n : Nat} (x : G) : x.mir.under n ↔ x.under n := by
  rw [under_row, under_row, mir_row]
  unfold Below
  simp
theorem mir_keep {g : Nat → Nat → Nat} : ∀ x : G, x.mir.keep (fun i j => g j i) = x.keep g
  | leaf _ => rfl
  | node a b => by rw [mir, keep, keep, mir_keep a, mir_keep b]
theorem joins_len {g : Nat → Nat → Nat} : ∀ x : G, (x.joins g).length = x.size - 1
  | leaf _ => rfl
  | node a b => by
    have := size_pos a
    have := size_pos b
    rw [joins, List.length_append, List.length_append, joins_len a, joins_len b, size]
    simp; omega
theorem joins_ok {g : Nat → Nat → Nat} : ∀ {x : G} {j : Nat × Nat × Nat}, j ∈ x.joins g → j.2.2 = g j.1 j.2.1
  | leaf _, _, h => by simp [joins] at h
  | node a b, j, h => by
    rw [joins, List.mem_append, List.mem_append] at h
    rcases h with (h | h) | h
    · exact joins_ok h
    · exact joins_ok h
    · simp at h; subst h; rfl
theorem joins_under {n : Nat} {g : Nat → Nat → Nat} (v : Valid n g) : ∀ {x : G}, x.under n → ∀ {j : Nat × Nat × Nat}, j ∈ x.joins g → j.1 < n ∧ j.2.1 < n ∧ j.2.2 < n
  | leaf _, _, _, h => by simp [joins] at h
  | node a b, hb, j, h => by
    rw [joins, List.mem_append, List.mem_append] at h
    rcases h with (h | h) | h
    · exact joins_under v hb.1 h
    · exact joins_under v hb.2 h
    · simp at h; subst h
      exact ⟨keep_lt v hb.1, keep_lt v hb.2, v.lt (keep_lt v hb.1) (keep_lt v hb.2)⟩
end G
section
variable {T : Nat → Option Fun}
theorem W7x (x : G) : gd (gD x) = ret (gD x) := gd_of (by cases x <;> rfl)
theorem W7y (n : Nat) : gD (.leaf n) = .int (n : Int) := rfl
theorem W7z (a b : G) : gD (.node a b) = .tup [gD a, gD b] := rfl
theorem s_result_in [h : H_result_in T] {n : Nat} {g : Nat → Nat → Nat} (v : Valid n g) : ∀ {x : G} {k : Nat}, x.under n → x.deep < k → run T k i_result_in [tabD n g, gD x] = ret (.int (x.keep g : Int))
  | .leaf m, k + 1, hb, _ => by
    rw [run_b h.q_result_in rfl]
    unfold F_result_in
    simp (disch := first | (with_reducible rfl) | assumption | omega) only [W00,W01,W02,W03,W04,W05,W06,W07,W08,W09,W0a,W0b,W0c,W0d,W0e,W0f,W0g,W0h,W0i,W0j,W0k,W0l,W0m,W0n,W0o,W0p,W0q,W0r,W0s,W0t,W0u,W0v,W0w,W0x,W0y,W0z,W10,W11,W12,W13,W14,W15,W16,W17,W18,W19,W1a,W1b,W1c,W1d,W1e,W1f,W1g,W1h,W1i,W1j,W1k,W1l,W1m,W1n,W1o,W1p,W1q,W1r,W1s,W1t,W1u,W1v,W1w,W1x,W1y,W1z,W20,W21,W22,W23,W24,W25,W26,W27,W28,W29,W2a,W2b,W2c,W2d,W2e,W2f,W2g,W2h,W2i,W2j,W2k,W2l,W2m,W2n,W2o,W2p,W2q,W2r,W2s,W2t,W2u,W2v,W2w,W2x,W2y,W2z,W30,W31,W32,W33,W34,W35,W36,W37,W38,W39,W3a,W3b,W3c,W3d,W3e,W3f,W3g,W3h,W3i,W3j,W3k,W3l,W3m,W3n,W3o,W3p,W3q,W3r,W3s,W3t,W3u,W3v,W3w,W3x,W3y,W3z,W40,W41,W42,W43,W44,W45,W46,W47,W48,W49,W4a,W4b,W4c,W4d,W4e,W4f,W4g,W4h,W4i,W4j,W4k,W4l,W4m,W4n,W4o,W4p,W4q,W4r,W4s,W4t,W4u,W4v,W4w,W4x,W4y,W4z,W50,W51,W52,W53,W54,W55,W56,W57,W58,W59,W5a,W5b,W5c,W5d,W5e,W5f,W5g,W5h,W5i,W5j,W5k,W5l,W5m,W5n,W5o,W5p,W5q,W5r,W5s,W5t,W5u,W5v,W5w,W5x,W5y,W5z,W60,W61,W62,W63,W64,W65,W66,W67,W68,W69,W6a,W6b,W6c,W6d,W6e,W6f,W6g,W6h,W6i,W6j,W6k,W6l,W6m,W6n,W6o,W6p,W6q,W6r,W6s,W6t,W6u,W6v,W6w,W6x,W6y,W6z,W70,W71,W72,W73,W74,W75,W76,W77,W78,W79,W7a,W7b,W7c,W7d,W7e,W7f,W7g,W7h,W7i,W7j,W7k,W7l,W7m,W7n,W7o,W7p,W7q,W7r,W7s,W7t,W7u,W7v,W7w,W7x,W7y,W7z,Nat.reduceSub, G.keep]
  | .node a b, k + 1, hb, hk => by
    have hk : max a.deep b.deep + 1 < k + 1 := hk
    have e1 := s_result_in v (x := a) (k := k) hb.1 (by omega)
    have e2 := s_result_in v (x := b) (k := k) hb.2 (by omega)
    have k1 := G.keep_lt v hb.1
    have k2 := G.keep_lt v hb.2
    rw [run_b h.q_result_in rfl]
    unfold F_result_in
    simp (disch := first | (with_reducible rfl) | assumption | omega) only [W00,W01,W02,W03,W04,W05,W06,W07,W08,W09,W0a,W0b,W0c,W0d,W0e,W0f,W0g,W0h,W0i,W0j,W0k,W0l,W0m,W0n,W0o,W0p,W0q,W0r,W0s,W0t,W0u,W0v,W0w,W0x,W0y,W0z,W10,W11,W12,W13,W14,W15,W16,W17,W18,W19,W1a,W1b,W1c,W1d,W1e,W1f,W1g,W1h,W1i,W1j,W1k,W1l,W1m,W1n,W1o,W1p,W1q,W1r,W1s,W1t,W1u,W1v,W1w,W1x,W1y,W1z,W20,W21,W22,W23,W24,W25,W26,W27,W28,W29,W2a,W2b,W2c,W2d,W2e,W2f,W2g,W2h,W2i,W2j,W2k,W2l,W2m,W2n,W2o,W2p,W2q,W2r,W2s,W2t,W2u,W2v,W2w,W2x,W2y,W2z,W30,W31,W32,W33,W34,W35,W36,W37,W38,W39,W3a,W3b,W3c,W3d,W3e,W3f,W3g,W3h,W3i,W3j,W3k,W3l,W3m,W3n,W3o,W3p,W3q,W3r,W3s,W3t,W3u,W3v,W3w,W3x,W3y,W3z,W40,W41,W42,W43,W44,W45,W46,W47,W48,W49,W4a,W4b,W4c,W4d,W4e,W4f,W4g,W4h,W4i,W4j,W4k,W4l,W4m,W4n,W4o,W4p,W4q,W4r,W4s,W4t,W4u,W4v,W4w,W4x,W4y,W4z,W50,W51,W52,W53,W54,W55,W56,W57,W58,W59,W5a,W5b,W5c,W5d,W5e,W5f,W5g,W5h,W5i,W5j,W5k,W5l,W5m,W5n,W5o,W5p,W5q,W5r,W5s,W5t,W5u,W5v,W5w,W5x,W5y,W5z,W60,W61,W62,W63,W64,W65,W66,W67,W68,W69,W6a,W6b,W6c,W6d,W6e,W6f,W6g,W6h,W6i,W6j,W6k,W6l,W6m,W6n,W6o,W6p,W6q,W6r,W6s,W6t,W6u,W6v,W6w,W6x,W6y,W6z,W70,W71,W72,W73,W74,W75,W76,W77,W78,W79,W7a,W7b,W7c,W7d,W7e,W7f,W7g,W7h,W7i,W7j,W7k,W7l,W7m,W7n,W7o,W7p,W7q,W7r,W7s,W7t,W7u,W7v,W7w,W7x,W7y,W7z,Nat.reduceSub, e1, e2, G.keep]
theorem s_law_keeps [h : H__law_keeps T] {n : Nat} {g : Nat → Nat → Nat} (v : Valid n g) : ∀ {x : G} {k : Nat}, x.under n → x.deep < k → run T k i__law_keeps [tabD n g, gD x] = ret (.int (x.keep g : Int))
  | .leaf m, k + 1, hb, _ => by
    rw [run_b h.q__law_keeps rfl]
    unfold F__law_keeps
    simp (disch := first | (with_reducible rfl) | assumption | omega) only [W00,W01,W02,W03,W04,W05,W06,W07,W08,W09,W0a,W0b,W0c,W0d,W0e,W0f,W0g,W0h,W0i,W0j,W0k,W0l,W0m,W0n,W0o,W0p,W0q,W0r,W0s,W0t,W0u,W0v,W0w,W0x,W0y,W0z,W10,W11,W12,W13,W14,W15,W16,W17,W18,W19,W1a,W1b,W1c,W1d,W1e,W1f,W1g,W1h,W1i,W1j,W1k,W1l,W1m,W1n,W1o,W1p,W1q,W1r,W1s,W1t,W1u,W1v,W1w,W1x,W1y,W1z,W20,W21,W22,W23,W24,W25,W26,W27,W28,W29,W2a,W2b,W2c,W2d,W2e,W2f,W2g,W2h,W2i,W2j,W2k,W2l,W2m,W2n,W2o,W2p,W2q,W2r,W2s,W2t,W2u,W2v,W2w,W2x,W2y,W2z,W30,W31,W32,W33,W34,W35,W36,W37,W38,W39,W3a,W3b,W3c,W3d,W3e,W3f,W3g,W3h,W3i,W3j,W3k,W3l,W3m,W3n,W3o,W3p,W3q,W3r,W3s,W3t,W3u,W3v,W3w,W3x,W3y,W3z,W40,W41,W42,W43,W44,W45,W46,W47,W48,W49,W4a,W4b,W4c,W4d,W4e,W4f,W4g,W4h,W4i,W4j,W4k,W4l,W4m,W4n,W4o,W4p,W4q,W4r,W4s,W4t,W4u,W4v,W4w,W4x,W4y,W4z,W50,W51,W52,W53,W54,W55,W56,W57,W58,W59,W5a,W5b,W5c,W5d,W5e,W5f,W5g,W5h,W5i,W5j,W5k,W5l,W5m,W5n,W5o,W5p,W5q,W5r,W5s,W5t,W5u,W5v,W5w,W5x,W5y,W5z,W60,W61,W62,W63,W64,W65,W66,W67,W68,W69,W6a,W6b,W6c,W6d,W6e,W6f,W6g,W6h,W6i,W6j,W6k,W6l,W6m,W6n,W6o,W6p,W6q,W6r,W6s,W6t,W6u,W6v,W6w,W6x,W6y,W6z,W70,W71,W72,W73,W74,W75,W76,W77,W78,W79,W7a,W7b,W7c,W7d,W7e,W7f,W7g,W7h,W7i,W7j,W7k,W7l,W7m,W7n,W7o,W7p,W7q,W7r,W7s,W7t,W7u,W7v,W7w,W7x,W7y,W7z,Nat.reduceSub, G.keep]
  | .node a b, k + 1, hb, hk => by
    have hk : max a.deep b.deep + 1 < k + 1 := hk
    have e1 := s_law_keeps v (x := a) (k := k) hb.1 (by omega)
    have e2 := s_law_keeps v (x := b) (k := k) hb.2 (by omega)
    have k1 := G.keep_lt v hb.1
    have k2 := G.keep_lt v hb.2
    rw [run_b h.q__law_keeps rfl]
    unfold F__law_keeps
    simp (disch := first | (with_reducible rfl) | assumption | omega) only [W00,W01,W02,W03,W04,W05,W06,W07,W08,W09,W0a,W0b,W0c,W0d,W0e,W0f,W0g,W0h,W0i,W0j,W0k,W0l,W0m,W0n,W0o,W0p,W0q,W0r,W0s,W0t,W0u,W0v,W0w,W0x,W0y,W0z,W10,W11,W12,W13,W14,W15,W16,W17,W18,W19,W1a,W1b,W1c,W1d,W1e,W1f,W1g,W1h,W1i,W1j,W1k,W1l,W1m,W1n,W1o,W1p,W1q,W1r,W1s,W1t,W1u,W1v,W1w,W1x,W1y,W1z,W20,W21,W22,W23,W24,W25,W26,W27,W28,W29,W2a,W2b,W2c,W2d,W2e,W2f,W2g,W2h,W2i,W2j,W2k,W2l,W2m,W2n,W2o,W2p,W2q,W2r,W2s,W2t,W2u,W2v,W2w,W2x,W2y,W2z,W30,W31,W32,W33,W34,W35,W36,W37,W38,W39,W3a,W3b,W3c,W3d,W3e,W3f,W3g,W3h,W3i,W3j,W3k,W3l,W3m,W3n,W3o,W3p,W3q,W3r,W3s,W3t,W3u,W3v,W3w,W3x,W3y,W3z,W40,W41,W42,W43,W44,W45,W46,W47,W48,W49,W4a,W4b,W4c,W4d,W4e,W4f,W4g,W4h,W4i,W4j,W4k,W4l,W4m,W4n,W4o,W4p,W4q,W4r,W4s,W4t,W4u,W4v,W4w,W4x,W4y,W4z,W50,W51,W52,W53,W54,W55,W56,W57,W58,W59,W5a,W5b,W5c,W5d,W5e,W5f,W5g,W5h,W5i,W5j,W5k,W5l,W5m,W5n,W5o,W5p,W5q,W5r,W5s,W5t,W5u,W5v,W5w,W5x,W5y,W5z,W60,W61,W62,W63,W64,W65,W66,W67,W68,W69,W6a,W6b,W6c,W6d,W6e,W6f,W6g,W6h,W6i,W6j,W6k,W6l,W6m,W6n,W6o,W6p,W6q,W6r,W6s,W6t,W6u,W6v,W6w,W6x,W6y,W6z,W70,W71,W72,W73,W74,W75,W76,W77,W78,W79,W7a,W7b,W7c,W7d,W7e,W7f,W7g,W7h,W7i,W7j,W7k,W7l,W7m,W7n,W7o,W7p,W7q,W7r,W7s,W7t,W7u,W7v,W7w,W7x,W7y,W7z,Nat.reduceSub, e1, e2, G.keep]
theorem s_size_in [h : H_size_in T] : ∀ {x : G} {k : Nat}, x.deep < k → run T k i_size_in [gD x] = ret (.int (x.size : Int))
  | .leaf m, k + 1, _ => by
    rw [run_b h.q_size_in rfl]
    unfold F_size_in
    simp (disch := first | (with_reducible rfl) | assumption | omega) only [W00,W01,W02,W03,W04,W05,W06,W07,W08,W09,W0a,W0b,W0c,W0d,W0e,W0f,W0g,W0h,W0i,W0j,W0k,W0l,W0m,W0n,W0o,W0p,W0q,W0r,W0s,W0t,W0u,W0v,W0w,W0x,W0y,W0z,W10,W11,W12,W13,W14,W15,W16,W17,W18,W19,W1a,W1b,W1c,W1d,W1e,W1f,W1g,W1h,W1i,W1j,W1k,W1l,W1m,W1n,W1o,W1p,W1q,W1r,W1s,W1t,W1u,W1v,W1w,W1x,W1y,W1z,W20,W21,W22,W23,W24,W25,W26,W27,W28,W29,W2a,W2b,W2c,W2d,W2e,W2f,W2g,W2h,W2i,W2j,W2k,W2l,W2m,W2n,W2o,W2p,W2q,W2r,W2s,W2t,W2u,W2v,W2w,W2x,W2y,W2z,W30,W31,W32,W33,W34,W35,W36,W37,W38,W39,W3a,W3b,W3c,W3d,W3e,W3f,W3g,W3h,W3i,W3j,W3k,W3l,W3m,W3n,W3o,W3p,W3q,W3r,W3s,W3t,W3u,W3v,W3w,W3x,W3y,W3z,W40,W41,W42,W43,W44,W45,W46,W47,W48,W49,W4a,W4b,W4c,W4d,W4e,W4f,W4g,W4h,W4i,W4j,W4k,W4l,W4m,W4n,W4o,W4p,W4q,W4r,W4s,W4t,W4u,W4v,W4w,W4x,W4y,W4z,W50,W51,W52,W53,W54,W55,W56,W57,W58,W59,W5a,W5b,W5c,W5d,W5e,W5f,W5g,W5h,W5i,W5j,W5k,W5l,W5m,W5n,W5o,W5p,W5q,W5r,W5s,W5t,W5u,W5v,W5w,W5x,W5y,W5z,W60,W61,W62,W63,W64,W65,W66,W67,W68,W69,W6a,W6b,W6c,W6d,W6e,W6f,W6g,W6h,W6i,W6j,W6k,W6l,W6m,W6n,W6o,W6p,W6q,W6r,W6s,W6t,W6u,W6v,W6w,W6x,W6y,W6z,W70,W71,W72,W73,W74,W75,W76,W77,W78,W79,W7a,W7b,W7c,W7d,W7e,W7f,W7g,W7h,W7i,W7j,W7k,W7l,W7m,W7n,W7o,W7p,W7q,W7r,W7s,W7t,W7u,W7v,W7w,W7x,W7y,W7z,Nat.reduceSub, G.size]
  | .node a b, k + 1, hk => by
    have hk : max a.deep b.deep + 1 < k + 1 := hk
    have e1 := s_size_in (x := a) (k := k) (by omega)
    have e2 := s_size_in (x := b) (k := k) (by omega)
    rw [run_b h.q_size_in rfl]
    unfold F_size_in
    simp (disch := first | (with_reducible rfl) | assumption | omega) only [W00,W01,W02,W03,W04,W05,W06,W07,W08,W09,W0a,W0b,W0c,W0d,W0e,W0f,W0g,W0h,W0i,W0j,W0k,W0l,W0m,W0n,W0o,W0p,W0q,W0r,W0s,W0t,W0u,W0v,W0w,W0x,W0y,W0z,W10,W11,W12,W13,W14,W15,W16,W17,W18,W19,W1a,W1b,W1c,W1d,W1e,W1f,W1g,W1h,W1i,W1j,W1k,W1l,W1m,W1n,W1o,W1p,W1q,W1r,W1s,W1t,W1u,W1v,W1w,W1x,W1y,W1z,W20,W21,W22,W23,W24,W25,W26,W27,W28,W29,W2a,W2b,W2c,W2d,W2e,W2f,W2g,W2h,W2i,W2j,W2k,W2l,W2m,W2n,W2o,W2p,W2q,W2r,W2s,W2t,W2u,W2v,W2w,W2x,W2y,W2z,W30,W31,W32,W33,W34,W35,W36,W37,W38,W39,W3a,W3b,W3c,W3d,W3e,W3f,W3g,W3h,W3i,W3j,W3k,W3l,W3m,W3n,W3o,W3p,W3q,W3r,W3s,W3t,W3u,W3v,W3w,W3x,W3y,W3z,W40,W41,W42,W43,W44,W45,W46,W47,W48,W49,W4a,W4b,W4c,W4d,W4e,W4f,W4g,W4h,W4i,W4j,W4k,W4l,W4m,W4n,W4o,W4p,W4q,W4r,W4s,W4t,W4u,W4v,W4w,W4x,W4y,W4z,W50,W51,W52,W53,W54,W55,W56,W57,W58,W59,W5a,W5b,W5c,W5d,W5e,W5f,W5g,W5h,W5i,W5j,W5k,W5l,W5m,W5n,W5o,W5p,W5q,W5r,W5s,W5t,W5u,W5v,W5w,W5x,W5y,W5z,W60,W61,W62,W63,W64,W65,W66,W67,W68,W69,W6a,W6b,W6c,W6d,W6e,W6f,W6g,W6h,W6i,W6j,W6k,W6l,W6m,W6n,W6o,W6p,W6q,W6r,W6s,W6t,W6u,W6v,W6w,W6x,W6y,W6z,W70,W71,W72,W73,W74,W75,W76,W77,W78,W79,W7a,W7b,W7c,W7d,W7e,W7f,W7g,W7h,W7i,W7j,W7k,W7l,W7m,W7n,W7o,W7p,W7q,W7r,W7s,W7t,W7u,W7v,W7w,W7x,W7y,W7z,Nat.reduceSub, e1, e2, G.size]
    have e3 : op1 .sum (.lst [D.int (a.size : Int), D.int (b.size : Int)]) = some (.int ((a.size + b.size : Nat) : Int)) := by
      have := sum_mapN [a.size, b.size]
      rw [show ns [a.size, b.size] = [D.int (a.size : Int), D.int (b.size : Int)] from rfl] at this
      rw [this]; simp
    simp (disch := first | (with_reducible rfl) | assumption | omega) only [W00,W01,W02,W03,W04,W05,W06,W07,W08,W09,W0a,W0b,W0c,W0d,W0e,W0f,W0g,W0h,W0i,W0j,W0k,W0l,W0m,W0n,W0o,W0p,W0q,W0r,W0s,W0t,W0u,W0v,W0w,W0x,W0y,W0z,W10,W11,W12,W13,W14,W15,W16,W17,W18,W19,W1a,W1b,W1c,W1d,W1e,W1f,W1g,W1h,W1i,W1j,W1k,W1l,W1m,W1n,W1o,W1p,W1q,W1r,W1s,W1t,W1u,W1v,W1w,W1x,W1y,W1z,W20,W21,W22,W23,W24,W25,W26,W27,W28,W29,W2a,W2b,W2c,W2d,W2e,W2f,W2g,W2h,W2i,W2j,W2k,W2l,W2m,W2n,W2o,W2p,W2q,W2r,W2s,W2t,W2u,W2v,W2w,W2x,W2y,W2z,W30,W31,W32,W33,W34,W35,W36,W37,W38,W39,W3a,W3b,W3c,W3d,W3e,W3f,W3g,W3h,W3i,W3j,W3k,W3l,W3m,W3n,W3o,W3p,W3q,W3r,W3s,W3t,W3u,W3v,W3w,W3x,W3y,W3z,W40,W41,W42,W43,W44,W45,W46,W47,W48,W49,W4a,W4b,W4c,W4d,W4e,W4f,W4g,W4h,W4i,W4j,W4k,W4l,W4m,W4n,W4o,W4p,W4q,W4r,W4s,W4t,W4u,W4v,W4w,W4x,W4y,W4z,W50,W51,W52,W53,W54,W55,W56,W57,W58,W59,W5a,W5b,W5c,W5d,W5e,W5f,W5g,W5h,W5i,W5j,W5k,W5l,W5m,W5n,W5o,W5p,W5q,W5r,W5s,W5t,W5u,W5v,W5w,W5x,W5y,W5z,W60,W61,W62,W63,W64,W65,W66,W67,W68,W69,W6a,W6b,W6c,W6d,W6e,W6f,W6g,W6h,W6i,W6j,W6k,W6l,W6m,W6n,W6o,W6p,W6q,W6r,W6s,W6t,W6u,W6v,W6w,W6x,W6y,W6z,W70,W71,W72,W73,W74,W75,W76,W77,W78,W79,W7a,W7b,W7c,W7d,W7e,W7f,W7g,W7h,W7i,W7j,W7k,W7l,W7m,W7n,W7o,W7p,W7q,W7r,W7s,W7t,W7u,W7v,W7w,W7x,W7y,W7z,Nat.reduceSub, e3]
theorem s_row_in [h : H_row_in T] : ∀ {x : G} {k : Nat}, x.size ≤ 1000 → x.deep < k → run T k i_row_in [gD x] = ret (.tup (ns x.row))
  | .leaf m, k + 1, _, _ => by
    rw [run_b h.q_row_in rfl]
    unfold F_row_in
    simp (disch := first | (with_reducible rfl) | assumption | omega) only [W00,W01,W02,W03,W04,W05,W06,W07,W08,W09,W0a,W0b,W0c,W0d,W0e,W0f,W0g,W0h,W0i,W0j,W0k,W0l,W0m,W0n,W0o,W0p,W0q,W0r,W0s,W0t,W0u,W0v,W0w,W0x,W0y,W0z,W10,W11,W12,W13,W14,W15,W16,W17,W18,W19,W1a,W1b,W1c,W1d,W1e,W1f,W1g,W1h,W1i,W1j,W1k,W1l,W1m,W1n,W1o,W1p,W1q,W1r,W1s,W1t,W1u,W1v,W1w,W1x,W1y,W1z,W20,W21,W22,W23,W24,W25,W26,W27,W28,W29,W2a,W2b,W2c,W2d,W2e,W2f,W2g,W2h,W2i,W2j,W2k,W2l,W2m,W2n,W2o,W2p,W2q,W2r,W2s,W2t,W2u,W2v,W2w,W2x,W2y,W2z,W30,W31,W32,W33,W34,W35,W36,W37,W38,W39,W3a,W3b,W3c,W3d,W3e,W3f,W3g,W3h,W3i,W3j,W3k,W3l,W3m,W3n,W3o,W3p,W3q,W3r,W3s,W3t,W3u,W3v,W3w,W3x,W3y,W3z,W40,W41,W42,W43,W44,W45,W46,W47,W48,W49,W4a,W4b,W4c,W4d,W4e,W4f,W4g,W4h,W4i,W4j,W4k,W4l,W4m,W4n,W4o,W4p,W4q,W4r,W4s,W4t,W4u,W4v,W4w,W4x,W4y,W4z,W50,W51,W52,W53,W54,W55,W56,W57,W58,W59,W5a,W5b,W5c,W5d,W5e,W5f,W5g,W5h,W5i,W5j,W5k,W5l,W5m,W5n,W5o,W5p,W5q,W5r,W5s,W5t,W5u,W5v,W5w,W5x,W5y,W5z,W60,W61,W62,W63,W64,W65,W66,W67,W68,W69,W6a,W6b,W6c,W6d,W6e,W6f,W6g,W6h,W6i,W6j,W6k,W6l,W6m,W6n,W6o,W6p,W6q,W6r,W6s,W6t,W6u,W6v,W6w,W6x,W6y,W6z,W70,W71,W72,W73,W74,W75,W76,W77,W78,W79,W7a,W7b,W7c,W7d,W7e,W7f,W7g,W7h,W7i,W7j,W7k,W7l,W7m,W7n,W7o,W7p,W7q,W7r,W7s,W7t,W7u,W7v,W7w,W7x,W7y,W7z,Nat.reduceSub, G.row]
    rfl
  | .node a b, k + 1, hs, hk => by
    have hk : max a.deep b.deep + 1 < k + 1 := hk
    have hs : a.size + b.size ≤ 1000 := hs
    have e1 := s_row_in (x := a) (k := k) (by omega) (by omega)
    have e2 := s_row_in (x := b) (k := k) (by omega) (by omega)
    rw [run_b h.q_row_in rfl]
    unfold F_row_in
    simp (disch := first | (with_reducible rfl) | assumption | omega) only [W00,W01,W02,W03,W04,W05,W06,W07,W08,W09,W0a,W0b,W0c,W0d,W0e,W0f,W0g,W0h,W0i,W0j,W0k,W0l,W0m,W0n,W0o,W0p,W0q,W0r,W0s,W0t,W0u,W0v,W0w,W0x,W0y,W0z,W10,W11,W12,W13,W14,W15,W16,W17,W18,W19,W1a,W1b,W1c,W1d,W1e,W1f,W1g,W1h,W1i,W1j,W1k,W1l,W1m,W1n,W1o,W1p,W1q,W1r,W1s,W1t,W1u,W1v,W1w,W1x,W1y,W1z,W20,W21,W22,W23,W24,W25,W26,W27,W28,W29,W2a,W2b,W2c,W2d,W2e,W2f,W2g,W2h,W2i,W2j,W2k,W2l,W2m,W2n,W2o,W2p,W2q,W2r,W2s,W2t,W2u,W2v,W2w,W2x,W2y,W2z,W30,W31,W32,W33,W34,W35,W36,W37,W38,W39,W3a,W3b,W3c,W3d,W3e,W3f,W3g,W3h,W3i,W3j,W3k,W3l,W3m,W3n,W3o,W3p,W3q,W3r,W3s,W3t,W3u,W3v,W3w,W3x,W3y,W3z,W40,W41,W42,W43,W44,W45,W46,W47,W48,W49,W4a,W4b,W4c,W4d,W4e,W4f,W4g,W4h,W4i,W4j,W4k,W4l,W4m,W4n,W4o,W4p,W4q,W4r,W4s,W4t,W4u,W4v,W4w,W4x,W4y,W4z,W50,W51,W52,W53,W54,W55,W56,W57,W58,W59,W5a,W5b,W5c,W5d,W5e,W5f,W5g,W5h,W5i,W5j,W5k,W5l,W5m,W5n,W5o,W5p,W5q,W5r,W5s,W5t,W5u,W5v,W5w,W5x,W5y,W5z,W60,W61,W62,W63,W64,W65,W66,W67,W68,W69,W6a,W6b,W6c,W6d,W6e,W6f,W6g,W6h,W6i,W6j,W6k,W6l,W6m,W6n,W6o,W6p,W6q,W6r,W6s,W6t,W6u,W6v,W6w,W6x,W6y,W6z,W70,W71,W72,W73,W74,W75,W76,W77,W78,W79,W7a,W7b,W7c,W7d,W7e,W7f,W7g,W7h,W7i,W7j,W7k,W7l,W7m,W7n,W7o,W7p,W7q,W7r,W7s,W7t,W7u,W7v,W7w,W7x,W7y,W7z,Nat.reduceSub, e1, e2, G.row, G.size_row]
theorem fitsWhole_tup [h : H_fits_whole T] {k : Nat} (xs : List D) (a b : Int) : run T (k + 1) i_fits_whole [.tup xs, .int a, .int b] = ret (.bl false) := by
  rw [run_b h.q_fits_whole rfl]
  unfold F_fits_whole
  simp (disch := first | (with_reducible rfl) | assumption | omega) only [W00,W01,W02,W03,W04,W05,W06,W07,W08,W09,W0a,W0b,W0c,W0d,W0e,W0f,W0g,W0h,W0i,W0j,W0k,W0l,W0m,W0n,W0o,W0p,W0q,W0r,W0s,W0t,W0u,W0v,W0w,W0x,W0y,W0z,W10,W11,W12,W13,W14,W15,W16,W17,W18,W19,W1a,W1b,W1c,W1d,W1e,W1f,W1g,W1h,W1i,W1j,W1k,W1l,W1m,W1n,W1o,W1p,W1q,W1r,W1s,W1t,W1u,W1v,W1w,W1x,W1y,W1z,W20,W21,W22,W23,W24,W25,W26,W27,W28,W29,W2a,W2b,W2c,W2d,W2e,W2f,W2g,W2h,W2i,W2j,W2k,W2l,W2m,W2n,W2o,W2p,W2q,W2r,W2s,W2t,W2u,W2v,W2w,W2x,W2y,W2z,W30,W31,W32,W33,W34,W35,W36,W37,W38,W39,W3a,W3b,W3c,W3d,W3e,W3f,W3g,W3h,W3i,W3j,W3k,W3l,W3m,W3n,W3o,W3p,W3q,W3r,W3s,W3t,W3u,W3v,W3w,W3x,W3y,W3z,W40,W41,W42,W43,W44,W45,W46,W47,W48,W49,W4a,W4b,W4c,W4d,W4e,W4f,W4g,W4h,W4i,W4j,W4k,W4l,W4m,W4n,W4o,W4p,W4q,W4r,W4s,W4t,W4u,W4v,W4w,W4x,W4y,W4z,W50,W51,W52,W53,W54,W55,W56,W57,W58,W59,W5a,W5b,W5c,W5d,W5e,W5f,W5g,W5h,W5i,W5j,W5k,W5l,W5m,W5n,W5o,W5p,W5q,W5r,W5s,W5t,W5u,W5v,W5w,W5x,W5y,W5z,W60,W61,W62,W63,W64,W65,W66,W67,W68,W69,W6a,W6b,W6c,W6d,W6e,W6f,W6g,W6h,W6i,W6j,W6k,W6l,W6m,W6n,W6o,W6p,W6q,W6r,W6s,W6t,W6u,W6v,W6w,W6x,W6y,W6z,W70,W71,W72,W73,W74,W75,W76,W77,W78,W79,W7a,W7b,W7c,W7d,W7e,W7f,W7g,W7h,W7i,W7j,W7k,W7l,W7m,W7n,W7o,W7p,W7q,W7r,W7s,W7t,W7u,W7v,W7w,W7x,W7y,W7z,Nat.reduceSub]
theorem s_fits_grouping [h : H_fits_grouping T] {n : Nat} (hn : 1 ≤ n) : ∀ {x : G} {k d : Nat}, x.under n → x.deep < d → d ≤ 1000 → x.size ≤ 10 → x.deep + 2 < k → run T k i_fits_grouping [gD x, .int (n : Int), .int (d : Int)] = ret (.bl true)
  | .leaf m, k + 1, d, hb, _, _, _, _ => by
    have hb : m < n := hb
    obtain ⟨k, rfl⟩ : ∃ j, k = j + 1 := ⟨k - 1, by omega⟩
    rw [run_b h.q_fits_grouping rfl]
    unfold F_fits_grouping
    simp (disch := first | (with_reducible rfl) | assumption | omega) only [W00,W01,W02,W03,W04,W05,W06,W07,W08,W09,W0a,W0b,W0c,W0d,W0e,W0f,W0g,W0h,W0i,W0j,W0k,W0l,W0m,W0n,W0o,W0p,W0q,W0r,W0s,W0t,W0u,W0v,W0w,W0x,W0y,W0z,W10,W11,W12,W13,W14,W15,W16,W17,W18,W19,W1a,W1b,W1c,W1d,W1e,W1f,W1g,W1h,W1i,W1j,W1k,W1l,W1m,W1n,W1o,W1p,W1q,W1r,W1s,W1t,W1u,W1v,W1w,W1x,W1y,W1z,W20,W21,W22,W23,W24,W25,W26,W27,W28,W29,W2a,W2b,W2c,W2d,W2e,W2f,W2g,W2h,W2i,W2j,W2k,W2l,W2m,W2n,W2o,W2p,W2q,W2r,W2s,W2t,W2u,W2v,W2w,W2x,W2y,W2z,W30,W31,W32,W33,W34,W35,W36,W37,W38,W39,W3a,W3b,W3c,W3d,W3e,W3f,W3g,W3h,W3i,W3j,W3k,W3l,W3m,W3n,W3o,W3p,W3q,W3r,W3s,W3t,W3u,W3v,W3w,W3x,W3y,W3z,W40,W41,W42,W43,W44,W45,W46,W47,W48,W49,W4a,W4b,W4c,W4d,W4e,W4f,W4g,W4h,W4i,W4j,W4k,W4l,W4m,W4n,W4o,W4p,W4q,W4r,W4s,W4t,W4u,W4v,W4w,W4x,W4y,W4z,W50,W51,W52,W53,W54,W55,W56,W57,W58,W59,W5a,W5b,W5c,W5d,W5e,W5f,W5g,W5h,W5i,W5j,W5k,W5l,W5m,W5n,W5o,W5p,W5q,W5r,W5s,W5t,W5u,W5v,W5w,W5x,W5y,W5z,W60,W61,W62,W63,W64,W65,W66,W67,W68,W69,W6a,W6b,W6c,W6d,W6e,W6f,W6g,W6h,W6i,W6j,W6k,W6l,W6m,W6n,W6o,W6p,W6q,W6r,W6s,W6t,W6u,W6v,W6w,W6x,W6y,W6z,W70,W71,W72,W73,W74,W75,W76,W77,W78,W79,W7a,W7b,W7c,W7d,W7e,W7f,W7g,W7h,W7i,W7j,W7k,W7l,W7m,W7n,W7o,W7p,W7q,W7r,W7s,W7t,W7u,W7v,W7w,W7x,W7y,W7z,Nat.reduceSub]
  | .node a b, k + 1, d, hb, hd, hd2, hs, hk => by
    have hd : max a.deep b.deep + 1 < d := hd
    have hk : max a.deep b.deep + 1 + 2 < k + 1 := hk
    have hs0 : a.size + b.size ≤ 10 := hs
    have e1 := s_fits_grouping hn (x := a) (k := k) (d := d - 1) hb.1 (by omega) (by omega) (by omega) (by omega)
    have e2 := s_fits_grouping hn (x := b) (k := k) (d := d - 1) hb.2 (by omega) (by omega) (by omega) (by omega)
    have e3 : run T k i_size_in [.tup [gD a, gD b]] = ret (.int ((a.size + b.size : Nat) : Int)) := s_size_in (x := .node a b) (k := k) (by show max a.deep b.deep + 1 < k; omega)
    obtain ⟨k, rfl⟩ : ∃ j, k = j + 1 := ⟨k - 1, by omega⟩
    rw [run_b h.q_fits_grouping rfl]
    unfold F_fits_grouping
    have e4 : sized [D.bl true, D.bl true] = some [D.bl true, D.bl true] := rfl
    have e5 : op1 .all (.lst [D.bl true, D.bl true]) = some (.bl true) := rfl
    simp (disch := first | (with_reducible rfl) | assumption | omega) only [W00,W01,W02,W03,W04,W05,W06,W07,W08,W09,W0a,W0b,W0c,W0d,W0e,W0f,W0g,W0h,W0i,W0j,W0k,W0l,W0m,W0n,W0o,W0p,W0q,W0r,W0s,W0t,W0u,W0v,W0w,W0x,W0y,W0z,W10,W11,W12,W13,W14,W15,W16,W17,W18,W19,W1a,W1b,W1c,W1d,W1e,W1f,W1g,W1h,W1i,W1j,W1k,W1l,W1m,W1n,W1o,W1p,W1q,W1r,W1s,W1t,W1u,W1v,W1w,W1x,W1y,W1z,W20,W21,W22,W23,W24,W25,W26,W27,W28,W29,W2a,W2b,W2c,W2d,W2e,W2f,W2g,W2h,W2i,W2j,W2k,W2l,W2m,W2n,W2o,W2p,W2q,W2r,W2s,W2t,W2u,W2v,W2w,W2x,W2y,W2z,W30,W31,W32,W33,W34,W35,W36,W37,W38,W39,W3a,W3b,W3c,W3d,W3e,W3f,W3g,W3h,W3i,W3j,W3k,W3l,W3m,W3n,W3o,W3p,W3q,W3r,W3s,W3t,W3u,W3v,W3w,W3x,W3y,W3z,W40,W41,W42,W43,W44,W45,W46,W47,W48,W49,W4a,W4b,W4c,W4d,W4e,W4f,W4g,W4h,W4i,W4j,W4k,W4l,W4m,W4n,W4o,W4p,W4q,W4r,W4s,W4t,W4u,W4v,W4w,W4x,W4y,W4z,W50,W51,W52,W53,W54,W55,W56,W57,W58,W59,W5a,W5b,W5c,W5d,W5e,W5f,W5g,W5h,W5i,W5j,W5k,W5l,W5m,W5n,W5o,W5p,W5q,W5r,W5s,W5t,W5u,W5v,W5w,W5x,W5y,W5z,W60,W61,W62,W63,W64,W65,W66,W67,W68,W69,W6a,W6b,W6c,W6d,W6e,W6f,W6g,W6h,W6i,W6j,W6k,W6l,W6m,W6n,W6o,W6p,W6q,W6r,W6s,W6t,W6u,W6v,W6w,W6x,W6y,W6z,W70,W71,W72,W73,W74,W75,W76,W77,W78,W79,W7a,W7b,W7c,W7d,W7e,W7f,W7g,W7h,W7i,W7j,W7k,W7l,W7m,W7n,W7o,W7p,W7q,W7r,W7s,W7t,W7u,W7v,W7w,W7x,W7y,W7z,Nat.reduceSub, fitsWhole_tup, e1, e2, e3, e4, e5]
theorem s_joins_in [h : H_joins_in__rows T] {n : Nat} {g : Nat → Nat → Nat} (v : Valid n g) : ∀ {x : G} {k : Nat}, x.under n → x.size ≤ 1000 → x.deep + 1 < k → run T k i_joins_in__rows [tabD n g, gD x] = ret (.lst ((x.joins g).map fun j => .tup (ns [j.1, j.2.1, j.2.2])))
  | .leaf m, k + 1, hb, _, _ => by
    rw [run_b h.q_joins_in__rows rfl]
    unfold F_joins_in__rows
    simp (disch := first | (with_reducible rfl) | assumption | omega) only [W00,W01,W02,W03,W04,W05,W06,W07,W08,W09,W0a,W0b,W0c,W0d,W0e,W0f,W0g,W0h,W0i,W0j,W0k,W0l,W0m,W0n,W0o,W0p,W0q,W0r,W0s,W0t,W0u,W0v,W0w,W0x,W0y,W0z,W10,W11,W12,W13,W14,W15,W16,W17,W18,W19,W1a,W1b,W1c,W1d,W1e,W1f,W1g,W1h,W1i,W1j,W1k,W1l,W1m,W1n,W1o,W1p,W1q,W1r,W1s,W1t,W1u,W1v,W1w,W1x,W1y,W1z,W20,W21,W22,W23,W24,W25,W26,W27,W28,W29,W2a,W2b,W2c,W2d,W2e,W2f,W2g,W2h,W2i,W2j,W2k,W2l,W2m,W2n,W2o,W2p,W2q,W2r,W2s,W2t,W2u,W2v,W2w,W2x,W2y,W2z,W30,W31,W32,W33,W34,W35,W36,W37,W38,W39,W3a,W3b,W3c,W3d,W3e,W3f,W3g,W3h,W3i,W3j,W3k,W3l,W3m,W3n,W3o,W3p,W3q,W3r,W3s,W3t,W3u,W3v,W3w,W3x,W3y,W3z,W40,W41,W42,W43,W44,W45,W46,W47,W48,W49,W4a,W4b,W4c,W4d,W4e,W4f,W4g,W4h,W4i,W4j,W4k,W4l,W4m,W4n,W4o,W4p,W4q,W4r,W4s,W4t,W4u,W4v,W4w,W4x,W4y,W4z,W50,W51,W52,W53,W54,W55,W56,W57,W58,W59,W5a,W5b,W5c,W5d,W5e,W5f,W5g,W5h,W5i,W5j,W5k,W5l,W5m,W5n,W5o,W5p,W5q,W5r,W5s,W5t,W5u,W5v,W5w,W5x,W5y,W5z,W60,W61,W62,W63,W64,W65,W66,W67,W68,W69,W6a,W6b,W6c,W6d,W6e,W6f,W6g,W6h,W6i,W6j,W6k,W6l,W6m,W6n,W6o,W6p,W6q,W6r,W6s,W6t,W6u,W6v,W6w,W6x,W6y,W6z,W70,W71,W72,W73,W74,W75,W76,W77,W78,W79,W7a,W7b,W7c,W7d,W7e,W7f,W7g,W7h,W7i,W7j,W7k,W7l,W7m,W7n,W7o,W7p,W7q,W7r,W7s,W7t,W7u,W7v,W7w,W7x,W7y,W7z,Nat.reduceSub, G.joins]
    rfl
  | .node a b, k + 1, hb, hs, hk => by
    have hk : max a.deep b.deep + 1 + 1 < k + 1 := hk
    have hs0 : a.size + b.size ≤ 1000 := hs
    have e1 := s_joins_in v (x := a) (k := k) hb.1 (by omega) (by omega)
    have e2 := s_joins_in v (x := b) (k := k) hb.2 (by omega) (by omega)
    have e3 := s_result_in (T := T) v (x := a) (k := k) hb.1 (by omega)
    have e4 := s_result_in (T := T) v (x := b) (k := k) hb.2 (by omega)
    have k1 := G.keep_lt v hb.1
    have k2 := G.keep_lt v hb.2
    have l1 := G.joins_len (g := g) a
    have l2 := G.joins_len (g := g) b
    rw [run_b h.q_joins_in__rows rfl]
    unfold F_joins_in__rows
    have e5 : sized [D.int (a.keep g : Int), D.int (b.keep g : Int)] = some [D.int (a.keep g : Int), D.int (b.keep g : Int)] := rfl
    simp (disch := first | (with_reducible rfl) | assumption | omega) only [W00,W01,W02,W03,W04,W05,W06,W07,W08,W09,W0a,W0b,W0c,W0d,W0e,W0f,W0g,W0h,W0i,W0j,W0k,W0l,W0m,W0n,W0o,W0p,W0q,W0r,W0s,W0t,W0u,W0v,W0w,W0x,W0y,W0z,W10,W11,W12,W13,W14,W15,W16,W17,W18,W19,W1a,W1b,W1c,W1d,W1e,W1f,W1g,W1h,W1i,W1j,W1k,W1l,W1m,W1n,W1o,W1p,W1q,W1r,W1s,W1t,W1u,W1v,W1w,W1x,W1y,W1z,W20,W21,W22,W23,W24,W25,W26,W27,W28,W29,W2a,W2b,W2c,W2d,W2e,W2f,W2g,W2h,W2i,W2j,W2k,W2l,W2m,W2n,W2o,W2p,W2q,W2r,W2s,W2t,W2u,W2v,W2w,W2x,W2y,W2z,W30,W31,W32,W33,W34,W35,W36,W37,W38,W39,W3a,W3b,W3c,W3d,W3e,W3f,W3g,W3h,W3i,W3j,W3k,W3l,W3m,W3n,W3o,W3p,W3q,W3r,W3s,W3t,W3u,W3v,W3w,W3x,W3y,W3z,W40,W41,W42,W43,W44,W45,W46,W47,W48,W49,W4a,W4b,W4c,W4d,W4e,W4f,W4g,W4h,W4i,W4j,W4k,W4l,W4m,W4n,W4o,W4p,W4q,W4r,W4s,W4t,W4u,W4v,W4w,W4x,W4y,W4z,W50,W51,W52,W53,W54,W55,W56,W57,W58,W59,W5a,W5b,W5c,W5d,W5e,W5f,W5g,W5h,W5i,W5j,W5k,W5l,W5m,W5n,W5o,W5p,W5q,W5r,W5s,W5t,W5u,W5v,W5w,W5x,W5y,W5z,W60,W61,W62,W63,W64,W65,W66,W67,W68,W69,W6a,W6b,W6c,W6d,W6e,W6f,W6g,W6h,W6i,W6j,W6k,W6l,W6m,W6n,W6o,W6p,W6q,W6r,W6s,W6t,W6u,W6v,W6w,W6x,W6y,W6z,W70,W71,W72,W73,W74,W75,W76,W77,W78,W79,W7a,W7b,W7c,W7d,W7e,W7f,W7g,W7h,W7i,W7j,W7k,W7l,W7m,W7n,W7o,W7p,W7q,W7r,W7s,W7t,W7u,W7v,W7w,W7x,W7y,W7z,Nat.reduceSub, e1, e2, e3, e4, e5, l1, l2, List.length_map, List.length_append]
    rw [G.joins, List.map_append, List.map_append]
    rfl
theorem s_mirrored_in [h : H_mirrored_in T] : ∀ {x : G} {k : Nat}, x.deep < k → run T k i_mirrored_in [gD x] = ret (gD x.mir)
  | .leaf m, k + 1, _ => by
    rw [run_b h.q_mirrored_in rfl]
    unfold F_mirrored_in
    simp (disch := first | (with_reducible rfl) | assumption | omega) only [W00,W01,W02,W03,W04,W05,W06,W07,W08,W09,W0a,W0b,W0c,W0d,W0e,W0f,W0g,W0h,W0i,W0j,W0k,W0l,W0m,W0n,W0o,W0p,W0q,W0r,W0s,W0t,W0u,W0v,W0w,W0x,W0y,W0z,W10,W11,W12,W13,W14,W15,W16,W17,W18,W19,W1a,W1b,W1c,W1d,W1e,W1f,W1g,W1h,W1i,W1j,W1k,W1l,W1m,W1n,W1o,W1p,W1q,W1r,W1s,W1t,W1u,W1v,W1w,W1x,W1y,W1z,W20,W21,W22,W23,W24,W25,W26,W27,W28,W29,W2a,W2b,W2c,W2d,W2e,W2f,W2g,W2h,W2i,W2j,W2k,W2l,W2m,W2n,W2o,W2p,W2q,W2r,W2s,W2t,W2u,W2v,W2w,W2x,W2y,W2z,W30,W31,W32,W33,W34,W35,W36,W37,W38,W39,W3a,W3b,W3c,W3d,W3e,W3f,W3g,W3h,W3i,W3j,W3k,W3l,W3m,W3n,W3o,W3p,W3q,W3r,W3s,W3t,W3u,W3v,W3w,W3x,W3y,W3z,W40,W41,W42,W43,W44,W45,W46,W47,W48,W49,W4a,W4b,W4c,W4d,W4e,W4f,W4g,W4h,W4i,W4j,W4k,W4l,W4m,W4n,W4o,W4p,W4q,W4r,W4s,W4t,W4u,W4v,W4w,W4x,W4y,W4z,W50,W51,W52,W53,W54,W55,W56,W57,W58,W59,W5a,W5b,W5c,W5d,W5e,W5f,W5g,W5h,W5i,W5j,W5k,W5l,W5m,W5n,W5o,W5p,W5q,W5r,W5s,W5t,W5u,W5v,W5w,W5x,W5y,W5z,W60,W61,W62,W63,W64,W65,W66,W67,W68,W69,W6a,W6b,W6c,W6d,W6e,W6f,W6g,W6h,W6i,W6j,W6k,W6l,W6m,W6n,W6o,W6p,W6q,W6r,W6s,W6t,W6u,W6v,W6w,W6x,W6y,W6z,W70,W71,W72,W73,W74,W75,W76,W77,W78,W79,W7a,W7b,W7c,W7d,W7e,W7f,W7g,W7h,W7i,W7j,W7k,W7l,W7m,W7n,W7o,W7p,W7q,W7r,W7s,W7t,W7u,W7v,W7w,W7x,W7y,W7z,Nat.reduceSub, G.mir]
  | .node a b, k + 1, hk => by
    have hk : max a.deep b.deep + 1 < k + 1 := hk
    have e1 := s_mirrored_in (x := a) (k := k) (by omega)
    have e2 := s_mirrored_in (x := b) (k := k) (by omega)
    rw [run_b h.q_mirrored_in rfl]
    unfold F_mirrored_in
    simp (disch := first | (with_reducible rfl) | assumption | omega) only [W00,W01,W02,W03,W04,W05,W06,W07,W08,W09,W0a,W0b,W0c,W0d,W0e,W0f,W0g,W0h,W0i,W0j,W0k,W0l,W0m,W0n,W0o,W0p,W0q,W0r,W0s,W0t,W0u,W0v,W0w,W0x,W0y,W0z,W10,W11,W12,W13,W14,W15,W16,W17,W18,W19,W1a,W1b,W1c,W1d,W1e,W1f,W1g,W1h,W1i,W1j,W1k,W1l,W1m,W1n,W1o,W1p,W1q,W1r,W1s,W1t,W1u,W1v,W1w,W1x,W1y,W1z,W20,W21,W22,W23,W24,W25,W26,W27,W28,W29,W2a,W2b,W2c,W2d,W2e,W2f,W2g,W2h,W2i,W2j,W2k,W2l,W2m,W2n,W2o,W2p,W2q,W2r,W2s,W2t,W2u,W2v,W2w,W2x,W2y,W2z,W30,W31,W32,W33,W34,W35,W36,W37,W38,W39,W3a,W3b,W3c,W3d,W3e,W3f,W3g,W3h,W3i,W3j,W3k,W3l,W3m,W3n,W3o,W3p,W3q,W3r,W3s,W3t,W3u,W3v,W3w,W3x,W3y,W3z,W40,W41,W42,W43,W44,W45,W46,W47,W48,W49,W4a,W4b,W4c,W4d,W4e,W4f,W4g,W4h,W4i,W4j,W4k,W4l,W4m,W4n,W4o,W4p,W4q,W4r,W4s,W4t,W4u,W4v,W4w,W4x,W4y,W4z,W50,W51,W52,W53,W54,W55,W56,W57,W58,W59,W5a,W5b,W5c,W5d,W5e,W5f,W5g,W5h,W5i,W5j,W5k,W5l,W5m,W5n,W5o,W5p,W5q,W5r,W5s,W5t,W5u,W5v,W5w,W5x,W5y,W5z,W60,W61,W62,W63,W64,W65,W66,W67,W68,W69,W6a,W6b,W6c,W6d,W6e,W6f,W6g,W6h,W6i,W6j,W6k,W6l,W6m,W6n,W6o,W6p,W6q,W6r,W6s,W6t,W6u,W6v,W6w,W6x,W6y,W6z,W70,W71,W72,W73,W74,W75,W76,W77,W78,W79,W7a,W7b,W7c,W7d,W7e,W7f,W7g,W7h,W7i,W7j,W7k,W7l,W7m,W7n,W7o,W7p,W7q,W7r,W7s,W7t,W7u,W7v,W7w,W7x,W7y,W7z,Nat.reduceSub, e1, e2, G.mir]
/-- a grouping that the defs let -/
structure Gr (n : Nat) (x : G) : Prop where
  b : x.under n
  s : x.size ≤ 10
theorem Gr.d {n : Nat} {x : G} (h : Gr n x) : x.deep ≤ 9 := by have := G.deep_lt x; have := h.s; omega
theorem s_need_grouping [h : H_need_grouping T] {n k : Nat} {g : Nat → Nat → Nat} {x : G} (t : Tb n g) (hx : Gr n x) (hk : 13 < k) : run T k i_need_grouping [tabD n g, gD x] = ret .non := by
  obtain ⟨k, rfl⟩ : ∃ j, k = j + 1 := ⟨k - 1, by omega⟩
  have h1 := t.h1
  have hd := hx.d
  have e := s_fits_grouping (T := T) t.h1 (x := x) (k := k) (d := 10) hx.b (by omega) (by omega) hx.s (by omega)
  rw [run_b h.q_need_grouping rfl]
  unfold F_need_grouping
  simp (disch := first | (with_reducible rfl) | assumption | omega) only [W00,W01,W02,W03,W04,W05,W06,W07,W08,W09,W0a,W0b,W0c,W0d,W0e,W0f,W0g,W0h,W0i,W0j,W0k,W0l,W0m,W0n,W0o,W0p,W0q,W0r,W0s,W0t,W0u,W0v,W0w,W0x,W0y,W0z,W10,W11,W12,W13,W14,W15,W16,W17,W18,W19,W1a,W1b,W1c,W1d,W1e,W1f,W1g,W1h,W1i,W1j,W1k,W1l,W1m,W1n,W1o,W1p,W1q,W1r,W1s,W1t,W1u,W1v,W1w,W1x,W1y,W1z,W20,W21,W22,W23,W24,W25,W26,W27,W28,W29,W2a,W2b,W2c,W2d,W2e,W2f,W2g,W2h,W2i,W2j,W2k,W2l,W2m,W2n,W2o,W2p,W2q,W2r,W2s,W2t,W2u,W2v,W2w,W2x,W2y,W2z,W30,W31,W32,W33,W34,W35,W36,W37,W38,W39,W3a,W3b,W3c,W3d,W3e,W3f,W3g,W3h,W3i,W3j,W3k,W3l,W3m,W3n,W3o,W3p,W3q,W3r,W3s,W3t,W3u,W3v,W3w,W3x,W3y,W3z,W40,W41,W42,W43,W44,W45,W46,W47,W48,W49,W4a,W4b,W4c,W4d,W4e,W4f,W4g,W4h,W4i,W4j,W4k,W4l,W4m,W4n,W4o,W4p,W4q,W4r,W4s,W4t,W4u,W4v,W4w,W4x,W4y,W4z,W50,W51,W52,W53,W54,W55,W56,W57,W58,W59,W5a,W5b,W5c,W5d,W5e,W5f,W5g,W5h,W5i,W5j,W5k,W5l,W5m,W5n,W5o,W5p,W5q,W5r,W5s,W5t,W5u,W5v,W5w,W5x,W5y,W5z,W60,W61,W62,W63,W64,W65,W66,W67,W68,W69,W6a,W6b,W6c,W6d,W6e,W6f,W6g,W6h,W6i,W6j,W6k,W6l,W6m,W6n,W6o,W6p,W6q,W6r,W6s,W6t,W6u,W6v,W6w,W6x,W6y,W6z,W70,W71,W72,W73,W74,W75,W76,W77,W78,W79,W7a,W7b,W7c,W7d,W7e,W7f,W7g,W7h,W7i,W7j,W7k,W7l,W7m,W7n,W7o,W7p,W7q,W7r,W7s,W7t,W7u,W7v,W7w,W7x,W7y,W7z,Nat.reduceSub, e]
theorem s_need_any_grouping [h : H_need_any_grouping T] {k : Nat} {x : G} (hx : Gr 5 x) (hk : 13 < k) : run T k i_need_any_grouping [gD x] = ret .non := by
  obtain ⟨k, rfl⟩ : ∃ j, k = j + 1 := ⟨k - 1, by omega⟩
  have hd := hx.d
  have e := s_fits_grouping (T := T) (n := 5) (by decide) (x := x) (k := k) (d := 10) hx.b (by omega) (by omega) hx.s (by omega)
  rw [run_b h.q_need_any_grouping rfl]
  unfold F_need_any_grouping
  simp (disch := first | (with_reducible rfl) | assumption | omega) only [W00,W01,W02,W03,W04,W05,W06,W07,W08,W09,W0a,W0b,W0c,W0d,W0e,W0f,W0g,W0h,W0i,W0j,W0k,W0l,W0m,W0n,W0o,W0p,W0q,W0r,W0s,W0t,W0u,W0v,W0w,W0x,W0y,W0z,W10,W11,W12,W13,W14,W15,W16,W17,W18,W19,W1a,W1b,W1c,W1d,W1e,W1f,W1g,W1h,W1i,W1j,W1k,W1l,W1m,W1n,W1o,W1p,W1q,W1r,W1s,W1t,W1u,W1v,W1w,W1x,W1y,W1z,W20,W21,W22,W23,W24,W25,W26,W27,W28,W29,W2a,W2b,W2c,W2d,W2e,W2f,W2g,W2h,W2i,W2j,W2k,W2l,W2m,W2n,W2o,W2p,W2q,W2r,W2s,W2t,W2u,W2v,W2w,W2x,W2y,W2z,W30,W31,W32,W33,W34,W35,W36,W37,W38,W39,W3a,W3b,W3c,W3d,W3e,W3f,W3g,W3h,W3i,W3j,W3k,W3l,W3m,W3n,W3o,W3p,W3q,W3r,W3s,W3t,W3u,W3v,W3w,W3x,W3y,W3z,W40,W41,W42,W43,W44,W45,W46,W47,W48,W49,W4a,W4b,W4c,W4d,W4e,W4f,W4g,W4h,W4i,W4j,W4k,W4l,W4m,W4n,W4o,W4p,W4q,W4r,W4s,W4t,W4u,W4v,W4w,W4x,W4y,W4z,W50,W51,W52,W53,W54,W55,W56,W57,W58,W59,W5a,W5b,W5c,W5d,W5e,W5f,W5g,W5h,W5i,W5j,W5k,W5l,W5m,W5n,W5o,W5p,W5q,W5r,W5s,W5t,W5u,W5v,W5w,W5x,W5y,W5z,W60,W61,W62,W63,W64,W65,W66,W67,W68,W69,W6a,W6b,W6c,W6d,W6e,W6f,W6g,W6h,W6i,W6j,W6k,W6l,W6m,W6n,W6o,W6p,W6q,W6r,W6s,W6t,W6u,W6v,W6w,W6x,W6y,W6z,W70,W71,W72,W73,W74,W75,W76,W77,W78,W79,W7a,W7b,W7c,W7d,W7e,W7f,W7g,W7h,W7i,W7j,W7k,W7l,W7m,W7n,W7o,W7p,W7q,W7r,W7s,W7t,W7u,W7v,W7w,W7x,W7y,W7z,Nat.reduceSub, e]
theorem G.under_mono {n m : Nat} (hm : n ≤ m) {x : G} (h : x.under n) : x.under m := under_row.mpr fun v hv => Nat.lt_of_lt_of_le (under_row.mp h v hv) hm
theorem Gr.five {n : Nat} {g : Nat → Nat → Nat} {x : G} (h : Gr n x) (t : Tb n g) : Gr 5 x := ⟨G.under_mono t.h5 h.b, h.s⟩
theorem s_result [h : H_result T] {n k : Nat} {g : Nat → Nat → Nat} {x : G} (t : Tb n g) (hx : Gr n x) (hk : 14 < k) : run T k i_result [tabD n g, gD x] = ret (.int (x.keep g : Int)) := by
  obtain ⟨k, rfl⟩ : ∃ j, k = j + 4 := ⟨k - 4, by omega⟩
  have hd := hx.d
  rw [run_b h.q_result rfl]
  unfold F_result
  simp (disch := first | (with_reducible rfl) | assumption | omega) only [W00,W01,W02,W03,W04,W05,W06,W07,W08,W09,W0a,W0b,W0c,W0d,W0e,W0f,W0g,W0h,W0i,W0j,W0k,W0l,W0m,W0n,W0o,W0p,W0q,W0r,W0s,W0t,W0u,W0v,W0w,W0x,W0y,W0z,W10,W11,W12,W13,W14,W15,W16,W17,W18,W19,W1a,W1b,W1c,W1d,W1e,W1f,W1g,W1h,W1i,W1j,W1k,W1l,W1m,W1n,W1o,W1p,W1q,W1r,W1s,W1t,W1u,W1v,W1w,W1x,W1y,W1z,W20,W21,W22,W23,W24,W25,W26,W27,W28,W29,W2a,W2b,W2c,W2d,W2e,W2f,W2g,W2h,W2i,W2j,W2k,W2l,W2m,W2n,W2o,W2p,W2q,W2r,W2s,W2t,W2u,W2v,W2w,W2x,W2y,W2z,W30,W31,W32,W33,W34,W35,W36,W37,W38,W39,W3a,W3b,W3c,W3d,W3e,W3f,W3g,W3h,W3i,W3j,W3k,W3l,W3m,W3n,W3o,W3p,W3q,W3r,W3s,W3t,W3u,W3v,W3w,W3x,W3y,W3z,W40,W41,W42,W43,W44,W45,W46,W47,W48,W49,W4a,W4b,W4c,W4d,W4e,W4f,W4g,W4h,W4i,W4j,W4k,W4l,W4m,W4n,W4o,W4p,W4q,W4r,W4s,W4t,W4u,W4v,W4w,W4x,W4y,W4z,W50,W51,W52,W53,W54,W55,W56,W57,W58,W59,W5a,W5b,W5c,W5d,W5e,W5f,W5g,W5h,W5i,W5j,W5k,W5l,W5m,W5n,W5o,W5p,W5q,W5r,W5s,W5t,W5u,W5v,W5w,W5x,W5y,W5z,W60,W61,W62,W63,W64,W65,W66,W67,W68,W69,W6a,W6b,W6c,W6d,W6e,W6f,W6g,W6h,W6i,W6j,W6k,W6l,W6m,W6n,W6o,W6p,W6q,W6r,W6s,W6t,W6u,W6v,W6w,W6x,W6y,W6z,W70,W71,W72,W73,W74,W75,W76,W77,W78,W79,W7a,W7b,W7c,W7d,W7e,W7f,W7g,W7h,W7i,W7j,W7k,W7l,W7m,W7n,W7o,W7p,W7q,W7r,W7s,W7t,W7u,W7v,W7w,W7x,W7y,W7z,Nat.reduceSub, s_need_table t, s_need_grouping (T := T) (k := k + 3) t hx (by omega), s_result_in (T := T) (k := k + 3) t.v hx.b (by omega)]
theorem s_row_of [h : H_row_of T] {k : Nat} {x : G} (hx : Gr 5 x) (hk : 14 < k) : run T k i_row_of [gD x] = ret (.tup (ns x.row)) := by
  obtain ⟨k, rfl⟩ : ∃ j, k = j + 1 := ⟨k - 1, by omega⟩
  have hd := hx.d
  have hs := hx.s
  rw [run_b h.q_row_of rfl]
  unfold F_row_of
  simp (disch := first | (with_reducible rfl) | assumption | omega) only [W00,W01,W02,W03,W04,W05,W06,W07,W08,W09,W0a,W0b,W0c,W0d,W0e,W0f,W0g,W0h,W0i,W0j,W0k,W0l,W0m,W0n,W0o,W0p,W0q,W0r,W0s,W0t,W0u,W0v,W0w,W0x,W0y,W0z,W10,W11,W12,W13,W14,W15,W16,W17,W18,W19,W1a,W1b,W1c,W1d,W1e,W1f,W1g,W1h,W1i,W1j,W1k,W1l,W1m,W1n,W1o,W1p,W1q,W1r,W1s,W1t,W1u,W1v,W1w,W1x,W1y,W1z,W20,W21,W22,W23,W24,W25,W26,W27,W28,W29,W2a,W2b,W2c,W2d,W2e,W2f,W2g,W2h,W2i,W2j,W2k,W2l,W2m,W2n,W2o,W2p,W2q,W2r,W2s,W2t,W2u,W2v,W2w,W2x,W2y,W2z,W30,W31,W32,W33,W34,W35,W36,W37,W38,W39,W3a,W3b,W3c,W3d,W3e,W3f,W3g,W3h,W3i,W3j,W3k,W3l,W3m,W3n,W3o,W3p,W3q,W3r,W3s,W3t,W3u,W3v,W3w,W3x,W3y,W3z,W40,W41,W42,W43,W44,W45,W46,W47,W48,W49,W4a,W4b,W4c,W4d,W4e,W4f,W4g,W4h,W4i,W4j,W4k,W4l,W4m,W4n,W4o,W4p,W4q,W4r,W4s,W4t,W4u,W4v,W4w,W4x,W4y,W4z,W50,W51,W52,W53,W54,W55,W56,W57,W58,W59,W5a,W5b,W5c,W5d,W5e,W5f,W5g,W5h,W5i,W5j,W5k,W5l,W5m,W5n,W5o,W5p,W5q,W5r,W5s,W5t,W5u,W5v,W5w,W5x,W5y,W5z,W60,W61,W62,W63,W64,W65,W66,W67,W68,W69,W6a,W6b,W6c,W6d,W6e,W6f,W6g,W6h,W6i,W6j,W6k,W6l,W6m,W6n,W6o,W6p,W6q,W6r,W6s,W6t,W6u,W6v,W6w,W6x,W6y,W6z,W70,W71,W72,W73,W74,W75,W76,W77,W78,W79,W7a,W7b,W7c,W7d,W7e,W7f,W7g,W7h,W7i,W7j,W7k,W7l,W7m,W7n,W7o,W7p,W7q,W7r,W7s,W7t,W7u,W7v,W7w,W7x,W7y,W7z,Nat.reduceSub, s_need_any_grouping (T := T) (k := k) hx (by omega), s_row_in (T := T) (k := k) (x := x) (by omega) (by omega)]
theorem s_mirrored [h : H_mirrored T] {k : Nat} {x : G} (hx : Gr 5 x) (hk : 14 < k) : run T k i_mirrored [gD x] = ret (gD x.mir) := by
  obtain ⟨k, rfl⟩ : ∃ j, k = j + 1 := ⟨k - 1, by omega⟩
  have hd := hx.d
  rw [run_b h.q_mirrored rfl]
  unfold F_mirrored
  simp (disch := first | (with_reducible rfl) | assumption | omega) only [W00,W01,W02,W03,W04,W05,W06,W07,W08,W09,W0a,W0b,W0c,W0d,W0e,W0f,W0g,W0h,W0i,W0j,W0k,W0l,W0m,W0n,W0o,W0p,W0q,W0r,W0s,W0t,W0u,W0v,W0w,W0x,W0y,W0z,W10,W11,W12,W13,W14,W15,W16,W17,W18,W19,W1a,W1b,W1c,W1d,W1e,W1f,W1g,W1h,W1i,W1j,W1k,W1l,W1m,W1n,W1o,W1p,W1q,W1r,W1s,W1t,W1u,W1v,W1w,W1x,W1y,W1z,W20,W21,W22,W23,W24,W25,W26,W27,W28,W29,W2a,W2b,W2c,W2d,W2e,W2f,W2g,W2h,W2i,W2j,W2k,W2l,W2m,W2n,W2o,W2p,W2q,W2r,W2s,W2t,W2u,W2v,W2w,W2x,W2y,W2z,W30,W31,W32,W33,W34,W35,W36,W37,W38,W39,W3a,W3b,W3c,W3d,W3e,W3f,W3g,W3h,W3i,W3j,W3k,W3l,W3m,W3n,W3o,W3p,W3q,W3r,W3s,W3t,W3u,W3v,W3w,W3x,W3y,W3z,W40,W41,W42,W43,W44,W45,W46,W47,W48,W49,W4a,W4b,W4c,W4d,W4e,W4f,W4g,W4h,W4i,W4j,W4k,W4l,W4m,W4n,W4o,W4p,W4q,W4r,W4s,W4t,W4u,W4v,W4w,W4x,W4y,W4z,W50,W51,W52,W53,W54,W55,W56,W57,W58,W59,W5a,W5b,W5c,W5d,W5e,W5f,W5g,W5h,W5i,W5j,W5k,W5l,W5m,W5n,W5o,W5p,W5q,W5r,W5s,W5t,W5u,W5v,W5w,W5x,W5y,W5z,W60,W61,W62,W63,W64,W65,W66,W67,W68,W69,W6a,W6b,W6c,W6d,W6e,W6f,W6g,W6h,W6i,W6j,W6k,W6l,W6m,W6n,W6o,W6p,W6q,W6r,W6s,W6t,W6u,W6v,W6w,W6x,W6y,W6z,W70,W71,W72,W73,W74,W75,W76,W77,W78,W79,W7a,W7b,W7c,W7d,W7e,W7f,W7g,W7h,W7i,W7j,W7k,W7l,W7m,W7n,W7o,W7p,W7q,W7r,W7s,W7t,W7u,W7v,W7w,W7x,W7y,W7z,Nat.reduceSub, s_need_any_grouping (T := T) (k := k) hx (by omega), s_mirrored_in (T := T) (k := k) (x := x) (by omega)]
theorem s_steps_of [h : H_steps_of T] {n k : Nat} {g : Nat → Nat → Nat} {x : G} (t : Tb n g) (hx : Gr n x) (hk : 14 < k) : run T k i_steps_of [tabD n g, gD x] = ret (.tup ((x.joins g).map fun j => .tup (ns [j.1, j.2.1, j.2.2]))) := by
  obtain ⟨k, rfl⟩ : ∃ j, k = j + 4 := ⟨k - 4, by omega⟩
  have hd := hx.d
  have hs := hx.s
  rw [run_b h.q_steps_of rfl]
  unfold F_steps_of
  simp (disch := first | (with_reducible rfl) | assumption | omega) only [W00,W01,W02,W03,W04,W05,W06,W07,W08,W09,W0a,W0b,W0c,W0d,W0e,W0f,W0g,W0h,W0i,W0j,W0k,W0l,W0m,W0n,W0o,W0p,W0q,W0r,W0s,W0t,W0u,W0v,W0w,W0x,W0y,W0z,W10,W11,W12,W13,W14,W15,W16,W17,W18,W19,W1a,W1b,W1c,W1d,W1e,W1f,W1g,W1h,W1i,W1j,W1k,W1l,W1m,W1n,W1o,W1p,W1q,W1r,W1s,W1t,W1u,W1v,W1w,W1x,W1y,W1z,W20,W21,W22,W23,W24,W25,W26,W27,W28,W29,W2a,W2b,W2c,W2d,W2e,W2f,W2g,W2h,W2i,W2j,W2k,W2l,W2m,W2n,W2o,W2p,W2q,W2r,W2s,W2t,W2u,W2v,W2w,W2x,W2y,W2z,W30,W31,W32,W33,W34,W35,W36,W37,W38,W39,W3a,W3b,W3c,W3d,W3e,W3f,W3g,W3h,W3i,W3j,W3k,W3l,W3m,W3n,W3o,W3p,W3q,W3r,W3s,W3t,W3u,W3v,W3w,W3x,W3y,W3z,W40,W41,W42,W43,W44,W45,W46,W47,W48,W49,W4a,W4b,W4c,W4d,W4e,W4f,W4g,W4h,W4i,W4j,W4k,W4l,W4m,W4n,W4o,W4p,W4q,W4r,W4s,W4t,W4u,W4v,W4w,W4x,W4y,W4z,W50,W51,W52,W53,W54,W55,W56,W57,W58,W59,W5a,W5b,W5c,W5d,W5e,W5f,W5g,W5h,W5i,W5j,W5k,W5l,W5m,W5n,W5o,W5p,W5q,W5r,W5s,W5t,W5u,W5v,W5w,W5x,W5y,W5z,W60,W61,W62,W63,W64,W65,W66,W67,W68,W69,W6a,W6b,W6c,W6d,W6e,W6f,W6g,W6h,W6i,W6j,W6k,W6l,W6m,W6n,W6o,W6p,W6q,W6r,W6s,W6t,W6u,W6v,W6w,W6x,W6y,W6z,W70,W71,W72,W73,W74,W75,W76,W77,W78,W79,W7a,W7b,W7c,W7d,W7e,W7f,W7g,W7h,W7i,W7j,W7k,W7l,W7m,W7n,W7o,W7p,W7q,W7r,W7s,W7t,W7u,W7v,W7w,W7x,W7y,W7z,Nat.reduceSub, s_need_table t, s_need_grouping (T := T) (k := k + 3) t hx (by omega), s_joins_in (T := T) (k := k + 3) t.v hx.b (by omega) (by omega)]
theorem Tb.turn {n : Nat} {g : Nat → Nat → Nat} (t : Tb n g) : Tb n fun i j => g j i := ⟨t.h1, t.h5, fun i hi j hj => (t.v j hj i hi).symm⟩
theorem s_turned [h : H_turned T] {n k : Nat} {g : Nat → Nat → Nat} (t : Tb n g) : run T (k + 4) i_turned [tabD n g] = ret (tabD n fun i j => g j i) := by
  have h5 := t.h5
  rw [run_b h.q_turned rfl]
  unfold F_turned
  simp (disch := first | (with_reducible rfl) | assumption | omega) only [W00,W01,W02,W03,W04,W05,W06,W07,W08,W09,W0a,W0b,W0c,W0d,W0e,W0f,W0g,W0h,W0i,W0j,W0k,W0l,W0m,W0n,W0o,W0p,W0q,W0r,W0s,W0t,W0u,W0v,W0w,W0x,W0y,W0z,W10,W11,W12,W13,W14,W15,W16,W17,W18,W19,W1a,W1b,W1c,W1d,W1e,W1f,W1g,W1h,W1i,W1j,W1k,W1l,W1m,W1n,W1o,W1p,W1q,W1r,W1s,W1t,W1u,W1v,W1w,W1x,W1y,W1z,W20,W21,W22,W23,W24,W25,W26,W27,W28,W29,W2a,W2b,W2c,W2d,W2e,W2f,W2g,W2h,W2i,W2j,W2k,W2l,W2m,W2n,W2o,W2p,W2q,W2r,W2s,W2t,W2u,W2v,W2w,W2x,W2y,W2z,W30,W31,W32,W33,W34,W35,W36,W37,W38,W39,W3a,W3b,W3c,W3d,W3e,W3f,W3g,W3h,W3i,W3j,W3k,W3l,W3m,W3n,W3o,W3p,W3q,W3r,W3s,W3t,W3u,W3v,W3w,W3x,W3y,W3z,W40,W41,W42,W43,W44,W45,W46,W47,W48,W49,W4a,W4b,W4c,W4d,W4e,W4f,W4g,W4h,W4i,W4j,W4k,W4l,W4m,W4n,W4o,W4p,W4q,W4r,W4s,W4t,W4u,W4v,W4w,W4x,W4y,W4z,W50,W51,W52,W53,W54,W55,W56,W57,W58,W59,W5a,W5b,W5c,W5d,W5e,W5f,W5g,W5h,W5i,W5j,W5k,W5l,W5m,W5n,W5o,W5p,W5q,W5r,W5s,W5t,W5u,W5v,W5w,W5x,W5y,W5z,W60,W61,W62,W63,W64,W65,W66,W67,W68,W69,W6a,W6b,W6c,W6d,W6e,W6f,W6g,W6h,W6i,W6j,W6k,W6l,W6m,W6n,W6o,W6p,W6q,W6r,W6s,W6t,W6u,W6v,W6w,W6x,W6y,W6z,W70,W71,W72,W73,W74,W75,W76,W77,W78,W79,W7a,W7b,W7c,W7d,W7e,W7f,W7g,W7h,W7i,W7j,W7k,W7l,W7m,W7n,W7o,W7p,W7q,W7r,W7s,W7t,W7u,W7v,W7w,W7x,W7y,W7z,Nat.reduceSub, s_need_table t]
  rfl
/-- a grouping of a row, drawn -/
theorem s_law_group [h : H__law_group T] [HRoll T] : ∀ {m : Nat} {r : List Nat} {k : Nat}, r.length ≤ m → 1 ≤ r.length → r.length ≤ 1000 → r.length < k → Hr (run T k i__law_group [.cup, .tup (ns r)]) fun d => ∃ x : G, d = gD x ∧ x.row = r
  | 0, r, k, h0, h1, _, _ => by omega
  | m + 1, r, k + 1, hm, h1, h2, hk => by
    rw [run_b h.q__law_group rfl]
    unfold F__law_group
    by_cases e : r.length = 1
    · obtain ⟨a, rfl⟩ := List.length_eq_one_iff.mp e
      simp (disch := first | (with_reducible rfl) | assumption | omega) only [W00,W01,W02,W03,W04,W05,W06,W07,W08,W09,W0a,W0b,W0c,W0d,W0e,W0f,W0g,W0h,W0i,W0j,W0k,W0l,W0m,W0n,W0o,W0p,W0q,W0r,W0s,W0t,W0u,W0v,W0w,W0x,W0y,W0z,W10,W11,W12,W13,W14,W15,W16,W17,W18,W19,W1a,W1b,W1c,W1d,W1e,W1f,W1g,W1h,W1i,W1j,W1k,W1l,W1m,W1n,W1o,W1p,W1q,W1r,W1s,W1t,W1u,W1v,W1w,W1x,W1y,W1z,W20,W21,W22,W23,W24,W25,W26,W27,W28,W29,W2a,W2b,W2c,W2d,W2e,W2f,W2g,W2h,W2i,W2j,W2k,W2l,W2m,W2n,W2o,W2p,W2q,W2r,W2s,W2t,W2u,W2v,W2w,W2x,W2y,W2z,W30,W31,W32,W33,W34,W35,W36,W37,W38,W39,W3a,W3b,W3c,W3d,W3e,W3f,W3g,W3h,W3i,W3j,W3k,W3l,W3m,W3n,W3o,W3p,W3q,W3r,W3s,W3t,W3u,W3v,W3w,W3x,W3y,W3z,W40,W41,W42,W43,W44,W45,W46,W47,W48,W49,W4a,W4b,W4c,W4d,W4e,W4f,W4g,W4h,W4i,W4j,W4k,W4l,W4m,W4n,W4o,W4p,W4q,W4r,W4s,W4t,W4u,W4v,W4w,W4x,W4y,W4z,W50,W51,W52,W53,W54,W55,W56,W57,W58,W59,W5a,W5b,W5c,W5d,W5e,W5f,W5g,W5h,W5i,W5j,W5k,W5l,W5m,W5n,W5o,W5p,W5q,W5r,W5s,W5t,W5u,W5v,W5w,W5x,W5y,W5z,W60,W61,W62,W63,W64,W65,W66,W67,W68,W69,W6a,W6b,W6c,W6d,W6e,W6f,W6g,W6h,W6i,W6j,W6k,W6l,W6m,W6n,W6o,W6p,W6q,W6r,W6s,W6t,W6u,W6v,W6w,W6x,W6y,W6z,W70,W71,W72,W73,W74,W75,W76,W77,W78,W79,W7a,W7b,W7c,W7d,W7e,W7f,W7g,W7h,W7i,W7j,W7k,W7l,W7m,W7n,W7o,W7p,W7q,W7r,W7s,W7t,W7u,W7v,W7w,W7x,W7y,W7z,Nat.reduceSub]
      exact Hr.ret ⟨.leaf a, rfl, rfl⟩
    · have hl : decide (r.length = 1) = false := decide_eq_false e
      simp (disch := first | (with_reducible rfl) | assumption | omega) only [W00,W01,W02,W03,W04,W05,W06,W07,W08,W09,W0a,W0b,W0c,W0d,W0e,W0f,W0g,W0h,W0i,W0j,W0k,W0l,W0m,W0n,W0o,W0p,W0q,W0r,W0s,W0t,W0u,W0v,W0w,W0x,W0y,W0z,W10,W11,W12,W13,W14,W15,W16,W17,W18,W19,W1a,W1b,W1c,W1d,W1e,W1f,W1g,W1h,W1i,W1j,W1k,W1l,W1m,W1n,W1o,W1p,W1q,W1r,W1s,W1t,W1u,W1v,W1w,W1x,W1y,W1z,W20,W21,W22,W23,W24,W25,W26,W27,W28,W29,W2a,W2b,W2c,W2d,W2e,W2f,W2g,W2h,W2i,W2j,W2k,W2l,W2m,W2n,W2o,W2p,W2q,W2r,W2s,W2t,W2u,W2v,W2w,W2x,W2y,W2z,W30,W31,W32,W33,W34,W35,W36,W37,W38,W39,W3a,W3b,W3c,W3d,W3e,W3f,W3g,W3h,W3i,W3j,W3k,W3l,W3m,W3n,W3o,W3p,W3q,W3r,W3s,W3t,W3u,W3v,W3w,W3x,W3y,W3z,W40,W41,W42,W43,W44,W45,W46,W47,W48,W49,W4a,W4b,W4c,W4d,W4e,W4f,W4g,W4h,W4i,W4j,W4k,W4l,W4m,W4n,W4o,W4p,W4q,W4r,W4s,W4t,W4u,W4v,W4w,W4x,W4y,W4z,W50,W51,W52,W53,W54,W55,W56,W57,W58,W59,W5a,W5b,W5c,W5d,W5e,W5f,W5g,W5h,W5i,W5j,W5k,W5l,W5m,W5n,W5o,W5p,W5q,W5r,W5s,W5t,W5u,W5v,W5w,W5x,W5y,W5z,W60,W61,W62,W63,W64,W65,W66,W67,W68,W69,W6a,W6b,W6c,W6d,W6e,W6f,W6g,W6h,W6i,W6j,W6k,W6l,W6m,W6n,W6o,W6p,W6q,W6r,W6s,W6t,W6u,W6v,W6w,W6x,W6y,W6z,W70,W71,W72,W73,W74,W75,W76,W77,W78,W79,W7a,W7b,W7c,W7d,W7e,W7f,W7g,W7h,W7i,W7j,W7k,W7l,W7m,W7n,W7o,W7p,W7q,W7r,W7s,W7t,W7u,W7v,W7w,W7x,W7y,W7z,Nat.reduceSub, hl]
      obtain ⟨k, rfl⟩ : ∃ j, k = j + 1 := ⟨k - 1, by omega⟩
      refine Hr.bnd (roll (by omega) (by omega)) ?_
      rintro _ ⟨c, rfl, hc⟩
      simp (disch := first | (with_reducible rfl) | assumption | omega) only [W00,W01,W02,W03,W04,W05,W06,W07,W08,W09,W0a,W0b,W0c,W0d,W0e,W0f,W0g,W0h,W0i,W0j,W0k,W0l,W0m,W0n,W0o,W0p,W0q,W0r,W0s,W0t,W0u,W0v,W0w,W0x,W0y,W0z,W10,W11,W12,W13,W14,W15,W16,W17,W18,W19,W1a,W1b,W1c,W1d,W1e,W1f,W1g,W1h,W1i,W1j,W1k,W1l,W1m,W1n,W1o,W1p,W1q,W1r,W1s,W1t,W1u,W1v,W1w,W1x,W1y,W1z,W20,W21,W22,W23,W24,W25,W26,W27,W28,W29,W2a,W2b,W2c,W2d,W2e,W2f,W2g,W2h,W2i,W2j,W2k,W2l,W2m,W2n,W2o,W2p,W2q,W2r,W2s,W2t,W2u,W2v,W2w,W2x,W2y,W2z,W30,W31,W32,W33,W34,W35,W36,W37,W38,W39,W3a,W3b,W3c,W3d,W3e,W3f,W3g,W3h,W3i,W3j,W3k,W3l,W3m,W3n,W3o,W3p,W3q,W3r,W3s,W3t,W3u,W3v,W3w,W3x,W3y,W3z,W40,W41,W42,W43,W44,W45,W46,W47,W48,W49,W4a,W4b,W4c,W4d,W4e,W4f,W4g,W4h,W4i,W4j,W4k,W4l,W4m,W4n,W4o,W4p,W4q,W4r,W4s,W4t,W4u,W4v,W4w,W4x,W4y,W4z,W50,W51,W52,W53,W54,W55,W56,W57,W58,W59,W5a,W5b,W5c,W5d,W5e,W5f,W5g,W5h,W5i,W5j,W5k,W5l,W5m,W5n,W5o,W5p,W5q,W5r,W5s,W5t,W5u,W5v,W5w,W5x,W5y,W5z,W60,W61,W62,W63,W64,W65,W66,W67,W68,W69,W6a,W6b,W6c,W6d,W6e,W6f,W6g,W6h,W6i,W6j,W6k,W6l,W6m,W6n,W6o,W6p,W6q,W6r,W6s,W6t,W6u,W6v,W6w,W6x,W6y,W6z,W70,W71,W72,W73,W74,W75,W76,W77,W78,W79,W7a,W7b,W7c,W7d,W7e,W7f,W7g,W7h,W7i,W7j,W7k,W7l,W7m,W7n,W7o,W7p,W7q,W7r,W7s,W7t,W7u,W7v,W7w,W7x,W7y,W7z,Nat.reduceSub]
      refine Hr.bnd (s_law_group (m := m) (r := r.take (1 + c)) (k := k + 1) (by simp; omega) (by simp; omega) (by simp; omega) (by simp; omega)) ?_
      rintro _ ⟨x, rfl, hx⟩
      simp (disch := first | (with_reducible rfl) | assumption | omega) only [W00,W01,W02,W03,W04,W05,W06,W07,W08,W09,W0a,W0b,W0c,W0d,W0e,W0f,W0g,W0h,W0i,W0j,W0k,W0l,W0m,W0n,W0o,W0p,W0q,W0r,W0s,W0t,W0u,W0v,W0w,W0x,W0y,W0z,W10,W11,W12,W13,W14,W15,W16,W17,W18,W19,W1a,W1b,W1c,W1d,W1e,W1f,W1g,W1h,W1i,W1j,W1k,W1l,W1m,W1n,W1o,W1p,W1q,W1r,W1s,W1t,W1u,W1v,W1w,W1x,W1y,W1z,W20,W21,W22,W23,W24,W25,W26,W27,W28,W29,W2a,W2b,W2c,W2d,W2e,W2f,W2g,W2h,W2i,W2j,W2k,W2l,W2m,W2n,W2o,W2p,W2q,W2r,W2s,W2t,W2u,W2v,W2w,W2x,W2y,W2z,W30,W31,W32,W33,W34,W35,W36,W37,W38,W39,W3a,W3b,W3c,W3d,W3e,W3f,W3g,W3h,W3i,W3j,W3k,W3l,W3m,W3n,W3o,W3p,W3q,W3r,W3s,W3t,W3u,W3v,W3w,W3x,W3y,W3z,W40,W41,W42,W43,W44,W45,W46,W47,W48,W49,W4a,W4b,W4c,W4d,W4e,W4f,W4g,W4h,W4i,W4j,W4k,W4l,W4m,W4n,W4o,W4p,W4q,W4r,W4s,W4t,W4u,W4v,W4w,W4x,W4y,W4z,W50,W51,W52,W53,W54,W55,W56,W57,W58,W59,W5a,W5b,W5c,W5d,W5e,W5f,W5g,W5h,W5i,W5j,W5k,W5l,W5m,W5n,W5o,W5p,W5q,W5r,W5s,W5t,W5u,W5v,W5w,W5x,W5y,W5z,W60,W61,W62,W63,W64,W65,W66,W67,W68,W69,W6a,W6b,W6c,W6d,W6e,W6f,W6g,W6h,W6i,W6j,W6k,W6l,W6m,W6n,W6o,W6p,W6q,W6r,W6s,W6t,W6u,W6v,W6w,W6x,W6y,W6z,W70,W71,W72,W73,W74,W75,W76,W77,W78,W79,W7a,W7b,W7c,W7d,W7e,W7f,W7g,W7h,W7i,W7j,W7k,W7l,W7m,W7n,W7o,W7p,W7q,W7r,W7s,W7t,W7u,W7v,W7w,W7x,W7y,W7z,Nat.reduceSub]
      refine Hr.bnd (s_law_group (m := m) (r := r.drop (1 + c)) (k := k + 1) (by simp; omega) (by simp; omega) (by simp; omega) (by simp; omega)) ?_
      rintro _ ⟨y, rfl, hy⟩
      simp (disch := first | (with_reducible rfl) | assumption | omega) only [W00,W01,W02,W03,W04,W05,W06,W07,W08,W09,W0a,W0b,W0c,W0d,W0e,W0f,W0g,W0h,W0i,W0j,W0k,W0l,W0m,W0n,W0o,W0p,W0q,W0r,W0s,W0t,W0u,W0v,W0w,W0x,W0y,W0z,W10,W11,W12,W13,W14,W15,W16,W17,W18,W19,W1a,W1b,W1c,W1d,W1e,W1f,W1g,W1h,W1i,W1j,W1k,W1l,W1m,W1n,W1o,W1p,W1q,W1r,W1s,W1t,W1u,W1v,W1w,W1x,W1y,W1z,W20,W21,W22,W23,W24,W25,W26,W27,W28,W29,W2a,W2b,W2c,W2d,W2e,W2f,W2g,W2h,W2i,W2j,W2k,W2l,W2m,W2n,W2o,W2p,W2q,W2r,W2s,W2t,W2u,W2v,W2w,W2x,W2y,W2z,W30,W31,W32,W33,W34,W35,W36,W37,W38,W39,W3a,W3b,W3c,W3d,W3e,W3f,W3g,W3h,W3i,W3j,W3k,W3l,W3m,W3n,W3o,W3p,W3q,W3r,W3s,W3t,W3u,W3v,W3w,W3x,W3y,W3z,W40,W41,W42,W43,W44,W45,W46,W47,W48,W49,W4a,W4b,W4c,W4d,W4e,W4f,W4g,W4h,W4i,W4j,W4k,W4l,W4m,W4n,W4o,W4p,W4q,W4r,W4s,W4t,W4u,W4v,W4w,W4x,W4y,W4z,W50,W51,W52,W53,W54,W55,W56,W57,W58,W59,W5a,W5b,W5c,W5d,W5e,W5f,W5g,W5h,W5i,W5j,W5k,W5l,W5m,W5n,W5o,W5p,W5q,W5r,W5s,W5t,W5u,W5v,W5w,W5x,W5y,W5z,W60,W61,W62,W63,W64,W65,W66,W67,W68,W69,W6a,W6b,W6c,W6d,W6e,W6f,W6g,W6h,W6i,W6j,W6k,W6l,W6m,W6n,W6o,W6p,W6q,W6r,W6s,W6t,W6u,W6v,W6w,W6x,W6y,W6z,W70,W71,W72,W73,W74,W75,W76,W77,W78,W79,W7a,W7b,W7c,W7d,W7e,W7f,W7g,W7h,W7i,W7j,W7k,W7l,W7m,W7n,W7o,W7p,W7q,W7r,W7s,W7t,W7u,W7v,W7w,W7x,W7y,W7z,Nat.reduceSub]
      exact Hr.ret ⟨.node x y, rfl, by rw [G.row, hx, hy, List.take_append_drop]⟩
/-! folds -/
def G.lft : G → List Nat → G
  | x, [] => x
  | x, t :: r => G.lft (.node x (.leaf t)) r
def G.rgt : G → List Nat → G
  | x, [] => x
  | x, t :: r => G.rgt (.node (.leaf t) x) r
theorem G.lft_snoc (t : Nat) : ∀ (r : List Nat) (x : G), G.lft x (r ++ [t]) = .node (G.lft x r) (.leaf t)
  | [], x => rfl
  | a :: r, x => by rw [List.cons_append, lft, lft_snoc t r, lft]
theorem G.rgt_snoc (t : Nat) : ∀ (r : List Nat) (x : G), G.rgt x (r ++ [t]) = .node (.leaf t) (G.rgt x r)
  | [], x => rfl
  | a :: r, x => by rw [List.cons_append, rgt, rgt_snoc t r, rgt]
theorem G.lft_row : ∀ (r : List Nat) (x : G), (G.lft x r).row = x.row ++ r
  | [], x => by simp [lft]
  | a :: r, x => by rw [lft, lft_row r]; simp [row]
theorem G.rgt_row : ∀ (r : List Nat) (x : G), (G.rgt x r).row = r.reverse ++ x.row
  | [], x => by simp [rgt]
  | a :: r, x => by rw [rgt, rgt_row r]; simp [row]
theorem G.lft_keep (g : Nat → Nat → Nat) : ∀ (r : List Nat) (x : G), (G.lft x r).keep g = r.foldl g (x.keep g)
  | [], x => rfl
  | a :: r, x => by rw [lft, lft_keep g r]; rfl
theorem G.rgt_keep (g : Nat → Nat → Nat) : ∀ (r : List Nat) (x : G), (G.rgt x r).keep g = r.foldl (fun a t => g t a) (x.keep g)
  | [], x => rfl
  | a :: r, x => by rw [rgt, rgt_keep g r]; rfl
theorem s_from_left_in [h : H_from_left_in T] {k : Nat} (a : Nat) (r : List Nat) : run T (k + 1) i_from_left_in [.tup (ns (a :: r))] = ret (gD (G.lft (.leaf a) r)) := by
  rw [run_b h.q_from_left_in rfl]
  unfold F_from_left_in
  simp (disch := first | (with_reducible rfl) | assumption | omega) only [W00,W01,W02,W03,W04,W05,W06,W07,W08,W09,W0a,W0b,W0c,W0d,W0e,W0f,W0g,W0h,W0i,W0j,W0k,W0l,W0m,W0n,W0o,W0p,W0q,W0r,W0s,W0t,W0u,W0v,W0w,W0x,W0y,W0z,W10,W11,W12,W13,W14,W15,W16,W17,W18,W19,W1a,W1b,W1c,W1d,W1e,W1f,W1g,W1h,W1i,W1j,W1k,W1l,W1m,W1n,W1o,W1p,W1q,W1r,W1s,W1t,W1u,W1v,W1w,W1x,W1y,W1z,W20,W21,W22,W23,W24,W25,W26,W27,W28,W29,W2a,W2b,W2c,W2d,W2e,W2f,W2g,W2h,W2i,W2j,W2k,W2l,W2m,W2n,W2o,W2p,W2q,W2r,W2s,W2t,W2u,W2v,W2w,W2x,W2y,W2z,W30,W31,W32,W33,W34,W35,W36,W37,W38,W39,W3a,W3b,W3c,W3d,W3e,W3f,W3g,W3h,W3i,W3j,W3k,W3l,W3m,W3n,W3o,W3p,W3q,W3r,W3s,W3t,W3u,W3v,W3w,W3x,W3y,W3z,W40,W41,W42,W43,W44,W45,W46,W47,W48,W49,W4a,W4b,W4c,W4d,W4e,W4f,W4g,W4h,W4i,W4j,W4k,W4l,W4m,W4n,W4o,W4p,W4q,W4r,W4s,W4t,W4u,W4v,W4w,W4x,W4y,W4z,W50,W51,W52,W53,W54,W55,W56,W57,W58,W59,W5a,W5b,W5c,W5d,W5e,W5f,W5g,W5h,W5i,W5j,W5k,W5l,W5m,W5n,W5o,W5p,W5q,W5r,W5s,W5t,W5u,W5v,W5w,W5x,W5y,W5z,W60,W61,W62,W63,W64,W65,W66,W67,W68,W69,W6a,W6b,W6c,W6d,W6e,W6f,W6g,W6h,W6i,W6j,W6k,W6l,W6m,W6n,W6o,W6p,W6q,W6r,W6s,W6t,W6u,W6v,W6w,W6x,W6y,W6z,W70,W71,W72,W73,W74,W75,W76,W77,W78,W79,W7a,W7b,W7c,W7d,W7e,W7f,W7g,W7h,W7i,W7j,W7k,W7l,W7m,W7n,W7o,W7p,W7q,W7r,W7s,W7t,W7u,W7v,W7w,W7x,W7y,W7z,Nat.reduceSub, List.drop_succ_cons, List.drop_zero]
  obtain ⟨ρ', e, y, rfl⟩ := fp_forP (st := asg (.nm 2)) (b := exs (run T k) (.cons (.asg (.nm 1) (.tup (.cons (.var 1) (.cons (.var 2) .nil)))) .nil)) (F := fun (n : Nat) => D.int (n : Int)) (l := r) (ρ := [.tup (ns (a :: r)), .int (a : Int), .und])
    (I := fun p ρ => ∃ y, ρ = [.tup (ns (a :: r)), gD (G.lft (.leaf a) p), y]) ⟨_, rfl⟩ (by
      rintro p v q _ _ ⟨y, rfl⟩
      refine ⟨_, by simp (disch := first | (with_reducible rfl) | assumption | omega) only [W00,W01,W02,W03,W04,W05,W06,W07,W08,W09,W0a,W0b,W0c,W0d,W0e,W0f,W0g,W0h,W0i,W0j,W0k,W0l,W0m,W0n,W0o,W0p,W0q,W0r,W0s,W0t,W0u,W0v,W0w,W0x,W0y,W0z,W10,W11,W12,W13,W14,W15,W16,W17,W18,W19,W1a,W1b,W1c,W1d,W1e,W1f,W1g,W1h,W1i,W1j,W1k,W1l,W1m,W1n,W1o,W1p,W1q,W1r,W1s,W1t,W1u,W1v,W1w,W1x,W1y,W1z,W20,W21,W22,W23,W24,W25,W26,W27,W28,W29,W2a,W2b,W2c,W2d,W2e,W2f,W2g,W2h,W2i,W2j,W2k,W2l,W2m,W2n,W2o,W2p,W2q,W2r,W2s,W2t,W2u,W2v,W2w,W2x,W2y,W2z,W30,W31,W32,W33,W34,W35,W36,W37,W38,W39,W3a,W3b,W3c,W3d,W3e,W3f,W3g,W3h,W3i,W3j,W3k,W3l,W3m,W3n,W3o,W3p,W3q,W3r,W3s,W3t,W3u,W3v,W3w,W3x,W3y,W3z,W40,W41,W42,W43,W44,W45,W46,W47,W48,W49,W4a,W4b,W4c,W4d,W4e,W4f,W4g,W4h,W4i,W4j,W4k,W4l,W4m,W4n,W4o,W4p,W4q,W4r,W4s,W4t,W4u,W4v,W4w,W4x,W4y,W4z,W50,W51,W52,W53,W54,W55,W56,W57,W58,W59,W5a,W5b,W5c,W5d,W5e,W5f,W5g,W5h,W5i,W5j,W5k,W5l,W5m,W5n,W5o,W5p,W5q,W5r,W5s,W5t,W5u,W5v,W5w,W5x,W5y,W5z,W60,W61,W62,W63,W64,W65,W66,W67,W68,W69,W6a,W6b,W6c,W6d,W6e,W6f,W6g,W6h,W6i,W6j,W6k,W6l,W6m,W6n,W6o,W6p,W6q,W6r,W6s,W6t,W6u,W6v,W6w,W6x,W6y,W6z,W70,W71,W72,W73,W74,W75,W76,W77,W78,W79,W7a,W7b,W7c,W7d,W7e,W7f,W7g,W7h,W7i,W7j,W7k,W7l,W7m,W7n,W7o,W7p,W7q,W7r,W7s,W7t,W7u,W7v,W7w,W7x,W7y,W7z,Nat.reduceSub, G.lft_snoc]; rfl, _, .inl rfl, _, rfl⟩)
  rw [show ns r = r.map fun (n : Nat) => D.int (n : Int) from rfl, e]
  simp (disch := first | (with_reducible rfl) | assumption | omega) only [W00,W01,W02,W03,W04,W05,W06,W07,W08,W09,W0a,W0b,W0c,W0d,W0e,W0f,W0g,W0h,W0i,W0j,W0k,W0l,W0m,W0n,W0o,W0p,W0q,W0r,W0s,W0t,W0u,W0v,W0w,W0x,W0y,W0z,W10,W11,W12,W13,W14,W15,W16,W17,W18,W19,W1a,W1b,W1c,W1d,W1e,W1f,W1g,W1h,W1i,W1j,W1k,W1l,W1m,W1n,W1o,W1p,W1q,W1r,W1s,W1t,W1u,W1v,W1w,W1x,W1y,W1z,W20,W21,W22,W23,W24,W25,W26,W27,W28,W29,W2a,W2b,W2c,W2d,W2e,W2f,W2g,W2h,W2i,W2j,W2k,W2l,W2m,W2n,W2o,W2p,W2q,W2r,W2s,W2t,W2u,W2v,W2w,W2x,W2y,W2z,W30,W31,W32,W33,W34,W35,W36,W37,W38,W39,W3a,W3b,W3c,W3d,W3e,W3f,W3g,W3h,W3i,W3j,W3k,W3l,W3m,W3n,W3o,W3p,W3q,W3r,W3s,W3t,W3u,W3v,W3w,W3x,W3y,W3z,W40,W41,W42,W43,W44,W45,W46,W47,W48,W49,W4a,W4b,W4c,W4d,W4e,W4f,W4g,W4h,W4i,W4j,W4k,W4l,W4m,W4n,W4o,W4p,W4q,W4r,W4s,W4t,W4u,W4v,W4w,W4x,W4y,W4z,W50,W51,W52,W53,W54,W55,W56,W57,W58,W59,W5a,W5b,W5c,W5d,W5e,W5f,W5g,W5h,W5i,W5j,W5k,W5l,W5m,W5n,W5o,W5p,W5q,W5r,W5s,W5t,W5u,W5v,W5w,W5x,W5y,W5z,W60,W61,W62,W63,W64,W65,W66,W67,W68,W69,W6a,W6b,W6c,W6d,W6e,W6f,W6g,W6h,W6i,W6j,W6k,W6l,W6m,W6n,W6o,W6p,W6q,W6r,W6s,W6t,W6u,W6v,W6w,W6x,W6y,W6z,W70,W71,W72,W73,W74,W75,W76,W77,W78,W79,W7a,W7b,W7c,W7d,W7e,W7f,W7g,W7h,W7i,W7j,W7k,W7l,W7m,W7n,W7o,W7p,W7q,W7r,W7s,W7t,W7u,W7v,W7w,W7x,W7y,W7z,Nat.reduceSub]
theorem s_from_right_in [h : H_from_right_in T] {k : Nat} (a : Nat) (r : List Nat) : run T (k + 1) i_from_right_in [.tup (ns (r ++ [a]))] = ret (gD (G.rgt (.leaf a) r.reverse)) := by
  rw [run_b h.q_from_right_in rfl]
  unfold F_from_right_in
  simp (disch := first | (with_reducible rfl) | assumption | omega) only [W00,W01,W02,W03,W04,W05,W06,W07,W08,W09,W0a,W0b,W0c,W0d,W0e,W0f,W0g,W0h,W0i,W0j,W0k,W0l,W0m,W0n,W0o,W0p,W0q,W0r,W0s,W0t,W0u,W0v,W0w,W0x,W0y,W0z,W10,W11,W12,W13,W14,W15,W16,W17,W18,W19,W1a,W1b,W1c,W1d,W1e,W1f,W1g,W1h,W1i,W1j,W1k,W1l,W1m,W1n,W1o,W1p,W1q,W1r,W1s,W1t,W1u,W1v,W1w,W1x,W1y,W1z,W20,W21,W22,W23,W24,W25,W26,W27,W28,W29,W2a,W2b,W2c,W2d,W2e,W2f,W2g,W2h,W2i,W2j,W2k,W2l,W2m,W2n,W2o,W2p,W2q,W2r,W2s,W2t,W2u,W2v,W2w,W2x,W2y,W2z,W30,W31,W32,W33,W34,W35,W36,W37,W38,W39,W3a,W3b,W3c,W3d,W3e,W3f,W3g,W3h,W3i,W3j,W3k,W3l,W3m,W3n,W3o,W3p,W3q,W3r,W3s,W3t,W3u,W3v,W3w,W3x,W3y,W3z,W40,W41,W42,W43,W44,W45,W46,W47,W48,W49,W4a,W4b,W4c,W4d,W4e,W4f,W4g,W4h,W4i,W4j,W4k,W4l,W4m,W4n,W4o,W4p,W4q,W4r,W4s,W4t,W4u,W4v,W4w,W4x,W4y,W4z,W50,W51,W52,W53,W54,W55,W56,W57,W58,W59,W5a,W5b,W5c,W5d,W5e,W5f,W5g,W5h,W5i,W5j,W5k,W5l,W5m,W5n,W5o,W5p,W5q,W5r,W5s,W5t,W5u,W5v,W5w,W5x,W5y,W5z,W60,W61,W62,W63,W64,W65,W66,W67,W68,W69,W6a,W6b,W6c,W6d,W6e,W6f,W6g,W6h,W6i,W6j,W6k,W6l,W6m,W6n,W6o,W6p,W6q,W6r,W6s,W6t,W6u,W6v,W6w,W6x,W6y,W6z,W70,W71,W72,W73,W74,W75,W76,W77,W78,W79,W7a,W7b,W7c,W7d,W7e,W7f,W7g,W7h,W7i,W7j,W7k,W7l,W7m,W7n,W7o,W7p,W7q,W7r,W7s,W7t,W7u,W7v,W7w,W7x,W7y,W7z,Nat.reduceSub, List.getLast?_concat, List.dropLast_concat]
  obtain ⟨ρ', e, y, rfl⟩ := fp_forP (st := asg (.nm 2)) (b := exs (run T k) (.cons (.asg (.nm 1) (.tup (.cons (.var 2) (.cons (.var 1) .nil)))) .nil)) (F := fun (n : Nat) => D.int (n : Int)) (l := r.reverse) (ρ := [.tup (ns (r ++ [a])), .int (a : Int), .und])
    (I := fun p ρ => ∃ y, ρ = [.tup (ns (r ++ [a])), gD (G.rgt (.leaf a) p), y]) ⟨_, rfl⟩ (by
      rintro p v q _ _ ⟨y, rfl⟩
      refine ⟨_, by simp (disch := first | (with_reducible rfl) | assumption | omega) only [W00,W01,W02,W03,W04,W05,W06,W07,W08,W09,W0a,W0b,W0c,W0d,W0e,W0f,W0g,W0h,W0i,W0j,W0k,W0l,W0m,W0n,W0o,W0p,W0q,W0r,W0s,W0t,W0u,W0v,W0w,W0x,W0y,W0z,W10,W11,W12,W13,W14,W15,W16,W17,W18,W19,W1a,W1b,W1c,W1d,W1e,W1f,W1g,W1h,W1i,W1j,W1k,W1l,W1m,W1n,W1o,W1p,W1q,W1r,W1s,W1t,W1u,W1v,W1w,W1x,W1y,W1z,W20,W21,W22,W23,W24,W25,W26,W27,W28,W29,W2a,W2b,W2c,W2d,W2e,W2f,W2g,W2h,W2i,W2j,W2k,W2l,W2m,W2n,W2o,W2p,W2q,W2r,W2s,W2t,W2u,W2v,W2w,W2x,W2y,W2z,W30,W31,W32,W33,W34,W35,W36,W37,W38,W39,W3a,W3b,W3c,W3d,W3e,W3f,W3g,W3h,W3i,W3j,W3k,W3l,W3m,W3n,W3o,W3p,W3q,W3r,W3s,W3t,W3u,W3v,W3w,W3x,W3y,W3z,W40,W41,W42,W43,W44,W45,W46,W47,W48,W49,W4a,W4b,W4c,W4d,W4e,W4f,W4g,W4h,W4i,W4j,W4k,W4l,W4m,W4n,W4o,W4p,W4q,W4r,W4s,W4t,W4u,W4v,W4w,W4x,W4y,W4z,W50,W51,W52,W53,W54,W55,W56,W57,W58,W59,W5a,W5b,W5c,W5d,W5e,W5f,W5g,W5h,W5i,W5j,W5k,W5l,W5m,W5n,W5o,W5p,W5q,W5r,W5s,W5t,W5u,W5v,W5w,W5x,W5y,W5z,W60,W61,W62,W63,W64,W65,W66,W67,W68,W69,W6a,W6b,W6c,W6d,W6e,W6f,W6g,W6h,W6i,W6j,W6k,W6l,W6m,W6n,W6o,W6p,W6q,W6r,W6s,W6t,W6u,W6v,W6w,W6x,W6y,W6z,W70,W71,W72,W73,W74,W75,W76,W77,W78,W79,W7a,W7b,W7c,W7d,W7e,W7f,W7g,W7h,W7i,W7j,W7k,W7l,W7m,W7n,W7o,W7p,W7q,W7r,W7s,W7t,W7u,W7v,W7w,W7x,W7y,W7z,Nat.reduceSub, G.rgt_snoc]; rfl, _, .inl rfl, _, rfl⟩)
  rw [show ns r.reverse = r.reverse.map fun (n : Nat) => D.int (n : Int) from rfl, e]
  simp (disch := first | (with_reducible rfl) | assumption | omega) only [W00,W01,W02,W03,W04,W05,W06,W07,W08,W09,W0a,W0b,W0c,W0d,W0e,W0f,W0g,W0h,W0i,W0j,W0k,W0l,W0m,W0n,W0o,W0p,W0q,W0r,W0s,W0t,W0u,W0v,W0w,W0x,W0y,W0z,W10,W11,W12,W13,W14,W15,W16,W17,W18,W19,W1a,W1b,W1c,W1d,W1e,W1f,W1g,W1h,W1i,W1j,W1k,W1l,W1m,W1n,W1o,W1p,W1q,W1r,W1s,W1t,W1u,W1v,W1w,W1x,W1y,W1z,W20,W21,W22,W23,W24,W25,W26,W27,W28,W29,W2a,W2b,W2c,W2d,W2e,W2f,W2g,W2h,W2i,W2j,W2k,W2l,W2m,W2n,W2o,W2p,W2q,W2r,W2s,W2t,W2u,W2v,W2w,W2x,W2y,W2z,W30,W31,W32,W33,W34,W35,W36,W37,W38,W39,W3a,W3b,W3c,W3d,W3e,W3f,W3g,W3h,W3i,W3j,W3k,W3l,W3m,W3n,W3o,W3p,W3q,W3r,W3s,W3t,W3u,W3v,W3w,W3x,W3y,W3z,W40,W41,W42,W43,W44,W45,W46,W47,W48,W49,W4a,W4b,W4c,W4d,W4e,W4f,W4g,W4h,W4i,W4j,W4k,W4l,W4m,W4n,W4o,W4p,W4q,W4r,W4s,W4t,W4u,W4v,W4w,W4x,W4y,W4z,W50,W51,W52,W53,W54,W55,W56,W57,W58,W59,W5a,W5b,W5c,W5d,W5e,W5f,W5g,W5h,W5i,W5j,W5k,W5l,W5m,W5n,W5o,W5p,W5q,W5r,W5s,W5t,W5u,W5v,W5w,W5x,W5y,W5z,W60,W61,W62,W63,W64,W65,W66,W67,W68,W69,W6a,W6b,W6c,W6d,W6e,W6f,W6g,W6h,W6i,W6j,W6k,W6l,W6m,W6n,W6o,W6p,W6q,W6r,W6s,W6t,W6u,W6v,W6w,W6x,W6y,W6z,W70,W71,W72,W73,W74,W75,W76,W77,W78,W79,W7a,W7b,W7c,W7d,W7e,W7f,W7g,W7h,W7i,W7j,W7k,W7l,W7m,W7n,W7o,W7p,W7q,W7r,W7s,W7t,W7u,W7v,W7w,W7x,W7y,W7z,Nat.reduceSub]
/-- halved again and again -/
def G.half : Nat → List Nat → G
  | 0, r => .leaf (r.headD 0)
  | f + 1, r => if r.length = 1 then .leaf (r.headD 0) else .node (G.half f (r.take ((r.length + 1) / 2))) (G.half f (r.drop ((r.length + 1) / 2)))
theorem G.half_row : ∀ {f : Nat} {r : List Nat}, 1 ≤ r.length → r.length ≤ f + 1 → (G.half f r).row = r
  | 0, r, h, h2 => by
    obtain ⟨a, rfl⟩ := List.length_eq_one_iff.mp (show r.length = 1 by omega)
    rfl
  | f + 1, r, h, h2 => by
    rw [half]
    by_cases e : r.length = 1
    · obtain ⟨a, rfl⟩ := List.length_eq_one_iff.mp e
      rfl
    · rw [if_neg e, row, half_row (by simp; omega) (by simp; omega), half_row (by simp; omega) (by simp; omega), List.take_append_drop]
theorem s_halved_in [h : H_halved_in T] : ∀ {f : Nat} {r : List Nat} {k : Nat}, 1 ≤ r.length → r.length ≤ f + 1 → r.length ≤ 1000 → f < k → run T k i_halved_in [.tup (ns r)] = ret (gD (G.half f r))
  | f, r, k + 1, h1, h2, h3, hk => by
    rw [run_b h.q_halved_in rfl]
    unfold F_halved_in
    by_cases e : r.length = 1
    · obtain ⟨a, rfl⟩ := List.length_eq_one_iff.mp e
      simp (disch := first | (with_reducible rfl) | assumption | omega) only [W00,W01,W02,W03,W04,W05,W06,W07,W08,W09,W0a,W0b,W0c,W0d,W0e,W0f,W0g,W0h,W0i,W0j,W0k,W0l,W0m,W0n,W0o,W0p,W0q,W0r,W0s,W0t,W0u,W0v,W0w,W0x,W0y,W0z,W10,W11,W12,W13,W14,W15,W16,W17,W18,W19,W1a,W1b,W1c,W1d,W1e,W1f,W1g,W1h,W1i,W1j,W1k,W1l,W1m,W1n,W1o,W1p,W1q,W1r,W1s,W1t,W1u,W1v,W1w,W1x,W1y,W1z,W20,W21,W22,W23,W24,W25,W26,W27,W28,W29,W2a,W2b,W2c,W2d,W2e,W2f,W2g,W2h,W2i,W2j,W2k,W2l,W2m,W2n,W2o,W2p,W2q,W2r,W2s,W2t,W2u,W2v,W2w,W2x,W2y,W2z,W30,W31,W32,W33,W34,W35,W36,W37,W38,W39,W3a,W3b,W3c,W3d,W3e,W3f,W3g,W3h,W3i,W3j,W3k,W3l,W3m,W3n,W3o,W3p,W3q,W3r,W3s,W3t,W3u,W3v,W3w,W3x,W3y,W3z,W40,W41,W42,W43,W44,W45,W46,W47,W48,W49,W4a,W4b,W4c,W4d,W4e,W4f,W4g,W4h,W4i,W4j,W4k,W4l,W4m,W4n,W4o,W4p,W4q,W4r,W4s,W4t,W4u,W4v,W4w,W4x,W4y,W4z,W50,W51,W52,W53,W54,W55,W56,W57,W58,W59,W5a,W5b,W5c,W5d,W5e,W5f,W5g,W5h,W5i,W5j,W5k,W5l,W5m,W5n,W5o,W5p,W5q,W5r,W5s,W5t,W5u,W5v,W5w,W5x,W5y,W5z,W60,W61,W62,W63,W64,W65,W66,W67,W68,W69,W6a,W6b,W6c,W6d,W6e,W6f,W6g,W6h,W6i,W6j,W6k,W6l,W6m,W6n,W6o,W6p,W6q,W6r,W6s,W6t,W6u,W6v,W6w,W6x,W6y,W6z,W70,W71,W72,W73,W74,W75,W76,W77,W78,W79,W7a,W7b,W7c,W7d,W7e,W7f,W7g,W7h,W7i,W7j,W7k,W7l,W7m,W7n,W7o,W7p,W7q,W7r,W7s,W7t,W7u,W7v,W7w,W7x,W7y,W7z,Nat.reduceSub]
      cases f <;> rfl
    · have hl : decide (r.length = 1) = false := decide_eq_false e
      obtain ⟨f, rfl⟩ : ∃ j, f = j + 1 := ⟨f - 1, by omega⟩
      have e1 := s_halved_in (f := f) (r := r.take ((r.length + 1) / 2)) (k := k) (by simp; omega) (by simp; omega) (by simp; omega) (by omega)
      have e2 := s_halved_in (f := f) (r := r.drop ((r.length + 1) / 2)) (k := k) (by simp; omega) (by simp; omega) (by simp; omega) (by omega)
      simp (disch := first | (with_reducible rfl) | assumption | omega) only [W00,W01,W02,W03,W04,W05,W06,W07,W08,W09,W0a,W0b,W0c,W0d,W0e,W0f,W0g,W0h,W0i,W0j,W0k,W0l,W0m,W0n,W0o,W0p,W0q,W0r,W0s,W0t,W0u,W0v,W0w,W0x,W0y,W0z,W10,W11,W12,W13,W14,W15,W16,W17,W18,W19,W1a,W1b,W1c,W1d,W1e,W1f,W1g,W1h,W1i,W1j,W1k,W1l,W1m,W1n,W1o,W1p,W1q,W1r,W1s,W1t,W1u,W1v,W1w,W1x,W1y,W1z,W20,W21,W22,W23,W24,W25,W26,W27,W28,W29,W2a,W2b,W2c,W2d,W2e,W2f,W2g,W2h,W2i,W2j,W2k,W2l,W2m,W2n,W2o,W2p,W2q,W2r,W2s,W2t,W2u,W2v,W2w,W2x,W2y,W2z,W30,W31,W32,W33,W34,W35,W36,W37,W38,W39,W3a,W3b,W3c,W3d,W3e,W3f,W3g,W3h,W3i,W3j,W3k,W3l,W3m,W3n,W3o,W3p,W3q,W3r,W3s,W3t,W3u,W3v,W3w,W3x,W3y,W3z,W40,W41,W42,W43,W44,W45,W46,W47,W48,W49,W4a,W4b,W4c,W4d,W4e,W4f,W4g,W4h,W4i,W4j,W4k,W4l,W4m,W4n,W4o,W4p,W4q,W4r,W4s,W4t,W4u,W4v,W4w,W4x,W4y,W4z,W50,W51,W52,W53,W54,W55,W56,W57,W58,W59,W5a,W5b,W5c,W5d,W5e,W5f,W5g,W5h,W5i,W5j,W5k,W5l,W5m,W5n,W5o,W5p,W5q,W5r,W5s,W5t,W5u,W5v,W5w,W5x,W5y,W5z,W60,W61,W62,W63,W64,W65,W66,W67,W68,W69,W6a,W6b,W6c,W6d,W6e,W6f,W6g,W6h,W6i,W6j,W6k,W6l,W6m,W6n,W6o,W6p,W6q,W6r,W6s,W6t,W6u,W6v,W6w,W6x,W6y,W6z,W70,W71,W72,W73,W74,W75,W76,W77,W78,W79,W7a,W7b,W7c,W7d,W7e,W7f,W7g,W7h,W7i,W7j,W7k,W7l,W7m,W7n,W7o,W7p,W7q,W7r,W7s,W7t,W7u,W7v,W7w,W7x,W7y,W7z,Nat.reduceSub, hl, e1, e2]
      rw [G.half, if_neg e, W7z]
theorem s_law_halved [h : H__law_halved T] : ∀ {f : Nat} {r : List Nat} {k : Nat}, 1 ≤ r.length → r.length ≤ f + 1 → r.length ≤ 1000 → f < k → run T k i__law_halved [.tup (ns r)] = ret (gD (G.half f r))
  | f, r, k + 1, h1, h2, h3, hk => by
    rw [run_b h.q__law_halved rfl]
    unfold F__law_halved
    by_cases e : r.length = 1
    · obtain ⟨a, rfl⟩ := List.length_eq_one_iff.mp e
      simp (disch := first | (with_reducible rfl) | assumption | omega) only [W00,W01,W02,W03,W04,W05,W06,W07,W08,W09,W0a,W0b,W0c,W0d,W0e,W0f,W0g,W0h,W0i,W0j,W0k,W0l,W0m,W0n,W0o,W0p,W0q,W0r,W0s,W0t,W0u,W0v,W0w,W0x,W0y,W0z,W10,W11,W12,W13,W14,W15,W16,W17,W18,W19,W1a,W1b,W1c,W1d,W1e,W1f,W1g,W1h,W1i,W1j,W1k,W1l,W1m,W1n,W1o,W1p,W1q,W1r,W1s,W1t,W1u,W1v,W1w,W1x,W1y,W1z,W20,W21,W22,W23,W24,W25,W26,W27,W28,W29,W2a,W2b,W2c,W2d,W2e,W2f,W2g,W2h,W2i,W2j,W2k,W2l,W2m,W2n,W2o,W2p,W2q,W2r,W2s,W2t,W2u,W2v,W2w,W2x,W2y,W2z,W30,W31,W32,W33,W34,W35,W36,W37,W38,W39,W3a,W3b,W3c,W3d,W3e,W3f,W3g,W3h,W3i,W3j,W3k,W3l,W3m,W3n,W3o,W3p,W3q,W3r,W3s,W3t,W3u,W3v,W3w,W3x,W3y,W3z,W40,W41,W42,W43,W44,W45,W46,W47,W48,W49,W4a,W4b,W4c,W4d,W4e,W4f,W4g,W4h,W4i,W4j,W4k,W4l,W4m,W4n,W4o,W4p,W4q,W4r,W4s,W4t,W4u,W4v,W4w,W4x,W4y,W4z,W50,W51,W52,W53,W54,W55,W56,W57,W58,W59,W5a,W5b,W5c,W5d,W5e,W5f,W5g,W5h,W5i,W5j,W5k,W5l,W5m,W5n,W5o,W5p,W5q,W5r,W5s,W5t,W5u,W5v,W5w,W5x,W5y,W5z,W60,W61,W62,W63,W64,W65,W66,W67,W68,W69,W6a,W6b,W6c,W6d,W6e,W6f,W6g,W6h,W6i,W6j,W6k,W6l,W6m,W6n,W6o,W6p,W6q,W6r,W6s,W6t,W6u,W6v,W6w,W6x,W6y,W6z,W70,W71,W72,W73,W74,W75,W76,W77,W78,W79,W7a,W7b,W7c,W7d,W7e,W7f,W7g,W7h,W7i,W7j,W7k,W7l,W7m,W7n,W7o,W7p,W7q,W7r,W7s,W7t,W7u,W7v,W7w,W7x,W7y,W7z,Nat.reduceSub]
      cases f <;> rfl
    · have hl : decide (r.length = 1) = false := decide_eq_false e
      obtain ⟨f, rfl⟩ : ∃ j, f = j + 1 := ⟨f - 1, by omega⟩
      have hat : r.length - r.length / 2 = (r.length + 1) / 2 := by omega
      have e1 := s_law_halved (f := f) (r := r.take ((r.length + 1) / 2)) (k := k) (by simp; omega) (by simp; omega) (by simp; omega) (by omega)
      have e2 := s_law_halved (f := f) (r := r.drop ((r.length + 1) / 2)) (k := k) (by simp; omega) (by simp; omega) (by simp; omega) (by omega)
      simp (disch := first | (with_reducible rfl) | assumption | omega) only [W00,W01,W02,W03,W04,W05,W06,W07,W08,W09,W0a,W0b,W0c,W0d,W0e,W0f,W0g,W0h,W0i,W0j,W0k,W0l,W0m,W0n,W0o,W0p,W0q,W0r,W0s,W0t,W0u,W0v,W0w,W0x,W0y,W0z,W10,W11,W12,W13,W14,W15,W16,W17,W18,W19,W1a,W1b,W1c,W1d,W1e,W1f,W1g,W1h,W1i,W1j,W1k,W1l,W1m,W1n,W1o,W1p,W1q,W1r,W1s,W1t,W1u,W1v,W1w,W1x,W1y,W1z,W20,W21,W22,W23,W24,W25,W26,W27,W28,W29,W2a,W2b,W2c,W2d,W2e,W2f,W2g,W2h,W2i,W2j,W2k,W2l,W2m,W2n,W2o,W2p,W2q,W2r,W2s,W2t,W2u,W2v,W2w,W2x,W2y,W2z,W30,W31,W32,W33,W34,W35,W36,W37,W38,W39,W3a,W3b,W3c,W3d,W3e,W3f,W3g,W3h,W3i,W3j,W3k,W3l,W3m,W3n,W3o,W3p,W3q,W3r,W3s,W3t,W3u,W3v,W3w,W3x,W3y,W3z,W40,W41,W42,W43,W44,W45,W46,W47,W48,W49,W4a,W4b,W4c,W4d,W4e,W4f,W4g,W4h,W4i,W4j,W4k,W4l,W4m,W4n,W4o,W4p,W4q,W4r,W4s,W4t,W4u,W4v,W4w,W4x,W4y,W4z,W50,W51,W52,W53,W54,W55,W56,W57,W58,W59,W5a,W5b,W5c,W5d,W5e,W5f,W5g,W5h,W5i,W5j,W5k,W5l,W5m,W5n,W5o,W5p,W5q,W5r,W5s,W5t,W5u,W5v,W5w,W5x,W5y,W5z,W60,W61,W62,W63,W64,W65,W66,W67,W68,W69,W6a,W6b,W6c,W6d,W6e,W6f,W6g,W6h,W6i,W6j,W6k,W6l,W6m,W6n,W6o,W6p,W6q,W6r,W6s,W6t,W6u,W6v,W6w,W6x,W6y,W6z,W70,W71,W72,W73,W74,W75,W76,W77,W78,W79,W7a,W7b,W7c,W7d,W7e,W7f,W7g,W7h,W7i,W7j,W7k,W7l,W7m,W7n,W7o,W7p,W7q,W7r,W7s,W7t,W7u,W7v,W7w,W7x,W7y,W7z,Nat.reduceSub, hl, hat, e1, e2]
      rw [G.half, if_neg e, W7z]
/-- a row that the defs let -/
structure Ro (n : Nat) (r : List Nat) : Prop where
  h1 : 1 ≤ r.length
  h2 : r.length ≤ 10
  b : Below n r
theorem W80 [h : H_fits_row T] {k n : Nat} (r : List Nat) (hn : 1 ≤ n) : run T (k + 2) i_fits_row [.tup (ns r), .int (n : Int)] = ret (.bl (decide (1 ≤ r.length) && decide (r.length ≤ 10) && r.all fun v => decide (v < n))) := by
  have e : ∀ v, decide (v ≤ n - 1) = decide (v < n) := fun v => by congr 1; exact propext (by omega)
  rw [run_b h.q_fits_row rfl]
  unfold F_fits_row
  simp (disch := first | (with_reducible rfl) | assumption | omega) only [W00,W01,W02,W03,W04,W05,W06,W07,W08,W09,W0a,W0b,W0c,W0d,W0e,W0f,W0g,W0h,W0i,W0j,W0k,W0l,W0m,W0n,W0o,W0p,W0q,W0r,W0s,W0t,W0u,W0v,W0w,W0x,W0y,W0z,W10,W11,W12,W13,W14,W15,W16,W17,W18,W19,W1a,W1b,W1c,W1d,W1e,W1f,W1g,W1h,W1i,W1j,W1k,W1l,W1m,W1n,W1o,W1p,W1q,W1r,W1s,W1t,W1u,W1v,W1w,W1x,W1y,W1z,W20,W21,W22,W23,W24,W25,W26,W27,W28,W29,W2a,W2b,W2c,W2d,W2e,W2f,W2g,W2h,W2i,W2j,W2k,W2l,W2m,W2n,W2o,W2p,W2q,W2r,W2s,W2t,W2u,W2v,W2w,W2x,W2y,W2z,W30,W31,W32,W33,W34,W35,W36,W37,W38,W39,W3a,W3b,W3c,W3d,W3e,W3f,W3g,W3h,W3i,W3j,W3k,W3l,W3m,W3n,W3o,W3p,W3q,W3r,W3s,W3t,W3u,W3v,W3w,W3x,W3y,W3z,W40,W41,W42,W43,W44,W45,W46,W47,W48,W49,W4a,W4b,W4c,W4d,W4e,W4f,W4g,W4h,W4i,W4j,W4k,W4l,W4m,W4n,W4o,W4p,W4q,W4r,W4s,W4t,W4u,W4v,W4w,W4x,W4y,W4z,W50,W51,W52,W53,W54,W55,W56,W57,W58,W59,W5a,W5b,W5c,W5d,W5e,W5f,W5g,W5h,W5i,W5j,W5k,W5l,W5m,W5n,W5o,W5p,W5q,W5r,W5s,W5t,W5u,W5v,W5w,W5x,W5y,W5z,W60,W61,W62,W63,W64,W65,W66,W67,W68,W69,W6a,W6b,W6c,W6d,W6e,W6f,W6g,W6h,W6i,W6j,W6k,W6l,W6m,W6n,W6o,W6p,W6q,W6r,W6s,W6t,W6u,W6v,W6w,W6x,W6y,W6z,W70,W71,W72,W73,W74,W75,W76,W77,W78,W79,W7a,W7b,W7c,W7d,W7e,W7f,W7g,W7h,W7i,W7j,W7k,W7l,W7m,W7n,W7o,W7p,W7q,W7r,W7s,W7t,W7u,W7v,W7w,W7x,W7y,W7z,Nat.reduceSub, e]
  cases hc : (decide (1 ≤ r.length) && decide (r.length ≤ 10))
  · simp (disch := first | (with_reducible rfl) | assumption | omega) only [W00,W01,W02,W03,W04,W05,W06,W07,W08,W09,W0a,W0b,W0c,W0d,W0e,W0f,W0g,W0h,W0i,W0j,W0k,W0l,W0m,W0n,W0o,W0p,W0q,W0r,W0s,W0t,W0u,W0v,W0w,W0x,W0y,W0z,W10,W11,W12,W13,W14,W15,W16,W17,W18,W19,W1a,W1b,W1c,W1d,W1e,W1f,W1g,W1h,W1i,W1j,W1k,W1l,W1m,W1n,W1o,W1p,W1q,W1r,W1s,W1t,W1u,W1v,W1w,W1x,W1y,W1z,W20,W21,W22,W23,W24,W25,W26,W27,W28,W29,W2a,W2b,W2c,W2d,W2e,W2f,W2g,W2h,W2i,W2j,W2k,W2l,W2m,W2n,W2o,W2p,W2q,W2r,W2s,W2t,W2u,W2v,W2w,W2x,W2y,W2z,W30,W31,W32,W33,W34,W35,W36,W37,W38,W39,W3a,W3b,W3c,W3d,W3e,W3f,W3g,W3h,W3i,W3j,W3k,W3l,W3m,W3n,W3o,W3p,W3q,W3r,W3s,W3t,W3u,W3v,W3w,W3x,W3y,W3z,W40,W41,W42,W43,W44,W45,W46,W47,W48,W49,W4a,W4b,W4c,W4d,W4e,W4f,W4g,W4h,W4i,W4j,W4k,W4l,W4m,W4n,W4o,W4p,W4q,W4r,W4s,W4t,W4u,W4v,W4w,W4x,W4y,W4z,W50,W51,W52,W53,W54,W55,W56,W57,W58,W59,W5a,W5b,W5c,W5d,W5e,W5f,W5g,W5h,W5i,W5j,W5k,W5l,W5m,W5n,W5o,W5p,W5q,W5r,W5s,W5t,W5u,W5v,W5w,W5x,W5y,W5z,W60,W61,W62,W63,W64,W65,W66,W67,W68,W69,W6a,W6b,W6c,W6d,W6e,W6f,W6g,W6h,W6i,W6j,W6k,W6l,W6m,W6n,W6o,W6p,W6q,W6r,W6s,W6t,W6u,W6v,W6w,W6x,W6y,W6z,W70,W71,W72,W73,W74,W75,W76,W77,W78,W79,W7a,W7b,W7c,W7d,W7e,W7f,W7g,W7h,W7i,W7j,W7k,W7l,W7m,W7n,W7o,W7p,W7q,W7r,W7s,W7t,W7u,W7v,W7w,W7x,W7y,W7z,Nat.reduceSub]
  · have : r.length ≤ 10 := by simp at hc; exact hc.2
    simp (disch := first | (with_reducible rfl) | assumption | omega) only [W00,W01,W02,W03,W04,W05,W06,W07,W08,W09,W0a,W0b,W0c,W0d,W0e,W0f,W0g,W0h,W0i,W0j,W0k,W0l,W0m,W0n,W0o,W0p,W0q,W0r,W0s,W0t,W0u,W0v,W0w,W0x,W0y,W0z,W10,W11,W12,W13,W14,W15,W16,W17,W18,W19,W1a,W1b,W1c,W1d,W1e,W1f,W1g,W1h,W1i,W1j,W1k,W1l,W1m,W1n,W1o,W1p,W1q,W1r,W1s,W1t,W1u,W1v,W1w,W1x,W1y,W1z,W20,W21,W22,W23,W24,W25,W26,W27,W28,W29,W2a,W2b,W2c,W2d,W2e,W2f,W2g,W2h,W2i,W2j,W2k,W2l,W2m,W2n,W2o,W2p,W2q,W2r,W2s,W2t,W2u,W2v,W2w,W2x,W2y,W2z,W30,W31,W32,W33,W34,W35,W36,W37,W38,W39,W3a,W3b,W3c,W3d,W3e,W3f,W3g,W3h,W3i,W3j,W3k,W3l,W3m,W3n,W3o,W3p,W3q,W3r,W3s,W3t,W3u,W3v,W3w,W3x,W3y,W3z,W40,W41,W42,W43,W44,W45,W46,W47,W48,W49,W4a,W4b,W4c,W4d,W4e,W4f,W4g,W4h,W4i,W4j,W4k,W4l,W4m,W4n,W4o,W4p,W4q,W4r,W4s,W4t,W4u,W4v,W4w,W4x,W4y,W4z,W50,W51,W52,W53,W54,W55,W56,W57,W58,W59,W5a,W5b,W5c,W5d,W5e,W5f,W5g,W5h,W5i,W5j,W5k,W5l,W5m,W5n,W5o,W5p,W5q,W5r,W5s,W5t,W5u,W5v,W5w,W5x,W5y,W5z,W60,W61,W62,W63,W64,W65,W66,W67,W68,W69,W6a,W6b,W6c,W6d,W6e,W6f,W6g,W6h,W6i,W6j,W6k,W6l,W6m,W6n,W6o,W6p,W6q,W6r,W6s,W6t,W6u,W6v,W6w,W6x,W6y,W6z,W70,W71,W72,W73,W74,W75,W76,W77,W78,W79,W7a,W7b,W7c,W7d,W7e,W7f,W7g,W7h,W7i,W7j,W7k,W7l,W7m,W7n,W7o,W7p,W7q,W7r,W7s,W7t,W7u,W7v,W7w,W7x,W7y,W7z,Nat.reduceSub]
theorem Ro.all {n : Nat} {r : List Nat} (h : Ro n r) : (decide (1 ≤ r.length) && decide (r.length ≤ 10) && r.all fun v => decide (v < n)) = true := by
  rw [decide_eq_true h.h1, decide_eq_true h.h2, Bool.true_and, Bool.true_and]
  exact List.all_eq_true.mpr fun v hv => decide_eq_true (h.b v hv)
theorem s_need_row [h : H_need_row T] {n k : Nat} {g : Nat → Nat → Nat} {r : List Nat} (t : Tb n g) (hr : Ro n r) : run T (k + 3) i_need_row [tabD n g, .tup (ns r)] = ret .non := by
  have h1 := t.h1
  rw [run_b h.q_need_row rfl]
  unfold F_need_row
  simp (disch := first | (with_reducible rfl) | assumption | omega) only [W00,W01,W02,W03,W04,W05,W06,W07,W08,W09,W0a,W0b,W0c,W0d,W0e,W0f,W0g,W0h,W0i,W0j,W0k,W0l,W0m,W0n,W0o,W0p,W0q,W0r,W0s,W0t,W0u,W0v,W0w,W0x,W0y,W0z,W10,W11,W12,W13,W14,W15,W16,W17,W18,W19,W1a,W1b,W1c,W1d,W1e,W1f,W1g,W1h,W1i,W1j,W1k,W1l,W1m,W1n,W1o,W1p,W1q,W1r,W1s,W1t,W1u,W1v,W1w,W1x,W1y,W1z,W20,W21,W22,W23,W24,W25,W26,W27,W28,W29,W2a,W2b,W2c,W2d,W2e,W2f,W2g,W2h,W2i,W2j,W2k,W2l,W2m,W2n,W2o,W2p,W2q,W2r,W2s,W2t,W2u,W2v,W2w,W2x,W2y,W2z,W30,W31,W32,W33,W34,W35,W36,W37,W38,W39,W3a,W3b,W3c,W3d,W3e,W3f,W3g,W3h,W3i,W3j,W3k,W3l,W3m,W3n,W3o,W3p,W3q,W3r,W3s,W3t,W3u,W3v,W3w,W3x,W3y,W3z,W40,W41,W42,W43,W44,W45,W46,W47,W48,W49,W4a,W4b,W4c,W4d,W4e,W4f,W4g,W4h,W4i,W4j,W4k,W4l,W4m,W4n,W4o,W4p,W4q,W4r,W4s,W4t,W4u,W4v,W4w,W4x,W4y,W4z,W50,W51,W52,W53,W54,W55,W56,W57,W58,W59,W5a,W5b,W5c,W5d,W5e,W5f,W5g,W5h,W5i,W5j,W5k,W5l,W5m,W5n,W5o,W5p,W5q,W5r,W5s,W5t,W5u,W5v,W5w,W5x,W5y,W5z,W60,W61,W62,W63,W64,W65,W66,W67,W68,W69,W6a,W6b,W6c,W6d,W6e,W6f,W6g,W6h,W6i,W6j,W6k,W6l,W6m,W6n,W6o,W6p,W6q,W6r,W6s,W6t,W6u,W6v,W6w,W6x,W6y,W6z,W70,W71,W72,W73,W74,W75,W76,W77,W78,W79,W7a,W7b,W7c,W7d,W7e,W7f,W7g,W7h,W7i,W7j,W7k,W7l,W7m,W7n,W7o,W7p,W7q,W7r,W7s,W7t,W7u,W7v,W7w,W7x,W7y,W7z,W80,Nat.reduceSub, hr.all]
theorem G.lft_gr {n a : Nat} {r : List Nat} (hr : Ro n (a :: r)) : Gr n (G.lft (.leaf a) r) := by
  have e : (G.lft (.leaf a) r).row = a :: r := by rw [G.lft_row]; rfl
  exact ⟨G.under_row.mpr (by rw [e]; exact hr.b), by rw [← G.size_row, e]; exact hr.h2⟩
theorem s_from_left [h : H_from_left T] {n k a : Nat} {g : Nat → Nat → Nat} {r : List Nat} (t : Tb n g) (hr : Ro n (a :: r)) (hk : 14 < k) : run T k i_from_left [tabD n g, .tup (ns (a :: r))] = ret (.int (r.foldl g a : Nat)) := by
  obtain ⟨k, rfl⟩ : ∃ j, k = j + 4 := ⟨k - 4, by omega⟩
  have gr := G.lft_gr hr
  have hd := gr.d
  rw [run_b h.q_from_left rfl]
  unfold F_from_left
  simp (disch := first | (with_reducible rfl) | assumption | omega) only [W00,W01,W02,W03,W04,W05,W06,W07,W08,W09,W0a,W0b,W0c,W0d,W0e,W0f,W0g,W0h,W0i,W0j,W0k,W0l,W0m,W0n,W0o,W0p,W0q,W0r,W0s,W0t,W0u,W0v,W0w,W0x,W0y,W0z,W10,W11,W12,W13,W14,W15,W16,W17,W18,W19,W1a,W1b,W1c,W1d,W1e,W1f,W1g,W1h,W1i,W1j,W1k,W1l,W1m,W1n,W1o,W1p,W1q,W1r,W1s,W1t,W1u,W1v,W1w,W1x,W1y,W1z,W20,W21,W22,W23,W24,W25,W26,W27,W28,W29,W2a,W2b,W2c,W2d,W2e,W2f,W2g,W2h,W2i,W2j,W2k,W2l,W2m,W2n,W2o,W2p,W2q,W2r,W2s,W2t,W2u,W2v,W2w,W2x,W2y,W2z,W30,W31,W32,W33,W34,W35,W36,W37,W38,W39,W3a,W3b,W3c,W3d,W3e,W3f,W3g,W3h,W3i,W3j,W3k,W3l,W3m,W3n,W3o,W3p,W3q,W3r,W3s,W3t,W3u,W3v,W3w,W3x,W3y,W3z,W40,W41,W42,W43,W44,W45,W46,W47,W48,W49,W4a,W4b,W4c,W4d,W4e,W4f,W4g,W4h,W4i,W4j,W4k,W4l,W4m,W4n,W4o,W4p,W4q,W4r,W4s,W4t,W4u,W4v,W4w,W4x,W4y,W4z,W50,W51,W52,W53,W54,W55,W56,W57,W58,W59,W5a,W5b,W5c,W5d,W5e,W5f,W5g,W5h,W5i,W5j,W5k,W5l,W5m,W5n,W5o,W5p,W5q,W5r,W5s,W5t,W5u,W5v,W5w,W5x,W5y,W5z,W60,W61,W62,W63,W64,W65,W66,W67,W68,W69,W6a,W6b,W6c,W6d,W6e,W6f,W6g,W6h,W6i,W6j,W6k,W6l,W6m,W6n,W6o,W6p,W6q,W6r,W6s,W6t,W6u,W6v,W6w,W6x,W6y,W6z,W70,W71,W72,W73,W74,W75,W76,W77,W78,W79,W7a,W7b,W7c,W7d,W7e,W7f,W7g,W7h,W7i,W7j,W7k,W7l,W7m,W7n,W7o,W7p,W7q,W7r,W7s,W7t,W7u,W7v,W7w,W7x,W7y,W7z,W80,Nat.reduceSub, s_need_table t, s_need_row t hr, s_from_left_in, s_result_in (T := T) (k := k + 3) t.v gr.b (by omega), G.lft_keep, G.keep]
theorem G.rgt_gr {n a : Nat} {r : List Nat} (hr : Ro n (r ++ [a])) : Gr n (G.rgt (.leaf a) r.reverse) := by
  have e : (G.rgt (.leaf a) r.reverse).row = r ++ [a] := by rw [G.rgt_row, List.reverse_reverse]; rfl
  exact ⟨G.under_row.mpr (by rw [e]; exact hr.b), by rw [← G.size_row, e]; exact hr.h2⟩
theorem s_from_right [h : H_from_right T] {n k a : Nat} {g : Nat → Nat → Nat} {r : List Nat} (t : Tb n g) (hr : Ro n (r ++ [a])) (hk : 14 < k) : run T k i_from_right [tabD n g, .tup (ns (r ++ [a]))] = ret (.int (r.reverse.foldl (fun x y => g y x) a : Nat)) := by
  obtain ⟨k, rfl⟩ : ∃ j, k = j + 4 := ⟨k - 4, by omega⟩
  have gr := G.rgt_gr hr
  have hd := gr.d
  rw [run_b h.q_from_right rfl]
  unfold F_from_right
  simp (disch := first | (with_reducible rfl) | assumption | omega) only [W00,W01,W02,W03,W04,W05,W06,W07,W08,W09,W0a,W0b,W0c,W0d,W0e,W0f,W0g,W0h,W0i,W0j,W0k,W0l,W0m,W0n,W0o,W0p,W0q,W0r,W0s,W0t,W0u,W0v,W0w,W0x,W0y,W0z,W10,W11,W12,W13,W14,W15,W16,W17,W18,W19,W1a,W1b,W1c,W1d,W1e,W1f,W1g,W1h,W1i,W1j,W1k,W1l,W1m,W1n,W1o,W1p,W1q,W1r,W1s,W1t,W1u,W1v,W1w,W1x,W1y,W1z,W20,W21,W22,W23,W24,W25,W26,W27,W28,W29,W2a,W2b,W2c,W2d,W2e,W2f,W2g,W2h,W2i,W2j,W2k,W2l,W2m,W2n,W2o,W2p,W2q,W2r,W2s,W2t,W2u,W2v,W2w,W2x,W2y,W2z,W30,W31,W32,W33,W34,W35,W36,W37,W38,W39,W3a,W3b,W3c,W3d,W3e,W3f,W3g,W3h,W3i,W3j,W3k,W3l,W3m,W3n,W3o,W3p,W3q,W3r,W3s,W3t,W3u,W3v,W3w,W3x,W3y,W3z,W40,W41,W42,W43,W44,W45,W46,W47,W48,W49,W4a,W4b,W4c,W4d,W4e,W4f,W4g,W4h,W4i,W4j,W4k,W4l,W4m,W4n,W4o,W4p,W4q,W4r,W4s,W4t,W4u,W4v,W4w,W4x,W4y,W4z,W50,W51,W52,W53,W54,W55,W56,W57,W58,W59,W5a,W5b,W5c,W5d,W5e,W5f,W5g,W5h,W5i,W5j,W5k,W5l,W5m,W5n,W5o,W5p,W5q,W5r,W5s,W5t,W5u,W5v,W5w,W5x,W5y,W5z,W60,W61,W62,W63,W64,W65,W66,W67,W68,W69,W6a,W6b,W6c,W6d,W6e,W6f,W6g,W6h,W6i,W6j,W6k,W6l,W6m,W6n,W6o,W6p,W6q,W6r,W6s,W6t,W6u,W6v,W6w,W6x,W6y,W6z,W70,W71,W72,W73,W74,W75,W76,W77,W78,W79,W7a,W7b,W7c,W7d,W7e,W7f,W7g,W7h,W7i,W7j,W7k,W7l,W7m,W7n,W7o,W7p,W7q,W7r,W7s,W7t,W7u,W7v,W7w,W7x,W7y,W7z,W80,Nat.reduceSub, s_need_table t, s_need_row t hr, s_from_right_in, s_result_in (T := T) (k := k + 3) t.v gr.b (by omega), G.rgt_keep, G.keep]
theorem G.half_gr {n : Nat} {r : List Nat} (hr : Ro n r) : Gr n (G.half 10 r) := by
  have e : (G.half 10 r).row = r := G.half_row hr.h1 (by have := hr.h2; omega)
  exact ⟨G.under_row.mpr (by rw [e]; exact hr.b), by rw [← G.size_row, e]; exact hr.h2⟩
theorem s_knocked_out [h : H_knocked_out T] {n k : Nat} {g : Nat → Nat → Nat} {r : List Nat} (t : Tb n g) (hr : Ro n r) (hk : 14 < k) : run T k i_knocked_out [tabD n g, .tup (ns r)] = ret (.int ((G.half 10 r).keep g : Nat)) := by
  obtain ⟨k, rfl⟩ : ∃ j, k = j + 4 := ⟨k - 4, by omega⟩
  have gr := G.half_gr hr
  have hd := gr.d
  have h1 := hr.h1
  have h2 := hr.h2
  rw [run_b h.q_knocked_out rfl]
  unfold F_knocked_out
  simp (disch := first | (with_reducible rfl) | assumption | omega) only [W00,W01,W02,W03,W04,W05,W06,W07,W08,W09,W0a,W0b,W0c,W0d,W0e,W0f,W0g,W0h,W0i,W0j,W0k,W0l,W0m,W0n,W0o,W0p,W0q,W0r,W0s,W0t,W0u,W0v,W0w,W0x,W0y,W0z,W10,W11,W12,W13,W14,W15,W16,W17,W18,W19,W1a,W1b,W1c,W1d,W1e,W1f,W1g,W1h,W1i,W1j,W1k,W1l,W1m,W1n,W1o,W1p,W1q,W1r,W1s,W1t,W1u,W1v,W1w,W1x,W1y,W1z,W20,W21,W22,W23,W24,W25,W26,W27,W28,W29,W2a,W2b,W2c,W2d,W2e,W2f,W2g,W2h,W2i,W2j,W2k,W2l,W2m,W2n,W2o,W2p,W2q,W2r,W2s,W2t,W2u,W2v,W2w,W2x,W2y,W2z,W30,W31,W32,W33,W34,W35,W36,W37,W38,W39,W3a,W3b,W3c,W3d,W3e,W3f,W3g,W3h,W3i,W3j,W3k,W3l,W3m,W3n,W3o,W3p,W3q,W3r,W3s,W3t,W3u,W3v,W3w,W3x,W3y,W3z,W40,W41,W42,W43,W44,W45,W46,W47,W48,W49,W4a,W4b,W4c,W4d,W4e,W4f,W4g,W4h,W4i,W4j,W4k,W4l,W4m,W4n,W4o,W4p,W4q,W4r,W4s,W4t,W4u,W4v,W4w,W4x,W4y,W4z,W50,W51,W52,W53,W54,W55,W56,W57,W58,W59,W5a,W5b,W5c,W5d,W5e,W5f,W5g,W5h,W5i,W5j,W5k,W5l,W5m,W5n,W5o,W5p,W5q,W5r,W5s,W5t,W5u,W5v,W5w,W5x,W5y,W5z,W60,W61,W62,W63,W64,W65,W66,W67,W68,W69,W6a,W6b,W6c,W6d,W6e,W6f,W6g,W6h,W6i,W6j,W6k,W6l,W6m,W6n,W6o,W6p,W6q,W6r,W6s,W6t,W6u,W6v,W6w,W6x,W6y,W6z,W70,W71,W72,W73,W74,W75,W76,W77,W78,W79,W7a,W7b,W7c,W7d,W7e,W7f,W7g,W7h,W7i,W7j,W7k,W7l,W7m,W7n,W7o,W7p,W7q,W7r,W7s,W7t,W7u,W7v,W7w,W7x,W7y,W7z,W80,Nat.reduceSub, s_need_table t, s_need_row t hr, s_halved_in (T := T) (f := 10) (k := k + 3) h1 (by omega) (by omega) (by omega), s_result_in (T := T) (k := k + 3) t.v gr.b (by omega)]
theorem fold_lt {n : Nat} {g : Nat → Nat → Nat} (v : Valid n g) : ∀ {p : List Nat} {a : Nat}, a < n → (∀ x ∈ p, x < n) → p.foldl g a < n
  | [], a, h, _ => h
  | x :: p, a, h, hp => fold_lt (p := p) (a := g a x) v (v.lt h (hp x (by simp))) fun y hy => hp y (by simp [hy])
theorem fold_lt' {n : Nat} {g : Nat → Nat → Nat} (v : Valid n g) : ∀ {p : List Nat} {a : Nat}, a < n → (∀ x ∈ p, x < n) → p.foldl (fun x y => g y x) a < n
  | [], a, h, _ => h
  | x :: p, a, h, hp => fold_lt' (p := p) (a := g x a) v (v.lt (hp x (by simp)) h) fun y hy => hp y (by simp [hy])
/-! groupings judged -/
def fitsG (n : Nat) : Nat → G → Bool
  | _, .leaf m => decide (m ≤ n - 1)
  | d, .node a b => !decide (d = 1) && (fitsG n (d - 1) a && fitsG n (d - 1) b && decide (a.size + b.size ≤ 10))
theorem s_fitsG [h : H_fits_grouping T] {n : Nat} : ∀ {x : G} {k d : Nat}, 1 ≤ n → 1 ≤ d → x.deep + 2 < k → run T k i_fits_grouping [gD x, .int (n : Int), .int (d : Int)] = ret (.bl (fitsG n d x))
  | .leaf m, k + 1, d, hn, hd, hk => by
    obtain ⟨k, rfl⟩ : ∃ j, k = j + 1 := ⟨k - 1, by omega⟩
    rw [run_b h.q_fits_grouping rfl]
    unfold F_fits_grouping
    simp (disch := first | (with_reducible rfl) | assumption | omega) only [W00,W01,W02,W03,W04,W05,W06,W07,W08,W09,W0a,W0b,W0c,W0d,W0e,W0f,W0g,W0h,W0i,W0j,W0k,W0l,W0m,W0n,W0o,W0p,W0q,W0r,W0s,W0t,W0u,W0v,W0w,W0x,W0y,W0z,W10,W11,W12,W13,W14,W15,W16,W17,W18,W19,W1a,W1b,W1c,W1d,W1e,W1f,W1g,W1h,W1i,W1j,W1k,W1l,W1m,W1n,W1o,W1p,W1q,W1r,W1s,W1t,W1u,W1v,W1w,W1x,W1y,W1z,W20,W21,W22,W23,W24,W25,W26,W27,W28,W29,W2a,W2b,W2c,W2d,W2e,W2f,W2g,W2h,W2i,W2j,W2k,W2l,W2m,W2n,W2o,W2p,W2q,W2r,W2s,W2t,W2u,W2v,W2w,W2x,W2y,W2z,W30,W31,W32,W33,W34,W35,W36,W37,W38,W39,W3a,W3b,W3c,W3d,W3e,W3f,W3g,W3h,W3i,W3j,W3k,W3l,W3m,W3n,W3o,W3p,W3q,W3r,W3s,W3t,W3u,W3v,W3w,W3x,W3y,W3z,W40,W41,W42,W43,W44,W45,W46,W47,W48,W49,W4a,W4b,W4c,W4d,W4e,W4f,W4g,W4h,W4i,W4j,W4k,W4l,W4m,W4n,W4o,W4p,W4q,W4r,W4s,W4t,W4u,W4v,W4w,W4x,W4y,W4z,W50,W51,W52,W53,W54,W55,W56,W57,W58,W59,W5a,W5b,W5c,W5d,W5e,W5f,W5g,W5h,W5i,W5j,W5k,W5l,W5m,W5n,W5o,W5p,W5q,W5r,W5s,W5t,W5u,W5v,W5w,W5x,W5y,W5z,W60,W61,W62,W63,W64,W65,W66,W67,W68,W69,W6a,W6b,W6c,W6d,W6e,W6f,W6g,W6h,W6i,W6j,W6k,W6l,W6m,W6n,W6o,W6p,W6q,W6r,W6s,W6t,W6u,W6v,W6w,W6x,W6y,W6z,W70,W71,W72,W73,W74,W75,W76,W77,W78,W79,W7a,W7b,W7c,W7d,W7e,W7f,W7g,W7h,W7i,W7j,W7k,W7l,W7m,W7n,W7o,W7p,W7q,W7r,W7s,W7t,W7u,W7v,W7w,W7x,W7y,W7z,W80,Nat.reduceSub, fitsG]
    have e0 : run T (k + 1) i_is_tuple_of [.int (m : Int), .int ((2 : Nat) : Int), .int ((2 : Nat) : Int)] = ret (.bl false) := by
      have hi : H_is_tuple_of T := inferInstance
      rw [run_b hi.q_is_tuple_of rfl]
      unfold F_is_tuple_of
      simp (disch := first | (with_reducible rfl) | assumption | omega) only [W00,W01,W02,W03,W04,W05,W06,W07,W08,W09,W0a,W0b,W0c,W0d,W0e,W0f,W0g,W0h,W0i,W0j,W0k,W0l,W0m,W0n,W0o,W0p,W0q,W0r,W0s,W0t,W0u,W0v,W0w,W0x,W0y,W0z,W10,W11,W12,W13,W14,W15,W16,W17,W18,W19,W1a,W1b,W1c,W1d,W1e,W1f,W1g,W1h,W1i,W1j,W1k,W1l,W1m,W1n,W1o,W1p,W1q,W1r,W1s,W1t,W1u,W1v,W1w,W1x,W1y,W1z,W20,W21,W22,W23,W24,W25,W26,W27,W28,W29,W2a,W2b,W2c,W2d,W2e,W2f,W2g,W2h,W2i,W2j,W2k,W2l,W2m,W2n,W2o,W2p,W2q,W2r,W2s,W2t,W2u,W2v,W2w,W2x,W2y,W2z,W30,W31,W32,W33,W34,W35,W36,W37,W38,W39,W3a,W3b,W3c,W3d,W3e,W3f,W3g,W3h,W3i,W3j,W3k,W3l,W3m,W3n,W3o,W3p,W3q,W3r,W3s,W3t,W3u,W3v,W3w,W3x,W3y,W3z,W40,W41,W42,W43,W44,W45,W46,W47,W48,W49,W4a,W4b,W4c,W4d,W4e,W4f,W4g,W4h,W4i,W4j,W4k,W4l,W4m,W4n,W4o,W4p,W4q,W4r,W4s,W4t,W4u,W4v,W4w,W4x,W4y,W4z,W50,W51,W52,W53,W54,W55,W56,W57,W58,W59,W5a,W5b,W5c,W5d,W5e,W5f,W5g,W5h,W5i,W5j,W5k,W5l,W5m,W5n,W5o,W5p,W5q,W5r,W5s,W5t,W5u,W5v,W5w,W5x,W5y,W5z,W60,W61,W62,W63,W64,W65,W66,W67,W68,W69,W6a,W6b,W6c,W6d,W6e,W6f,W6g,W6h,W6i,W6j,W6k,W6l,W6m,W6n,W6o,W6p,W6q,W6r,W6s,W6t,W6u,W6v,W6w,W6x,W6y,W6z,W70,W71,W72,W73,W74,W75,W76,W77,W78,W79,W7a,W7b,W7c,W7d,W7e,W7f,W7g,W7h,W7i,W7j,W7k,W7l,W7m,W7n,W7o,W7p,W7q,W7r,W7s,W7t,W7u,W7v,W7w,W7x,W7y,W7z,W80,Nat.reduceSub]
    cases decide (m ≤ n - 1)
    · cases decide (d = 1)
      · simp (disch := first | (with_reducible rfl) | assumption | omega) only [W00,W01,W02,W03,W04,W05,W06,W07,W08,W09,W0a,W0b,W0c,W0d,W0e,W0f,W0g,W0h,W0i,W0j,W0k,W0l,W0m,W0n,W0o,W0p,W0q,W0r,W0s,W0t,W0u,W0v,W0w,W0x,W0y,W0z,W10,W11,W12,W13,W14,W15,W16,W17,W18,W19,W1a,W1b,W1c,W1d,W1e,W1f,W1g,W1h,W1i,W1j,W1k,W1l,W1m,W1n,W1o,W1p,W1q,W1r,W1s,W1t,W1u,W1v,W1w,W1x,W1y,W1z,W20,W21,W22,W23,W24,W25,W26,W27,W28,W29,W2a,W2b,W2c,W2d,W2e,W2f,W2g,W2h,W2i,W2j,W2k,W2l,W2m,W2n,W2o,W2p,W2q,W2r,W2s,W2t,W2u,W2v,W2w,W2x,W2y,W2z,W30,W31,W32,W33,W34,W35,W36,W37,W38,W39,W3a,W3b,W3c,W3d,W3e,W3f,W3g,W3h,W3i,W3j,W3k,W3l,W3m,W3n,W3o,W3p,W3q,W3r,W3s,W3t,W3u,W3v,W3w,W3x,W3y,W3z,W40,W41,W42,W43,W44,W45,W46,W47,W48,W49,W4a,W4b,W4c,W4d,W4e,W4f,W4g,W4h,W4i,W4j,W4k,W4l,W4m,W4n,W4o,W4p,W4q,W4r,W4s,W4t,W4u,W4v,W4w,W4x,W4y,W4z,W50,W51,W52,W53,W54,W55,W56,W57,W58,W59,W5a,W5b,W5c,W5d,W5e,W5f,W5g,W5h,W5i,W5j,W5k,W5l,W5m,W5n,W5o,W5p,W5q,W5r,W5s,W5t,W5u,W5v,W5w,W5x,W5y,W5z,W60,W61,W62,W63,W64,W65,W66,W67,W68,W69,W6a,W6b,W6c,W6d,W6e,W6f,W6g,W6h,W6i,W6j,W6k,W6l,W6m,W6n,W6o,W6p,W6q,W6r,W6s,W6t,W6u,W6v,W6w,W6x,W6y,W6z,W70,W71,W72,W73,W74,W75,W76,W77,W78,W79,W7a,W7b,W7c,W7d,W7e,W7f,W7g,W7h,W7i,W7j,W7k,W7l,W7m,W7n,W7o,W7p,W7q,W7r,W7s,W7t,W7u,W7v,W7w,W7x,W7y,W7z,W80,Nat.reduceSub, e0]
      · simp (disch := first | (with_reducible rfl) | assumption | omega) only [W00,W01,W02,W03,W04,W05,W06,W07,W08,W09,W0a,W0b,W0c,W0d,W0e,W0f,W0g,W0h,W0i,W0j,W0k,W0l,W0m,W0n,W0o,W0p,W0q,W0r,W0s,W0t,W0u,W0v,W0w,W0x,W0y,W0z,W10,W11,W12,W13,W14,W15,W16,W17,W18,W19,W1a,W1b,W1c,W1d,W1e,W1f,W1g,W1h,W1i,W1j,W1k,W1l,W1m,W1n,W1o,W1p,W1q,W1r,W1s,W1t,W1u,W1v,W1w,W1x,W1y,W1z,W20,W21,W22,W23,W24,W25,W26,W27,W28,W29,W2a,W2b,W2c,W2d,W2e,W2f,W2g,W2h,W2i,W2j,W2k,W2l,W2m,W2n,W2o,W2p,W2q,W2r,W2s,W2t,W2u,W2v,W2w,W2x,W2y,W2z,W30,W31,W32,W33,W34,W35,W36,W37,W38,W39,W3a,W3b,W3c,W3d,W3e,W3f,W3g,W3h,W3i,W3j,W3k,W3l,W3m,W3n,W3o,W3p,W3q,W3r,W3s,W3t,W3u,W3v,W3w,W3x,W3y,W3z,W40,W41,W42,W43,W44,W45,W46,W47,W48,W49,W4a,W4b,W4c,W4d,W4e,W4f,W4g,W4h,W4i,W4j,W4k,W4l,W4m,W4n,W4o,W4p,W4q,W4r,W4s,W4t,W4u,W4v,W4w,W4x,W4y,W4z,W50,W51,W52,W53,W54,W55,W56,W57,W58,W59,W5a,W5b,W5c,W5d,W5e,W5f,W5g,W5h,W5i,W5j,W5k,W5l,W5m,W5n,W5o,W5p,W5q,W5r,W5s,W5t,W5u,W5v,W5w,W5x,W5y,W5z,W60,W61,W62,W63,W64,W65,W66,W67,W68,W69,W6a,W6b,W6c,W6d,W6e,W6f,W6g,W6h,W6i,W6j,W6k,W6l,W6m,W6n,W6o,W6p,W6q,W6r,W6s,W6t,W6u,W6v,W6w,W6x,W6y,W6z,W70,W71,W72,W73,W74,W75,W76,W77,W78,W79,W7a,W7b,W7c,W7d,W7e,W7f,W7g,W7h,W7i,W7j,W7k,W7l,W7m,W7n,W7o,W7p,W7q,W7r,W7s,W7t,W7u,W7v,W7w,W7x,W7y,W7z,W80,Nat.reduceSub, e0]
    · simp (disch := first | (with_reducible rfl) | assumption | omega) only [W00,W01,W02,W03,W04,W05,W06,W07,W08,W09,W0a,W0b,W0c,W0d,W0e,W0f,W0g,W0h,W0i,W0j,W0k,W0l,W0m,W0n,W0o,W0p,W0q,W0r,W0s,W0t,W0u,W0v,W0w,W0x,W0y,W0z,W10,W11,W12,W13,W14,W15,W16,W17,W18,W19,W1a,W1b,W1c,W1d,W1e,W1f,W1g,W1h,W1i,W1j,W1k,W1l,W1m,W1n,W1o,W1p,W1q,W1r,W1s,W1t,W1u,W1v,W1w,W1x,W1y,W1z,W20,W21,W22,W23,W24,W25,W26,W27,W28,W29,W2a,W2b,W2c,W2d,W2e,W2f,W2g,W2h,W2i,W2j,W2k,W2l,W2m,W2n,W2o,W2p,W2q,W2r,W2s,W2t,W2u,W2v,W2w,W2x,W2y,W2z,W30,W31,W32,W33,W34,W35,W36,W37,W38,W39,W3a,W3b,W3c,W3d,W3e,W3f,W3g,W3h,W3i,W3j,W3k,W3l,W3m,W3n,W3o,W3p,W3q,W3r,W3s,W3t,W3u,W3v,W3w,W3x,W3y,W3z,W40,W41,W42,W43,W44,W45,W46,W47,W48,W49,W4a,W4b,W4c,W4d,W4e,W4f,W4g,W4h,W4i,W4j,W4k,W4l,W4m,W4n,W4o,W4p,W4q,W4r,W4s,W4t,W4u,W4v,W4w,W4x,W4y,W4z,W50,W51,W52,W53,W54,W55,W56,W57,W58,W59,W5a,W5b,W5c,W5d,W5e,W5f,W5g,W5h,W5i,W5j,W5k,W5l,W5m,W5n,W5o,W5p,W5q,W5r,W5s,W5t,W5u,W5v,W5w,W5x,W5y,W5z,W60,W61,W62,W63,W64,W65,W66,W67,W68,W69,W6a,W6b,W6c,W6d,W6e,W6f,W6g,W6h,W6i,W6j,W6k,W6l,W6m,W6n,W6o,W6p,W6q,W6r,W6s,W6t,W6u,W6v,W6w,W6x,W6y,W6z,W70,W71,W72,W73,W74,W75,W76,W77,W78,W79,W7a,W7b,W7c,W7d,W7e,W7f,W7g,W7h,W7i,W7j,W7k,W7l,W7m,W7n,W7o,W7p,W7q,W7r,W7s,W7t,W7u,W7v,W7w,W7x,W7y,W7z,W80,Nat.reduceSub]
  | .node a b, k + 1, d, hn, hd, hk => by
    have hk : max a.deep b.deep + 1 + 2 < k + 1 := hk
    have e3 : run T k i_size_in [.tup [gD a, gD b]] = ret (.int ((a.size + b.size : Nat) : Int)) := s_size_in (x := .node a b) (k := k) (by show max a.deep b.deep + 1 < k; omega)
    by_cases h1 : d = 1
    · subst h1
      obtain ⟨k, rfl⟩ : ∃ j, k = j + 1 := ⟨k - 1, by omega⟩
      rw [run_b h.q_fits_grouping rfl]
      unfold F_fits_grouping
      simp (disch := first | (with_reducible rfl) | assumption | omega) only [W00,W01,W02,W03,W04,W05,W06,W07,W08,W09,W0a,W0b,W0c,W0d,W0e,W0f,W0g,W0h,W0i,W0j,W0k,W0l,W0m,W0n,W0o,W0p,W0q,W0r,W0s,W0t,W0u,W0v,W0w,W0x,W0y,W0z,W10,W11,W12,W13,W14,W15,W16,W17,W18,W19,W1a,W1b,W1c,W1d,W1e,W1f,W1g,W1h,W1i,W1j,W1k,W1l,W1m,W1n,W1o,W1p,W1q,W1r,W1s,W1t,W1u,W1v,W1w,W1x,W1y,W1z,W20,W21,W22,W23,W24,W25,W26,W27,W28,W29,W2a,W2b,W2c,W2d,W2e,W2f,W2g,W2h,W2i,W2j,W2k,W2l,W2m,W2n,W2o,W2p,W2q,W2r,W2s,W2t,W2u,W2v,W2w,W2x,W2y,W2z,W30,W31,W32,W33,W34,W35,W36,W37,W38,W39,W3a,W3b,W3c,W3d,W3e,W3f,W3g,W3h,W3i,W3j,W3k,W3l,W3m,W3n,W3o,W3p,W3q,W3r,W3s,W3t,W3u,W3v,W3w,W3x,W3y,W3z,W40,W41,W42,W43,W44,W45,W46,W47,W48,W49,W4a,W4b,W4c,W4d,W4e,W4f,W4g,W4h,W4i,W4j,W4k,W4l,W4m,W4n,W4o,W4p,W4q,W4r,W4s,W4t,W4u,W4v,W4w,W4x,W4y,W4z,W50,W51,W52,W53,W54,W55,W56,W57,W58,W59,W5a,W5b,W5c,W5d,W5e,W5f,W5g,W5h,W5i,W5j,W5k,W5l,W5m,W5n,W5o,W5p,W5q,W5r,W5s,W5t,W5u,W5v,W5w,W5x,W5y,W5z,W60,W61,W62,W63,W64,W65,W66,W67,W68,W69,W6a,W6b,W6c,W6d,W6e,W6f,W6g,W6h,W6i,W6j,W6k,W6l,W6m,W6n,W6o,W6p,W6q,W6r,W6s,W6t,W6u,W6v,W6w,W6x,W6y,W6z,W70,W71,W72,W73,W74,W75,W76,W77,W78,W79,W7a,W7b,W7c,W7d,W7e,W7f,W7g,W7h,W7i,W7j,W7k,W7l,W7m,W7n,W7o,W7p,W7q,W7r,W7s,W7t,W7u,W7v,W7w,W7x,W7y,W7z,W80,Nat.reduceSub, fitsWhole_tup, fitsG]
    · have e1 := s_fitsG (x := a) (k := k) (d := d - 1) hn (by omega) (by omega)
      have e2 := s_fitsG (x := b) (k := k) (d := d - 1) hn (by omega) (by omega)
      have hd1 : decide (d = 1) = false := decide_eq_false h1
      obtain ⟨k, rfl⟩ : ∃ j, k = j + 1 := ⟨k - 1, by omega⟩
      rw [run_b h.q_fits_grouping rfl]
      unfold F_fits_grouping
      simp (disch := first | (with_reducible rfl) | assumption | omega) only [W00,W01,W02,W03,W04,W05,W06,W07,W08,W09,W0a,W0b,W0c,W0d,W0e,W0f,W0g,W0h,W0i,W0j,W0k,W0l,W0m,W0n,W0o,W0p,W0q,W0r,W0s,W0t,W0u,W0v,W0w,W0x,W0y,W0z,W10,W11,W12,W13,W14,W15,W16,W17,W18,W19,W1a,W1b,W1c,W1d,W1e,W1f,W1g,W1h,W1i,W1j,W1k,W1l,W1m,W1n,W1o,W1p,W1q,W1r,W1s,W1t,W1u,W1v,W1w,W1x,W1y,W1z,W20,W21,W22,W23,W24,W25,W26,W27,W28,W29,W2a,W2b,W2c,W2d,W2e,W2f,W2g,W2h,W2i,W2j,W2k,W2l,W2m,W2n,W2o,W2p,W2q,W2r,W2s,W2t,W2u,W2v,W2w,W2x,W2y,W2z,W30,W31,W32,W33,W34,W35,W36,W37,W38,W39,W3a,W3b,W3c,W3d,W3e,W3f,W3g,W3h,W3i,W3j,W3k,W3l,W3m,W3n,W3o,W3p,W3q,W3r,W3s,W3t,W3u,W3v,W3w,W3x,W3y,W3z,W40,W41,W42,W43,W44,W45,W46,W47,W48,W49,W4a,W4b,W4c,W4d,W4e,W4f,W4g,W4h,W4i,W4j,W4k,W4l,W4m,W4n,W4o,W4p,W4q,W4r,W4s,W4t,W4u,W4v,W4w,W4x,W4y,W4z,W50,W51,W52,W53,W54,W55,W56,W57,W58,W59,W5a,W5b,W5c,W5d,W5e,W5f,W5g,W5h,W5i,W5j,W5k,W5l,W5m,W5n,W5o,W5p,W5q,W5r,W5s,W5t,W5u,W5v,W5w,W5x,W5y,W5z,W60,W61,W62,W63,W64,W65,W66,W67,W68,W69,W6a,W6b,W6c,W6d,W6e,W6f,W6g,W6h,W6i,W6j,W6k,W6l,W6m,W6n,W6o,W6p,W6q,W6r,W6s,W6t,W6u,W6v,W6w,W6x,W6y,W6z,W70,W71,W72,W73,W74,W75,W76,W77,W78,W79,W7a,W7b,W7c,W7d,W7e,W7f,W7g,W7h,W7i,W7j,W7k,W7l,W7m,W7n,W7o,W7p,W7q,W7r,W7s,W7t,W7u,W7v,W7w,W7x,W7y,W7z,W80,Nat.reduceSub, fitsWhole_tup, e1, e2, e3, hd1, fitsG]
theorem fitsG_ok {n : Nat} (hn : 1 ≤ n) : ∀ {x : G} {d : Nat}, x.under n → x.deep < d → x.size ≤ 10 → fitsG n d x = true
  | .leaf m, d, hb, _, _ => by
    have hb : m < n := hb
    exact decide_eq_true (by omega)
  | .node a b, d, hb, hd, hs => by
    have hd : max a.deep b.deep + 1 < d := hd
    have hs0 : a.size + b.size ≤ 10 := hs
    have pa := G.size_pos a
    have pb := G.size_pos b
    rw [fitsG, fitsG_ok hn hb.1 (by omega) (by omega), fitsG_ok hn hb.2 (by omega) (by omega), decide_eq_false (show ¬ d = 1 by omega), decide_eq_true hs0]; rfl
theorem s_depth_in [h : H_depth_in T] : ∀ {x : G} {k : Nat}, x.deep < k → run T k i_depth_in [gD x] = ret (.int (x.deep : Int))
  | .leaf m, k + 1, _ => by
    rw [run_b h.q_depth_in rfl]
    unfold F_depth_in
    simp (disch := first | (with_reducible rfl) | assumption | omega) only [W00,W01,W02,W03,W04,W05,W06,W07,W08,W09,W0a,W0b,W0c,W0d,W0e,W0f,W0g,W0h,W0i,W0j,W0k,W0l,W0m,W0n,W0o,W0p,W0q,W0r,W0s,W0t,W0u,W0v,W0w,W0x,W0y,W0z,W10,W11,W12,W13,W14,W15,W16,W17,W18,W19,W1a,W1b,W1c,W1d,W1e,W1f,W1g,W1h,W1i,W1j,W1k,W1l,W1m,W1n,W1o,W1p,W1q,W1r,W1s,W1t,W1u,W1v,W1w,W1x,W1y,W1z,W20,W21,W22,W23,W24,W25,W26,W27,W28,W29,W2a,W2b,W2c,W2d,W2e,W2f,W2g,W2h,W2i,W2j,W2k,W2l,W2m,W2n,W2o,W2p,W2q,W2r,W2s,W2t,W2u,W2v,W2w,W2x,W2y,W2z,W30,W31,W32,W33,W34,W35,W36,W37,W38,W39,W3a,W3b,W3c,W3d,W3e,W3f,W3g,W3h,W3i,W3j,W3k,W3l,W3m,W3n,W3o,W3p,W3q,W3r,W3s,W3t,W3u,W3v,W3w,W3x,W3y,W3z,W40,W41,W42,W43,W44,W45,W46,W47,W48,W49,W4a,W4b,W4c,W4d,W4e,W4f,W4g,W4h,W4i,W4j,W4k,W4l,W4m,W4n,W4o,W4p,W4q,W4r,W4s,W4t,W4u,W4v,W4w,W4x,W4y,W4z,W50,W51,W52,W53,W54,W55,W56,W57,W58,W59,W5a,W5b,W5c,W5d,W5e,W5f,W5g,W5h,W5i,W5j,W5k,W5l,W5m,W5n,W5o,W5p,W5q,W5r,W5s,W5t,W5u,W5v,W5w,W5x,W5y,W5z,W60,W61,W62,W63,W64,W65,W66,W67,W68,W69,W6a,W6b,W6c,W6d,W6e,W6f,W6g,W6h,W6i,W6j,W6k,W6l,W6m,W6n,W6o,W6p,W6q,W6r,W6s,W6t,W6u,W6v,W6w,W6x,W6y,W6z,W70,W71,W72,W73,W74,W75,W76,W77,W78,W79,W7a,W7b,W7c,W7d,W7e,W7f,W7g,W7h,W7i,W7j,W7k,W7l,W7m,W7n,W7o,W7p,W7q,W7r,W7s,W7t,W7u,W7v,W7w,W7x,W7y,W7z,W80,Nat.reduceSub, G.deep]
  | .node a b, k + 1, hk => by
    have hk : max a.deep b.deep + 1 < k + 1 := hk
    have e1 := s_depth_in (x := a) (k := k) (by omega)
    have e2 := s_depth_in (x := b) (k := k) (by omega)
    have e3 : op1 .maxl (.lst [D.int (a.deep : Int), D.int (b.deep : Int)]) = some (.int ((max a.deep b.deep : Nat) : Int)) := by
      show some (D.int (max (a.deep : Int) b.deep)) = _
      congr 2; omega
    rw [run_b h.q_depth_in rfl]
    unfold F_depth_in
    simp (disch := first | (with_reducible rfl) | assumption | omega) only [W00,W01,W02,W03,W04,W05,W06,W07,W08,W09,W0a,W0b,W0c,W0d,W0e,W0f,W0g,W0h,W0i,W0j,W0k,W0l,W0m,W0n,W0o,W0p,W0q,W0r,W0s,W0t,W0u,W0v,W0w,W0x,W0y,W0z,W10,W11,W12,W13,W14,W15,W16,W17,W18,W19,W1a,W1b,W1c,W1d,W1e,W1f,W1g,W1h,W1i,W1j,W1k,W1l,W1m,W1n,W1o,W1p,W1q,W1r,W1s,W1t,W1u,W1v,W1w,W1x,W1y,W1z,W20,W21,W22,W23,W24,W25,W26,W27,W28,W29,W2a,W2b,W2c,W2d,W2e,W2f,W2g,W2h,W2i,W2j,W2k,W2l,W2m,W2n,W2o,W2p,W2q,W2r,W2s,W2t,W2u,W2v,W2w,W2x,W2y,W2z,W30,W31,W32,W33,W34,W35,W36,W37,W38,W39,W3a,W3b,W3c,W3d,W3e,W3f,W3g,W3h,W3i,W3j,W3k,W3l,W3m,W3n,W3o,W3p,W3q,W3r,W3s,W3t,W3u,W3v,W3w,W3x,W3y,W3z,W40,W41,W42,W43,W44,W45,W46,W47,W48,W49,W4a,W4b,W4c,W4d,W4e,W4f,W4g,W4h,W4i,W4j,W4k,W4l,W4m,W4n,W4o,W4p,W4q,W4r,W4s,W4t,W4u,W4v,W4w,W4x,W4y,W4z,W50,W51,W52,W53,W54,W55,W56,W57,W58,W59,W5a,W5b,W5c,W5d,W5e,W5f,W5g,W5h,W5i,W5j,W5k,W5l,W5m,W5n,W5o,W5p,W5q,W5r,W5s,W5t,W5u,W5v,W5w,W5x,W5y,W5z,W60,W61,W62,W63,W64,W65,W66,W67,W68,W69,W6a,W6b,W6c,W6d,W6e,W6f,W6g,W6h,W6i,W6j,W6k,W6l,W6m,W6n,W6o,W6p,W6q,W6r,W6s,W6t,W6u,W6v,W6w,W6x,W6y,W6z,W70,W71,W72,W73,W74,W75,W76,W77,W78,W79,W7a,W7b,W7c,W7d,W7e,W7f,W7g,W7h,W7i,W7j,W7k,W7l,W7m,W7n,W7o,W7p,W7q,W7r,W7s,W7t,W7u,W7v,W7w,W7x,W7y,W7z,W80,Nat.reduceSub, e1, e2, e3, G.deep]
    rw [Nat.add_comm]
theorem s_law_depth [h : H__law_depth T] : ∀ {x : G} {k : Nat}, x.deep < k → run T k i__law_depth [gD x] = ret (.int (x.deep : Int))
  | .leaf m, k + 1, _ => by
    rw [run_b h.q__law_depth rfl]
    unfold F__law_depth
    simp (disch := first | (with_reducible rfl) | assumption | omega) only [W00,W01,W02,W03,W04,W05,W06,W07,W08,W09,W0a,W0b,W0c,W0d,W0e,W0f,W0g,W0h,W0i,W0j,W0k,W0l,W0m,W0n,W0o,W0p,W0q,W0r,W0s,W0t,W0u,W0v,W0w,W0x,W0y,W0z,W10,W11,W12,W13,W14,W15,W16,W17,W18,W19,W1a,W1b,W1c,W1d,W1e,W1f,W1g,W1h,W1i,W1j,W1k,W1l,W1m,W1n,W1o,W1p,W1q,W1r,W1s,W1t,W1u,W1v,W1w,W1x,W1y,W1z,W20,W21,W22,W23,W24,W25,W26,W27,W28,W29,W2a,W2b,W2c,W2d,W2e,W2f,W2g,W2h,W2i,W2j,W2k,W2l,W2m,W2n,W2o,W2p,W2q,W2r,W2s,W2t,W2u,W2v,W2w,W2x,W2y,W2z,W30,W31,W32,W33,W34,W35,W36,W37,W38,W39,W3a,W3b,W3c,W3d,W3e,W3f,W3g,W3h,W3i,W3j,W3k,W3l,W3m,W3n,W3o,W3p,W3q,W3r,W3s,W3t,W3u,W3v,W3w,W3x,W3y,W3z,W40,W41,W42,W43,W44,W45,W46,W47,W48,W49,W4a,W4b,W4c,W4d,W4e,W4f,W4g,W4h,W4i,W4j,W4k,W4l,W4m,W4n,W4o,W4p,W4q,W4r,W4s,W4t,W4u,W4v,W4w,W4x,W4y,W4z,W50,W51,W52,W53,W54,W55,W56,W57,W58,W59,W5a,W5b,W5c,W5d,W5e,W5f,W5g,W5h,W5i,W5j,W5k,W5l,W5m,W5n,W5o,W5p,W5q,W5r,W5s,W5t,W5u,W5v,W5w,W5x,W5y,W5z,W60,W61,W62,W63,W64,W65,W66,W67,W68,W69,W6a,W6b,W6c,W6d,W6e,W6f,W6g,W6h,W6i,W6j,W6k,W6l,W6m,W6n,W6o,W6p,W6q,W6r,W6s,W6t,W6u,W6v,W6w,W6x,W6y,W6z,W70,W71,W72,W73,W74,W75,W76,W77,W78,W79,W7a,W7b,W7c,W7d,W7e,W7f,W7g,W7h,W7i,W7j,W7k,W7l,W7m,W7n,W7o,W7p,W7q,W7r,W7s,W7t,W7u,W7v,W7w,W7x,W7y,W7z,W80,Nat.reduceSub, G.deep]
  | .node a b, k + 1, hk => by
    have hk : max a.deep b.deep + 1 < k + 1 := hk
    have e1 := s_law_depth (x := a) (k := k) (by omega)
    have e2 := s_law_depth (x := b) (k := k) (by omega)
    have e3 : op1 .maxl (.lst [D.int (a.deep : Int), D.int (b.deep : Int)]) = some (.int ((max a.deep b.deep : Nat) : Int)) := by
      show some (D.int (max (a.deep : Int) b.deep)) = _
      congr 2; omega
    rw [run_b h.q__law_depth rfl]
    unfold F__law_depth
    simp (disch := first | (with_reducible rfl) | assumption | omega) only [W00,W01,W02,W03,W04,W05,W06,W07,W08,W09,W0a,W0b,W0c,W0d,W0e,W0f,W0g,W0h,W0i,W0j,W0k,W0l,W0m,W0n,W0o,W0p,W0q,W0r,W0s,W0t,W0u,W0v,W0w,W0x,W0y,W0z,W10,W11,W12,W13,W14,W15,W16,W17,W18,W19,W1a,W1b,W1c,W1d,W1e,W1f,W1g,W1h,W1i,W1j,W1k,W1l,W1m,W1n,W1o,W1p,W1q,W1r,W1s,W1t,W1u,W1v,W1w,W1x,W1y,W1z,W20,W21,W22,W23,W24,W25,W26,W27,W28,W29,W2a,W2b,W2c,W2d,W2e,W2f,W2g,W2h,W2i,W2j,W2k,W2l,W2m,W2n,W2o,W2p,W2q,W2r,W2s,W2t,W2u,W2v,W2w,W2x,W2y,W2z,W30,W31,W32,W33,W34,W35,W36,W37,W38,W39,W3a,W3b,W3c,W3d,W3e,W3f,W3g,W3h,W3i,W3j,W3k,W3l,W3m,W3n,W3o,W3p,W3q,W3r,W3s,W3t,W3u,W3v,W3w,W3x,W3y,W3z,W40,W41,W42,W43,W44,W45,W46,W47,W48,W49,W4a,W4b,W4c,W4d,W4e,W4f,W4g,W4h,W4i,W4j,W4k,W4l,W4m,W4n,W4o,W4p,W4q,W4r,W4s,W4t,W4u,W4v,W4w,W4x,W4y,W4z,W50,W51,W52,W53,W54,W55,W56,W57,W58,W59,W5a,W5b,W5c,W5d,W5e,W5f,W5g,W5h,W5i,W5j,W5k,W5l,W5m,W5n,W5o,W5p,W5q,W5r,W5s,W5t,W5u,W5v,W5w,W5x,W5y,W5z,W60,W61,W62,W63,W64,W65,W66,W67,W68,W69,W6a,W6b,W6c,W6d,W6e,W6f,W6g,W6h,W6i,W6j,W6k,W6l,W6m,W6n,W6o,W6p,W6q,W6r,W6s,W6t,W6u,W6v,W6w,W6x,W6y,W6z,W70,W71,W72,W73,W74,W75,W76,W77,W78,W79,W7a,W7b,W7c,W7d,W7e,W7f,W7g,W7h,W7i,W7j,W7k,W7l,W7m,W7n,W7o,W7p,W7q,W7r,W7s,W7t,W7u,W7v,W7w,W7x,W7y,W7z,W80,Nat.reduceSub, e1, e2, e3, G.deep]
    rw [Nat.add_comm]
theorem s_law_back [h : H__law_back T] : ∀ {x : G} {k : Nat}, x.deep < k → run T k i__law_back [gD x] = ret (gD x.mir)
  | .leaf m, k + 1, _ => by
    rw [run_b h.q__law_back rfl]
    unfold F__law_back
    simp (disch := first | (with_reducible rfl) | assumption | omega) only [W00,W01,W02,W03,W04,W05,W06,W07,W08,W09,W0a,W0b,W0c,W0d,W0e,W0f,W0g,W0h,W0i,W0j,W0k,W0l,W0m,W0n,W0o,W0p,W0q,W0r,W0s,W0t,W0u,W0v,W0w,W0x,W0y,W0z,W10,W11,W12,W13,W14,W15,W16,W17,W18,W19,W1a,W1b,W1c,W1d,W1e,W1f,W1g,W1h,W1i,W1j,W1k,W1l,W1m,W1n,W1o,W1p,W1q,W1r,W1s,W1t,W1u,W1v,W1w,W1x,W1y,W1z,W20,W21,W22,W23,W24,W25,W26,W27,W28,W29,W2a,W2b,W2c,W2d,W2e,W2f,W2g,W2h,W2i,W2j,W2k,W2l,W2m,W2n,W2o,W2p,W2q,W2r,W2s,W2t,W2u,W2v,W2w,W2x,W2y,W2z,W30,W31,W32,W33,W34,W35,W36,W37,W38,W39,W3a,W3b,W3c,W3d,W3e,W3f,W3g,W3h,W3i,W3j,W3k,W3l,W3m,W3n,W3o,W3p,W3q,W3r,W3s,W3t,W3u,W3v,W3w,W3x,W3y,W3z,W40,W41,W42,W43,W44,W45,W46,W47,W48,W49,W4a,W4b,W4c,W4d,W4e,W4f,W4g,W4h,W4i,W4j,W4k,W4l,W4m,W4n,W4o,W4p,W4q,W4r,W4s,W4t,W4u,W4v,W4w,W4x,W4y,W4z,W50,W51,W52,W53,W54,W55,W56,W57,W58,W59,W5a,W5b,W5c,W5d,W5e,W5f,W5g,W5h,W5i,W5j,W5k,W5l,W5m,W5n,W5o,W5p,W5q,W5r,W5s,W5t,W5u,W5v,W5w,W5x,W5y,W5z,W60,W61,W62,W63,W64,W65,W66,W67,W68,W69,W6a,W6b,W6c,W6d,W6e,W6f,W6g,W6h,W6i,W6j,W6k,W6l,W6m,W6n,W6o,W6p,W6q,W6r,W6s,W6t,W6u,W6v,W6w,W6x,W6y,W6z,W70,W71,W72,W73,W74,W75,W76,W77,W78,W79,W7a,W7b,W7c,W7d,W7e,W7f,W7g,W7h,W7i,W7j,W7k,W7l,W7m,W7n,W7o,W7p,W7q,W7r,W7s,W7t,W7u,W7v,W7w,W7x,W7y,W7z,W80,Nat.reduceSub, G.mir]
  | .node a b, k + 1, hk => by
    have hk : max a.deep b.deep + 1 < k + 1 := hk
    have e1 := s_law_back (x := a) (k := k) (by omega)
    have e2 := s_law_back (x := b) (k := k) (by omega)
    rw [run_b h.q__law_back rfl]
    unfold F__law_back
    simp (disch := first | (with_reducible rfl) | assumption | omega) only [W00,W01,W02,W03,W04,W05,W06,W07,W08,W09,W0a,W0b,W0c,W0d,W0e,W0f,W0g,W0h,W0i,W0j,W0k,W0l,W0m,W0n,W0o,W0p,W0q,W0r,W0s,W0t,W0u,W0v,W0w,W0x,W0y,W0z,W10,W11,W12,W13,W14,W15,W16,W17,W18,W19,W1a,W1b,W1c,W1d,W1e,W1f,W1g,W1h,W1i,W1j,W1k,W1l,W1m,W1n,W1o,W1p,W1q,W1r,W1s,W1t,W1u,W1v,W1w,W1x,W1y,W1z,W20,W21,W22,W23,W24,W25,W26,W27,W28,W29,W2a,W2b,W2c,W2d,W2e,W2f,W2g,W2h,W2i,W2j,W2k,W2l,W2m,W2n,W2o,W2p,W2q,W2r,W2s,W2t,W2u,W2v,W2w,W2x,W2y,W2z,W30,W31,W32,W33,W34,W35,W36,W37,W38,W39,W3a,W3b,W3c,W3d,W3e,W3f,W3g,W3h,W3i,W3j,W3k,W3l,W3m,W3n,W3o,W3p,W3q,W3r,W3s,W3t,W3u,W3v,W3w,W3x,W3y,W3z,W40,W41,W42,W43,W44,W45,W46,W47,W48,W49,W4a,W4b,W4c,W4d,W4e,W4f,W4g,W4h,W4i,W4j,W4k,W4l,W4m,W4n,W4o,W4p,W4q,W4r,W4s,W4t,W4u,W4v,W4w,W4x,W4y,W4z,W50,W51,W52,W53,W54,W55,W56,W57,W58,W59,W5a,W5b,W5c,W5d,W5e,W5f,W5g,W5h,W5i,W5j,W5k,W5l,W5m,W5n,W5o,W5p,W5q,W5r,W5s,W5t,W5u,W5v,W5w,W5x,W5y,W5z,W60,W61,W62,W63,W64,W65,W66,W67,W68,W69,W6a,W6b,W6c,W6d,W6e,W6f,W6g,W6h,W6i,W6j,W6k,W6l,W6m,W6n,W6o,W6p,W6q,W6r,W6s,W6t,W6u,W6v,W6w,W6x,W6y,W6z,W70,W71,W72,W73,W74,W75,W76,W77,W78,W79,W7a,W7b,W7c,W7d,W7e,W7f,W7g,W7h,W7i,W7j,W7k,W7l,W7m,W7n,W7o,W7p,W7q,W7r,W7s,W7t,W7u,W7v,W7w,W7x,W7y,W7z,W80,Nat.reduceSub, e1, e2, G.mir]
theorem s_law_row_of [h : H__law_row_of T] : ∀ {x : G} {k : Nat}, x.size ≤ 1000 → x.deep < k → run T k i__law_row_of [gD x] = ret (.tup (ns x.row))
  | .leaf m, k + 1, _, _ => by
    rw [run_b h.q__law_row_of rfl]
    unfold F__law_row_of
    simp (disch := first | (with_reducible rfl) | assumption | omega) only [W00,W01,W02,W03,W04,W05,W06,W07,W08,W09,W0a,W0b,W0c,W0d,W0e,W0f,W0g,W0h,W0i,W0j,W0k,W0l,W0m,W0n,W0o,W0p,W0q,W0r,W0s,W0t,W0u,W0v,W0w,W0x,W0y,W0z,W10,W11,W12,W13,W14,W15,W16,W17,W18,W19,W1a,W1b,W1c,W1d,W1e,W1f,W1g,W1h,W1i,W1j,W1k,W1l,W1m,W1n,W1o,W1p,W1q,W1r,W1s,W1t,W1u,W1v,W1w,W1x,W1y,W1z,W20,W21,W22,W23,W24,W25,W26,W27,W28,W29,W2a,W2b,W2c,W2d,W2e,W2f,W2g,W2h,W2i,W2j,W2k,W2l,W2m,W2n,W2o,W2p,W2q,W2r,W2s,W2t,W2u,W2v,W2w,W2x,W2y,W2z,W30,W31,W32,W33,W34,W35,W36,W37,W38,W39,W3a,W3b,W3c,W3d,W3e,W3f,W3g,W3h,W3i,W3j,W3k,W3l,W3m,W3n,W3o,W3p,W3q,W3r,W3s,W3t,W3u,W3v,W3w,W3x,W3y,W3z,W40,W41,W42,W43,W44,W45,W46,W47,W48,W49,W4a,W4b,W4c,W4d,W4e,W4f,W4g,W4h,W4i,W4j,W4k,W4l,W4m,W4n,W4o,W4p,W4q,W4r,W4s,W4t,W4u,W4v,W4w,W4x,W4y,W4z,W50,W51,W52,W53,W54,W55,W56,W57,W58,W59,W5a,W5b,W5c,W5d,W5e,W5f,W5g,W5h,W5i,W5j,W5k,W5l,W5m,W5n,W5o,W5p,W5q,W5r,W5s,W5t,W5u,W5v,W5w,W5x,W5y,W5z,W60,W61,W62,W63,W64,W65,W66,W67,W68,W69,W6a,W6b,W6c,W6d,W6e,W6f,W6g,W6h,W6i,W6j,W6k,W6l,W6m,W6n,W6o,W6p,W6q,W6r,W6s,W6t,W6u,W6v,W6w,W6x,W6y,W6z,W70,W71,W72,W73,W74,W75,W76,W77,W78,W79,W7a,W7b,W7c,W7d,W7e,W7f,W7g,W7h,W7i,W7j,W7k,W7l,W7m,W7n,W7o,W7p,W7q,W7r,W7s,W7t,W7u,W7v,W7w,W7x,W7y,W7z,W80,Nat.reduceSub, G.row]
    rfl
  | .node a b, k + 1, hs, hk => by
    have hk : max a.deep b.deep + 1 < k + 1 := hk
    have hs : a.size + b.size ≤ 1000 := hs
    have e1 := s_law_row_of (x := a) (k := k) (by omega) (by omega)
    have e2 := s_law_row_of (x := b) (k := k) (by omega) (by omega)
    rw [run_b h.q__law_row_of rfl]
    unfold F__law_row_of
    simp (disch := first | (with_reducible rfl) | assumption | omega) only [W00,W01,W02,W03,W04,W05,W06,W07,W08,W09,W0a,W0b,W0c,W0d,W0e,W0f,W0g,W0h,W0i,W0j,W0k,W0l,W0m,W0n,W0o,W0p,W0q,W0r,W0s,W0t,W0u,W0v,W0w,W0x,W0y,W0z,W10,W11,W12,W13,W14,W15,W16,W17,W18,W19,W1a,W1b,W1c,W1d,W1e,W1f,W1g,W1h,W1i,W1j,W1k,W1l,W1m,W1n,W1o,W1p,W1q,W1r,W1s,W1t,W1u,W1v,W1w,W1x,W1y,W1z,W20,W21,W22,W23,W24,W25,W26,W27,W28,W29,W2a,W2b,W2c,W2d,W2e,W2f,W2g,W2h,W2i,W2j,W2k,W2l,W2m,W2n,W2o,W2p,W2q,W2r,W2s,W2t,W2u,W2v,W2w,W2x,W2y,W2z,W30,W31,W32,W33,W34,W35,W36,W37,W38,W39,W3a,W3b,W3c,W3d,W3e,W3f,W3g,W3h,W3i,W3j,W3k,W3l,W3m,W3n,W3o,W3p,W3q,W3r,W3s,W3t,W3u,W3v,W3w,W3x,W3y,W3z,W40,W41,W42,W43,W44,W45,W46,W47,W48,W49,W4a,W4b,W4c,W4d,W4e,W4f,W4g,W4h,W4i,W4j,W4k,W4l,W4m,W4n,W4o,W4p,W4q,W4r,W4s,W4t,W4u,W4v,W4w,W4x,W4y,W4z,W50,W51,W52,W53,W54,W55,W56,W57,W58,W59,W5a,W5b,W5c,W5d,W5e,W5f,W5g,W5h,W5i,W5j,W5k,W5l,W5m,W5n,W5o,W5p,W5q,W5r,W5s,W5t,W5u,W5v,W5w,W5x,W5y,W5z,W60,W61,W62,W63,W64,W65,W66,W67,W68,W69,W6a,W6b,W6c,W6d,W6e,W6f,W6g,W6h,W6i,W6j,W6k,W6l,W6m,W6n,W6o,W6p,W6q,W6r,W6s,W6t,W6u,W6v,W6w,W6x,W6y,W6z,W70,W71,W72,W73,W74,W75,W76,W77,W78,W79,W7a,W7b,W7c,W7d,W7e,W7f,W7g,W7h,W7i,W7j,W7k,W7l,W7m,W7n,W7o,W7p,W7q,W7r,W7s,W7t,W7u,W7v,W7w,W7x,W7y,W7z,W80,Nat.reduceSub, e1, e2, G.row, G.size_row]
theorem s_depth_of [h : H_depth_of T] {k : Nat} {x : G} (hx : Gr 5 x) (hk : 14 < k) : run T k i_depth_of [gD x] = ret (.int (x.deep : Int)) := by
  obtain ⟨k, rfl⟩ : ∃ j, k = j + 1 := ⟨k - 1, by omega⟩
  have hd := hx.d
  rw [run_b h.q_depth_of rfl]
  unfold F_depth_of
  simp (disch := first | (with_reducible rfl) | assumption | omega) only [W00,W01,W02,W03,W04,W05,W06,W07,W08,W09,W0a,W0b,W0c,W0d,W0e,W0f,W0g,W0h,W0i,W0j,W0k,W0l,W0m,W0n,W0o,W0p,W0q,W0r,W0s,W0t,W0u,W0v,W0w,W0x,W0y,W0z,W10,W11,W12,W13,W14,W15,W16,W17,W18,W19,W1a,W1b,W1c,W1d,W1e,W1f,W1g,W1h,W1i,W1j,W1k,W1l,W1m,W1n,W1o,W1p,W1q,W1r,W1s,W1t,W1u,W1v,W1w,W1x,W1y,W1z,W20,W21,W22,W23,W24,W25,W26,W27,W28,W29,W2a,W2b,W2c,W2d,W2e,W2f,W2g,W2h,W2i,W2j,W2k,W2l,W2m,W2n,W2o,W2p,W2q,W2r,W2s,W2t,W2u,W2v,W2w,W2x,W2y,W2z,W30,W31,W32,W33,W34,W35,W36,W37,W38,W39,W3a,W3b,W3c,W3d,W3e,W3f,W3g,W3h,W3i,W3j,W3k,W3l,W3m,W3n,W3o,W3p,W3q,W3r,W3s,W3t,W3u,W3v,W3w,W3x,W3y,W3z,W40,W41,W42,W43,W44,W45,W46,W47,W48,W49,W4a,W4b,W4c,W4d,W4e,W4f,W4g,W4h,W4i,W4j,W4k,W4l,W4m,W4n,W4o,W4p,W4q,W4r,W4s,W4t,W4u,W4v,W4w,W4x,W4y,W4z,W50,W51,W52,W53,W54,W55,W56,W57,W58,W59,W5a,W5b,W5c,W5d,W5e,W5f,W5g,W5h,W5i,W5j,W5k,W5l,W5m,W5n,W5o,W5p,W5q,W5r,W5s,W5t,W5u,W5v,W5w,W5x,W5y,W5z,W60,W61,W62,W63,W64,W65,W66,W67,W68,W69,W6a,W6b,W6c,W6d,W6e,W6f,W6g,W6h,W6i,W6j,W6k,W6l,W6m,W6n,W6o,W6p,W6q,W6r,W6s,W6t,W6u,W6v,W6w,W6x,W6y,W6z,W70,W71,W72,W73,W74,W75,W76,W77,W78,W79,W7a,W7b,W7c,W7d,W7e,W7f,W7g,W7h,W7i,W7j,W7k,W7l,W7m,W7n,W7o,W7p,W7q,W7r,W7s,W7t,W7u,W7v,W7w,W7x,W7y,W7z,W80,Nat.reduceSub, s_need_any_grouping (T := T) (k := k) hx (by omega), s_depth_in (T := T) (k := k) (x := x) (by omega)]
theorem s_is_row [h : H_is_row T] {k : Nat} (r : List Nat) : run T (k + 3) i_is_row [.tup (ns r)] = ret (.bl (decide (1 ≤ r.length) && decide (r.length ≤ 10) && r.all fun v => decide (v < 5))) := by
  rw [run_b h.q_is_row rfl]
  unfold F_is_row
  simp (disch := first | (with_reducible rfl) | assumption | omega) only [W00,W01,W02,W03,W04,W05,W06,W07,W08,W09,W0a,W0b,W0c,W0d,W0e,W0f,W0g,W0h,W0i,W0j,W0k,W0l,W0m,W0n,W0o,W0p,W0q,W0r,W0s,W0t,W0u,W0v,W0w,W0x,W0y,W0z,W10,W11,W12,W13,W14,W15,W16,W17,W18,W19,W1a,W1b,W1c,W1d,W1e,W1f,W1g,W1h,W1i,W1j,W1k,W1l,W1m,W1n,W1o,W1p,W1q,W1r,W1s,W1t,W1u,W1v,W1w,W1x,W1y,W1z,W20,W21,W22,W23,W24,W25,W26,W27,W28,W29,W2a,W2b,W2c,W2d,W2e,W2f,W2g,W2h,W2i,W2j,W2k,W2l,W2m,W2n,W2o,W2p,W2q,W2r,W2s,W2t,W2u,W2v,W2w,W2x,W2y,W2z,W30,W31,W32,W33,W34,W35,W36,W37,W38,W39,W3a,W3b,W3c,W3d,W3e,W3f,W3g,W3h,W3i,W3j,W3k,W3l,W3m,W3n,W3o,W3p,W3q,W3r,W3s,W3t,W3u,W3v,W3w,W3x,W3y,W3z,W40,W41,W42,W43,W44,W45,W46,W47,W48,W49,W4a,W4b,W4c,W4d,W4e,W4f,W4g,W4h,W4i,W4j,W4k,W4l,W4m,W4n,W4o,W4p,W4q,W4r,W4s,W4t,W4u,W4v,W4w,W4x,W4y,W4z,W50,W51,W52,W53,W54,W55,W56,W57,W58,W59,W5a,W5b,W5c,W5d,W5e,W5f,W5g,W5h,W5i,W5j,W5k,W5l,W5m,W5n,W5o,W5p,W5q,W5r,W5s,W5t,W5u,W5v,W5w,W5x,W5y,W5z,W60,W61,W62,W63,W64,W65,W66,W67,W68,W69,W6a,W6b,W6c,W6d,W6e,W6f,W6g,W6h,W6i,W6j,W6k,W6l,W6m,W6n,W6o,W6p,W6q,W6r,W6s,W6t,W6u,W6v,W6w,W6x,W6y,W6z,W70,W71,W72,W73,W74,W75,W76,W77,W78,W79,W7a,W7b,W7c,W7d,W7e,W7f,W7g,W7h,W7i,W7j,W7k,W7l,W7m,W7n,W7o,W7p,W7q,W7r,W7s,W7t,W7u,W7v,W7w,W7x,W7y,W7z,W80,Nat.reduceSub]
theorem s_is_tuple_lst [h : H_is_tuple_of T] {k : Nat} (xs : List D) (a b : Int) : run T (k + 1) i_is_tuple_of [.lst xs, .int a, .int b] = ret (.bl false) := by
  rw [run_b h.q_is_tuple_of rfl]
  unfold F_is_tuple_of
  simp (disch := first | (with_reducible rfl) | assumption | omega) only [W00,W01,W02,W03,W04,W05,W06,W07,W08,W09,W0a,W0b,W0c,W0d,W0e,W0f,W0g,W0h,W0i,W0j,W0k,W0l,W0m,W0n,W0o,W0p,W0q,W0r,W0s,W0t,W0u,W0v,W0w,W0x,W0y,W0z,W10,W11,W12,W13,W14,W15,W16,W17,W18,W19,W1a,W1b,W1c,W1d,W1e,W1f,W1g,W1h,W1i,W1j,W1k,W1l,W1m,W1n,W1o,W1p,W1q,W1r,W1s,W1t,W1u,W1v,W1w,W1x,W1y,W1z,W20,W21,W22,W23,W24,W25,W26,W27,W28,W29,W2a,W2b,W2c,W2d,W2e,W2f,W2g,W2h,W2i,W2j,W2k,W2l,W2m,W2n,W2o,W2p,W2q,W2r,W2s,W2t,W2u,W2v,W2w,W2x,W2y,W2z,W30,W31,W32,W33,W34,W35,W36,W37,W38,W39,W3a,W3b,W3c,W3d,W3e,W3f,W3g,W3h,W3i,W3j,W3k,W3l,W3m,W3n,W3o,W3p,W3q,W3r,W3s,W3t,W3u,W3v,W3w,W3x,W3y,W3z,W40,W41,W42,W43,W44,W45,W46,W47,W48,W49,W4a,W4b,W4c,W4d,W4e,W4f,W4g,W4h,W4i,W4j,W4k,W4l,W4m,W4n,W4o,W4p,W4q,W4r,W4s,W4t,W4u,W4v,W4w,W4x,W4y,W4z,W50,W51,W52,W53,W54,W55,W56,W57,W58,W59,W5a,W5b,W5c,W5d,W5e,W5f,W5g,W5h,W5i,W5j,W5k,W5l,W5m,W5n,W5o,W5p,W5q,W5r,W5s,W5t,W5u,W5v,W5w,W5x,W5y,W5z,W60,W61,W62,W63,W64,W65,W66,W67,W68,W69,W6a,W6b,W6c,W6d,W6e,W6f,W6g,W6h,W6i,W6j,W6k,W6l,W6m,W6n,W6o,W6p,W6q,W6r,W6s,W6t,W6u,W6v,W6w,W6x,W6y,W6z,W70,W71,W72,W73,W74,W75,W76,W77,W78,W79,W7a,W7b,W7c,W7d,W7e,W7f,W7g,W7h,W7i,W7j,W7k,W7l,W7m,W7n,W7o,W7p,W7q,W7r,W7s,W7t,W7u,W7v,W7w,W7x,W7y,W7z,W80,Nat.reduceSub]
theorem s_is_row_lst [h : H_is_row T] {k : Nat} (xs : List D) : run T (k + 3) i_is_row [.lst xs] = ret (.bl false) := by
  have e : run T (k + 2) i_fits_row [.lst xs, .int ((5 : Nat) : Int)] = ret (.bl false) := by
    have hf : H_fits_row T := inferInstance
    rw [run_b hf.q_fits_row rfl]
    unfold F_fits_row
    simp (disch := first | (with_reducible rfl) | assumption | omega) only [W00,W01,W02,W03,W04,W05,W06,W07,W08,W09,W0a,W0b,W0c,W0d,W0e,W0f,W0g,W0h,W0i,W0j,W0k,W0l,W0m,W0n,W0o,W0p,W0q,W0r,W0s,W0t,W0u,W0v,W0w,W0x,W0y,W0z,W10,W11,W12,W13,W14,W15,W16,W17,W18,W19,W1a,W1b,W1c,W1d,W1e,W1f,W1g,W1h,W1i,W1j,W1k,W1l,W1m,W1n,W1o,W1p,W1q,W1r,W1s,W1t,W1u,W1v,W1w,W1x,W1y,W1z,W20,W21,W22,W23,W24,W25,W26,W27,W28,W29,W2a,W2b,W2c,W2d,W2e,W2f,W2g,W2h,W2i,W2j,W2k,W2l,W2m,W2n,W2o,W2p,W2q,W2r,W2s,W2t,W2u,W2v,W2w,W2x,W2y,W2z,W30,W31,W32,W33,W34,W35,W36,W37,W38,W39,W3a,W3b,W3c,W3d,W3e,W3f,W3g,W3h,W3i,W3j,W3k,W3l,W3m,W3n,W3o,W3p,W3q,W3r,W3s,W3t,W3u,W3v,W3w,W3x,W3y,W3z,W40,W41,W42,W43,W44,W45,W46,W47,W48,W49,W4a,W4b,W4c,W4d,W4e,W4f,W4g,W4h,W4i,W4j,W4k,W4l,W4m,W4n,W4o,W4p,W4q,W4r,W4s,W4t,W4u,W4v,W4w,W4x,W4y,W4z,W50,W51,W52,W53,W54,W55,W56,W57,W58,W59,W5a,W5b,W5c,W5d,W5e,W5f,W5g,W5h,W5i,W5j,W5k,W5l,W5m,W5n,W5o,W5p,W5q,W5r,W5s,W5t,W5u,W5v,W5w,W5x,W5y,W5z,W60,W61,W62,W63,W64,W65,W66,W67,W68,W69,W6a,W6b,W6c,W6d,W6e,W6f,W6g,W6h,W6i,W6j,W6k,W6l,W6m,W6n,W6o,W6p,W6q,W6r,W6s,W6t,W6u,W6v,W6w,W6x,W6y,W6z,W70,W71,W72,W73,W74,W75,W76,W77,W78,W79,W7a,W7b,W7c,W7d,W7e,W7f,W7g,W7h,W7i,W7j,W7k,W7l,W7m,W7n,W7o,W7p,W7q,W7r,W7s,W7t,W7u,W7v,W7w,W7x,W7y,W7z,W80,Nat.reduceSub, s_is_tuple_lst]
  rw [run_b h.q_is_row rfl]
  unfold F_is_row
  simp (disch := first | (with_reducible rfl) | assumption | omega) only [W00,W01,W02,W03,W04,W05,W06,W07,W08,W09,W0a,W0b,W0c,W0d,W0e,W0f,W0g,W0h,W0i,W0j,W0k,W0l,W0m,W0n,W0o,W0p,W0q,W0r,W0s,W0t,W0u,W0v,W0w,W0x,W0y,W0z,W10,W11,W12,W13,W14,W15,W16,W17,W18,W19,W1a,W1b,W1c,W1d,W1e,W1f,W1g,W1h,W1i,W1j,W1k,W1l,W1m,W1n,W1o,W1p,W1q,W1r,W1s,W1t,W1u,W1v,W1w,W1x,W1y,W1z,W20,W21,W22,W23,W24,W25,W26,W27,W28,W29,W2a,W2b,W2c,W2d,W2e,W2f,W2g,W2h,W2i,W2j,W2k,W2l,W2m,W2n,W2o,W2p,W2q,W2r,W2s,W2t,W2u,W2v,W2w,W2x,W2y,W2z,W30,W31,W32,W33,W34,W35,W36,W37,W38,W39,W3a,W3b,W3c,W3d,W3e,W3f,W3g,W3h,W3i,W3j,W3k,W3l,W3m,W3n,W3o,W3p,W3q,W3r,W3s,W3t,W3u,W3v,W3w,W3x,W3y,W3z,W40,W41,W42,W43,W44,W45,W46,W47,W48,W49,W4a,W4b,W4c,W4d,W4e,W4f,W4g,W4h,W4i,W4j,W4k,W4l,W4m,W4n,W4o,W4p,W4q,W4r,W4s,W4t,W4u,W4v,W4w,W4x,W4y,W4z,W50,W51,W52,W53,W54,W55,W56,W57,W58,W59,W5a,W5b,W5c,W5d,W5e,W5f,W5g,W5h,W5i,W5j,W5k,W5l,W5m,W5n,W5o,W5p,W5q,W5r,W5s,W5t,W5u,W5v,W5w,W5x,W5y,W5z,W60,W61,W62,W63,W64,W65,W66,W67,W68,W69,W6a,W6b,W6c,W6d,W6e,W6f,W6g,W6h,W6i,W6j,W6k,W6l,W6m,W6n,W6o,W6p,W6q,W6r,W6s,W6t,W6u,W6v,W6w,W6x,W6y,W6z,W70,W71,W72,W73,W74,W75,W76,W77,W78,W79,W7a,W7b,W7c,W7d,W7e,W7f,W7g,W7h,W7i,W7j,W7k,W7l,W7m,W7n,W7o,W7p,W7q,W7r,W7s,W7t,W7u,W7v,W7w,W7x,W7y,W7z,W80,Nat.reduceSub, e]
theorem s_is_grouping [h : H_is_grouping T] {k : Nat} {x : G} (hk : x.deep + 3 < k) : run T k i_is_grouping [gD x] = ret (.bl (fitsG 5 10 x)) := by
  obtain ⟨k, rfl⟩ : ∃ j, k = j + 1 := ⟨k - 1, by omega⟩
  rw [run_b h.q_is_grouping rfl]
  unfold F_is_grouping
  simp (disch := first | (with_reducible rfl) | assumption | omega) only [W00,W01,W02,W03,W04,W05,W06,W07,W08,W09,W0a,W0b,W0c,W0d,W0e,W0f,W0g,W0h,W0i,W0j,W0k,W0l,W0m,W0n,W0o,W0p,W0q,W0r,W0s,W0t,W0u,W0v,W0w,W0x,W0y,W0z,W10,W11,W12,W13,W14,W15,W16,W17,W18,W19,W1a,W1b,W1c,W1d,W1e,W1f,W1g,W1h,W1i,W1j,W1k,W1l,W1m,W1n,W1o,W1p,W1q,W1r,W1s,W1t,W1u,W1v,W1w,W1x,W1y,W1z,W20,W21,W22,W23,W24,W25,W26,W27,W28,W29,W2a,W2b,W2c,W2d,W2e,W2f,W2g,W2h,W2i,W2j,W2k,W2l,W2m,W2n,W2o,W2p,W2q,W2r,W2s,W2t,W2u,W2v,W2w,W2x,W2y,W2z,W30,W31,W32,W33,W34,W35,W36,W37,W38,W39,W3a,W3b,W3c,W3d,W3e,W3f,W3g,W3h,W3i,W3j,W3k,W3l,W3m,W3n,W3o,W3p,W3q,W3r,W3s,W3t,W3u,W3v,W3w,W3x,W3y,W3z,W40,W41,W42,W43,W44,W45,W46,W47,W48,W49,W4a,W4b,W4c,W4d,W4e,W4f,W4g,W4h,W4i,W4j,W4k,W4l,W4m,W4n,W4o,W4p,W4q,W4r,W4s,W4t,W4u,W4v,W4w,W4x,W4y,W4z,W50,W51,W52,W53,W54,W55,W56,W57,W58,W59,W5a,W5b,W5c,W5d,W5e,W5f,W5g,W5h,W5i,W5j,W5k,W5l,W5m,W5n,W5o,W5p,W5q,W5r,W5s,W5t,W5u,W5v,W5w,W5x,W5y,W5z,W60,W61,W62,W63,W64,W65,W66,W67,W68,W69,W6a,W6b,W6c,W6d,W6e,W6f,W6g,W6h,W6i,W6j,W6k,W6l,W6m,W6n,W6o,W6p,W6q,W6r,W6s,W6t,W6u,W6v,W6w,W6x,W6y,W6z,W70,W71,W72,W73,W74,W75,W76,W77,W78,W79,W7a,W7b,W7c,W7d,W7e,W7f,W7g,W7h,W7i,W7j,W7k,W7l,W7m,W7n,W7o,W7p,W7q,W7r,W7s,W7t,W7u,W7v,W7w,W7x,W7y,W7z,W80,Nat.reduceSub, s_fitsG (T := T) (k := k) (n := 5) (d := 10) (x := x) (by omega) (by omega) (by omega)]
theorem plain_g : ∀ {x : G} {n : Nat}, x.deep ≤ n → plainD n (gD x) = true
  | .leaf m, n, _ => by cases n <;> rfl
  | .node a b, n, h => by
    have h : max a.deep b.deep + 1 ≤ n := h
    obtain ⟨n, rfl⟩ : ∃ j, n = j + 1 := ⟨n - 1, by omega⟩
    rw [W7z]
    unfold plainD
    simp [plain_g (x := a) (n := n) (by omega), plain_g (x := b) (n := n) (by omega)]
theorem G.mir_mir : ∀ x : G, x.mir.mir = x
  | .leaf _ => rfl
  | .node a b => by rw [mir, mir, mir_mir a, mir_mir b]
end
end MP
set_option linter.all false
set_option maxRecDepth 100000
/-! MG: all groupings of a row, counted by what they keep. -/
namespace MP
def grs : Nat → List Nat → List G
  | 0, r => [.leaf (r.headD 0)]
  | f + 1, r => if r.length = 1 then [.leaf (r.headD 0)] else (List.range (r.length - 1)).flatMap fun i => (grs f (r.take (i + 1))).flatMap fun x => (grs f (r.drop (i + 1))).map fun y => .node x y
/-- how many of so long a row -/
def cat : Nat → Nat → Nat
  | 0, _ => 1
  | f + 1, n => if n = 1 then 1 else ((List.range (n - 1)).map fun i => cat f (i + 1) * cat f (n - (i + 1))).sum
theorem len_flat {α β : Type} (f : α → List β) (l : List α) : (l.flatMap f).length = (l.map fun a => (f a).length).sum := List.length_flatMap
theorem grs_len : ∀ {f : Nat} {r : List Nat}, (grs f r).length = cat f r.length
  | 0, r => rfl
  | f + 1, r => by
    rw [grs, cat]
    by_cases e : r.length = 1
    · rw [if_pos e, if_pos e]; rfl
    · rw [if_neg e, if_neg e, len_flat]
      congr 1
      refine List.map_congr_left fun i hi => ?_
      have hi := List.mem_range.mp hi
      have h1 : ∀ l : List G, (l.flatMap fun x => (grs f (r.drop (i + 1))).map fun y => G.node x y).length = l.length * (grs f (r.drop (i + 1))).length := fun l => by
        induction l with
        | nil => simp
        | cons x l ih => rw [List.flatMap_cons, List.length_append, ih, List.length_map, List.length_cons, Nat.add_mul]; omega
      rw [h1, grs_len, grs_len, List.length_take, List.length_drop]
      congr 2
      omega
theorem grs_row : ∀ {f : Nat} {r : List Nat}, 1 ≤ r.length → r.length ≤ f + 1 → ∀ x ∈ grs f r, x.row = r
  | 0, r, h1, h2, x, hx => by
    obtain ⟨a, rfl⟩ := List.length_eq_one_iff.mp (show r.length = 1 by omega)
    simp [grs] at hx
    subst hx; rfl
  | f + 1, r, h1, h2, x, hx => by
    rw [grs] at hx
    by_cases e : r.length = 1
    · obtain ⟨a, rfl⟩ := List.length_eq_one_iff.mp e
      simp at hx
      subst hx; rfl
    · rw [if_neg e] at hx
      obtain ⟨i, hi, hx⟩ := List.mem_flatMap.mp hx
      obtain ⟨y, hy, hx⟩ := List.mem_flatMap.mp hx
      obtain ⟨z, hz, rfl⟩ := List.mem_map.mp hx
      have hi := List.mem_range.mp hi
      rw [G.row, grs_row (by simp; omega) (by simp; omega) y hy, grs_row (by simp; omega) (by simp; omega) z hz, List.take_append_drop]
theorem grs_fuel : ∀ {f f' : Nat} {r : List Nat}, 1 ≤ r.length → r.length ≤ f + 1 → r.length ≤ f' + 1 → grs f r = grs f' r
  | 0, 0, r, _, _, _ => rfl
  | 0, f' + 1, r, h1, h2, h3 => by rw [grs, grs, if_pos (show r.length = 1 by omega)]
  | f + 1, 0, r, h1, h2, h3 => by rw [grs, grs, if_pos (show r.length = 1 by omega)]
  | f + 1, f' + 1, r, h1, h2, h3 => by
    rw [grs, grs]
    by_cases e : r.length = 1
    · rw [if_pos e, if_pos e]
    · rw [if_neg e, if_neg e]
      have : ∀ l : List Nat, (∀ i ∈ l, i < r.length - 1) → (l.flatMap fun i => (grs f (r.take (i + 1))).flatMap fun x => (grs f (r.drop (i + 1))).map fun y => G.node x y) = l.flatMap fun i => (grs f' (r.take (i + 1))).flatMap fun x => (grs f' (r.drop (i + 1))).map fun y => G.node x y := fun l hl => by
        induction l with
        | nil => rfl
        | cons i l ih =>
          have hi := hl i (by simp)
          rw [List.flatMap_cons, List.flatMap_cons, ih fun j hj => hl j (by simp [hj]), grs_fuel (f := f) (f' := f') (r := r.take (i + 1)) (by simp; omega) (by simp; omega) (by simp; omega), grs_fuel (f := f) (f' := f') (r := r.drop (i + 1)) (by simp; omega) (by simp; omega) (by simp; omega)]
      exact this _ fun i hi => List.mem_range.mp hi
/-- sums -/
def sumR (n : Nat) (f : Nat → Nat) : Nat := ((List.range n).map f).sum
theorem sumR_z (f : Nat → Nat) : sumR 0 f = 0 := rfl
theorem sumR_s (n : Nat) (f : Nat → Nat) : sumR (n + 1) f = sumR n f + f n := by
  unfold sumR
  rw [List.range_succ, List.map_append, List.sum_append]; simp
theorem sumR_congr {n : Nat} {f g : Nat → Nat} (h : ∀ i, i < n → f i = g i) : sumR n f = sumR n g := by
  unfold sumR
  rw [List.map_congr_left fun i hi => h i (List.mem_range.mp hi)]
theorem sumR_add (n : Nat) (f g : Nat → Nat) : sumR n (fun i => f i + g i) = sumR n f + sumR n g := by
  induction n with
  | zero => rfl
  | succ n ih => rw [sumR_s, sumR_s, sumR_s, ih]; omega
theorem sumR_zero (n : Nat) : sumR n (fun _ => 0) = 0 := by
  induction n with
  | zero => rfl
  | succ n ih => rw [sumR_s, ih]
theorem sumR_one {n k : Nat} (f : Nat → Nat) (hk : k < n) : sumR n (fun i => if k = i then f i else 0) = f k := by
  induction n with
  | zero => omega
  | succ n ih =>
    rw [sumR_s]
    by_cases e : k = n
    · subst e
      rw [if_pos rfl, sumR_congr (g := fun _ => 0) (fun i hi => if_neg (by omega)), sumR_zero]; omega
    · rw [if_neg e, ih (by omega)]; rfl
theorem sumR_mul (c n : Nat) (f : Nat → Nat) : c * sumR n f = sumR n fun i => c * f i := by
  induction n with
  | zero => rfl
  | succ n ih => rw [sumR_s, sumR_s, Nat.mul_add, ih]
/-- a sum over a list by what its items are worth -/
theorem sum_by {α : Type} {n : Nat} (k : α → Nat) (φ : Nat → Nat) : ∀ {l : List α}, (∀ x ∈ l, k x < n) → (l.map fun x => φ (k x)).sum = sumR n fun a => (l.countP fun x => k x == a) * φ a
  | [], _ => by
    show 0 = _
    rw [sumR_congr (g := fun _ => 0) fun i _ => by simp, sumR_zero]
  | x :: l, h => by
    have hx := h x (by simp)
    rw [List.map_cons, List.sum_cons, sum_by k φ fun y hy => h y (by simp [hy])]
    have : (fun a => ((x :: l).countP fun x => k x == a) * φ a) = fun a => (l.countP fun x => k x == a) * φ a + if k x = a then φ a else 0 := by
      funext a
      rw [List.countP_cons]
      by_cases e : k x = a
      · subst e; simp [Nat.add_mul]
      · simp [e]
    rw [this, sumR_add, sumR_one φ hx]; omega
/-- how many groupings of a row keep t -/
def ws (g : Nat → Nat → Nat) (f : Nat) (r : List Nat) (t : Nat) : Nat := (grs f r).countP fun x => x.keep g == t
theorem grs_lt {n f : Nat} {g : Nat → Nat → Nat} {r : List Nat} (v : Valid n g) (h1 : 1 ≤ r.length) (h2 : r.length ≤ f + 1) (b : Below n r) : ∀ x ∈ grs f r, x.keep g < n := fun x hx => G.keep_lt v (G.under_row.mpr (by rw [grs_row h1 h2 x hx]; exact b))
theorem countP_flat {α β : Type} (p : β → Bool) (f : α → List β) : ∀ l : List α, (l.flatMap f).countP p = (l.map fun a => (f a).countP p).sum
  | [] => rfl
  | a :: l => by rw [List.flatMap_cons, List.countP_append, countP_flat p f l, List.map_cons, List.sum_cons]
theorem ws_step {n f : Nat} {g : Nat → Nat → Nat} {r : List Nat} {t : Nat} (v : Valid n g) (h1 : 2 ≤ r.length) (h2 : r.length ≤ f + 2) (b : Below n r) : ws g (f + 1) r t = sumR (r.length - 1) fun i => sumR n fun p => sumR n fun q => if g p q = t then ws g f (r.take (i + 1)) p * ws g f (r.drop (i + 1)) q else 0 := by
  unfold ws
  rw [grs, if_neg (by omega), countP_flat]
  show sumR (r.length - 1) _ = _
  refine sumR_congr fun i hi => ?_
  have bt : Below n (r.take (i + 1)) := fun x hx => b x (List.mem_of_mem_take hx)
  have bd : Below n (r.drop (i + 1)) := fun x hx => b x (List.mem_of_mem_drop hx)
  rw [countP_flat]
  have e1 : ∀ x, ((grs f (r.drop (i + 1))).map fun y => G.node x y).countP (fun x => x.keep g == t) = sumR n fun q => ((grs f (r.drop (i + 1))).countP fun y => y.keep g == q) * if g (x.keep g) q = t then 1 else 0 := fun x => by
    rw [List.countP_map]
    have := sum_by (n := n) (fun y : G => y.keep g) (fun q => if g (x.keep g) q = t then 1 else 0) (grs_lt (f := f) (r := r.drop (i + 1)) v (by simp; omega) (by simp; omega) bd)
    rw [← this]
    generalize grs f (r.drop (i + 1)) = l
    induction l with
    | nil => rfl
    | cons y l ih =>
      rw [List.countP_cons, List.map_cons, List.sum_cons, ih]
      show _ + (if (g (x.keep g) (y.keep g) == t) = true then 1 else 0) = _
      by_cases e : g (x.keep g) (y.keep g) = t
      · simp [e]; omega
      · simp [e]
  have e2 : ((grs f (r.take (i + 1))).map fun x => ((grs f (r.drop (i + 1))).map fun y => G.node x y).countP (fun x => x.keep g == t)) = (grs f (r.take (i + 1))).map fun x => (fun p => sumR n fun q => ((grs f (r.drop (i + 1))).countP fun y => y.keep g == q) * if g p q = t then 1 else 0) (x.keep g) := List.map_congr_left fun x _ => e1 x
  rw [e2]
  refine (sum_by (n := n) (fun x : G => x.keep g) (fun p => sumR n fun q => ((grs f (r.drop (i + 1))).countP fun y => y.keep g == q) * if g p q = t then 1 else 0) (grs_lt (f := f) (r := r.take (i + 1)) v (by simp; omega) (by simp; omega) bt)).trans ?_
  refine sumR_congr fun p _ => ?_
  generalize (grs f (r.take (i + 1))).countP (fun x => x.keep g == p) = c
  rw [sumR_mul]
  refine sumR_congr fun q _ => ?_
  by_cases e : g p q = t <;> simp [e]
theorem ws_one (g : Nat → Nat → Nat) (f a t : Nat) : ws g f [a] t = if a = t then 1 else 0 := by
  unfold ws
  have : grs f [a] = [.leaf a] := by cases f <;> rfl
  rw [this]
  simp [G.keep, List.countP_cons]
theorem ws_le (g : Nat → Nat → Nat) (f : Nat) (r : List Nat) (t : Nat) : ws g f r t ≤ cat f r.length := by
  rw [← grs_len]; exact List.countP_le_length
theorem cat_small : ∀ n, n ≤ 10 → cat 9 n ≤ 4862 := by decide +kernel
theorem ws_fuel {g : Nat → Nat → Nat} {f f' : Nat} {r : List Nat} (h1 : 1 ≤ r.length) (h2 : r.length ≤ f + 1) (h3 : r.length ≤ f' + 1) (t : Nat) : ws g f r t = ws g f' r t := by unfold ws; rw [grs_fuel h1 h2 h3]
end MP
set_option linter.all false
set_option maxRecDepth 100000
/-! ML6: ranges from elsewhere, counted walks, dicts, stores. -/
namespace MP
theorem W81 (a b : Nat) (h : a + 1 ≤ 1000000 ∧ b ≤ 1000000) : walkD (.rng ((a + 1 : Nat) : Int) (b : Int)) = some (mapR (b - (a + 1)) fun i => .int ((a + 1 + i : Nat) : Int)) := w_rng (a + 1) b h
theorem enumL_map {α : Type} (F : α → D) : ∀ (l : List α) (n : Nat), enumL n (l.map F) = (l.zipIdx n).map fun p => .tup [.int (p.2 : Int), F p.1]
  | [], n => rfl
  | a :: l, n => by rw [List.map_cons, enumL, enumL_map F l (n + 1)]; rfl
theorem enumL_mapR (F : Nat → D) (n : Nat) : enumL 0 (mapR n F) = mapR n fun i => .tup [.int (i : Int), F i] := by
  unfold mapR
  have : ∀ (m k : Nat), enumL k ((List.range' k m).map F) = (List.range' k m).map fun i => .tup [.int (i : Int), F i] := fun m => by
    induction m with
    | zero => intro k; rfl
    | succ m ih => intro k; rw [List.range'_succ, List.map_cons, enumL, ih]; rfl
  have h := this n 0
  rw [← List.range_eq_range'] at h
  exact h
theorem W82 (n : Nat) (f : Nat → Nat) : enumD (.lst (ns (mapR n f))) = some (mapR n fun i => .tup [.int (i : Int), .int (f i : Int)]) := by
  show some (enumL 0 (ns (mapR n f))) = _
  rw [← W4y, enumL_mapR]
theorem W83 (xs : List D) (i : Nat) (e : D) : setD (.lst xs) (.int (i : Int)) e = if decide (i < xs.length) = true then some (.lst (xs.set i e)) else none := by
  unfold setD place
  simp only
  by_cases h : i < xs.length
  · rw [if_pos (by omega), if_pos (by omega), decide_eq_true h]; rfl
  · rw [if_pos (by omega), if_neg (by omega), decide_eq_false h]; rfl
theorem W84 (xs : List D) (i : Nat) : op2 .ix (.lst xs) (.int (i : Int)) = xs[i]? := by
  show atD xs (i : Int) = _
  unfold atD place
  by_cases h : i < xs.length
  · rw [if_pos (by omega), if_pos (by omega)]; rfl
  · rw [if_pos (by omega), if_neg (by omega)]
    rw [List.getElem?_eq_none (by omega)]; rfl
theorem W85 (l : List Nat) (i v : Nat) : (ns l).set i (.int (v : Int)) = ns (l.set i v) := by simp [ns, List.map_set]
theorem W86 (n i v : Nat) (f : Nat → Nat) : (mapR n f).set i v = mapR n fun k => if k = i then v else f k := mapR_set f v
/-! dicts by a rule -/
def dicM {α : Type} (K V : α → D) (l : List α) : D := .dic true (l.map K) (l.map V)
theorem W87 {α : Type} (K V : α → D) (l : List α) : gd (dicM K V l) = ret (dicM K V l) := gd_of rfl
theorem look_map {α : Type} {K V : α → D} {a : α} : ∀ {l : List α}, a ∈ l → (∀ b ∈ l, keyEq (K b) (K a) = true → b = a) → keyEq (K a) (K a) = true → look (l.map K) (l.map V) (K a) = some (V a)
  | b :: l, h, hk, hr => by
    rw [List.map_cons, List.map_cons, look]
    by_cases e : keyEq (K b) (K a) = true
    · rw [if_pos e, hk b (by simp) e]
    · rw [if_neg e]
      rcases List.mem_cons.mp h with rfl | h
      · exact absurd hr e
      · exact look_map h (fun c hc => hk c (by simp [hc])) hr
theorem put_map {α : Type} {K V : α → D} {a : α} {l : List α} (h : ∀ b ∈ l, keyEq (K b) (K a) = false) : put (l.map K) (l.map V) (K a) (V a) = ((l ++ [a]).map K, (l ++ [a]).map V) := by
  unfold put
  have : ((l.map K).any fun k => keyEq k (K a)) = false := by
    rw [List.any_map, List.any_eq_false]
    intro b hb
    simpa using h b hb
  rw [this]
  simp
/-- a pair of naturals -/
def prD (p : Nat × Nat) : D := .tup [.int (p.1 : Int), .int (p.2 : Int)]
theorem prD_key (p q : Nat × Nat) : keyEq (prD p) (prD q) = decide (p = q) := by
  show ((p.1 : Int) == (q.1 : Int) && ((p.2 : Int) == (q.2 : Int) && true)) = _
  by_cases h1 : p.1 = q.1 <;> by_cases h2 : p.2 = q.2 <;> simp [h1, h2, Prod.ext_iff]
  · intro h; exact absurd (Int.ofNat_inj.mp h) h2
  · intro h; exact absurd (Int.ofNat_inj.mp h) h1
  · intro h; exact absurd (Int.ofNat_inj.mp h) h1
theorem prD_keyOf (p : Nat × Nat) : keyOf true (prD p) = true := rfl
theorem ix_pr {V : Nat × Nat → D} {l : List (Nat × Nat)} {b e : Nat} (h : (b, e) ∈ l) : op2M .ix (dicM prD V l) (.tup [.int (b : Int), .int (e : Int)]) = ret (V (b, e)) := by
  funext κ
  show opt (if keyOf true (prD (b, e)) then look (l.map prD) (l.map V) (prD (b, e)) else none) κ = _
  rw [prD_keyOf, if_pos rfl, look_map h (fun c _ hc => by rw [prD_key] at hc; exact of_decide_eq_true hc) (by rw [prD_key]; simp)]
  rfl
theorem set_pr {V : Nat × Nat → D} {l : List (Nat × Nat)} {b e : Nat} {d : D} (h : (b, e) ∉ l) (hl : l.length < 16777216) (hd : d = V (b, e)) : setD (dicM prD V l) (.tup [.int (b : Int), .int (e : Int)]) d = some (dicM prD V (l ++ [(b, e)])) := by
  subst hd
  show (putD true (l.map prD) (l.map V) (prD (b, e)) (V (b, e))).map (fun p => D.dic true p.1 p.2) = _
  unfold putD
  rw [prD_keyOf, List.length_map, decide_eq_true (show l.length < line from hl), put_map (fun c hc => by
    rw [prD_key]
    exact decide_eq_false fun z => h (z ▸ hc))]
  rfl
theorem mkDic_nil (t : Bool) : mkDic t ([], []) = some (.dic t [] []) := rfl
theorem W88 (t : Bool) : (twos []).bind (mkDic t) = some (.dic t [] []) := rfl
section
variable {st : D → List D → Option (List D)} {b : List D → M Fl}
theorem fp_forR {I : Nat → List D → Prop} {F : Nat → D} {ρ : List D} {n : Nat} (h : I 0 ρ) (s : ∀ i ρ, i < n → I i ρ → ∃ f, bnd (opt (st (F i) ρ)) b = ret f ∧ ∃ ρ', (f = .nx ρ' ∨ f = .ct ρ') ∧ I (i + 1) ρ') : ∃ ρ', forL st b (mapR n F) ρ = ret (.nx ρ') ∧ I n ρ' := by
  have := fp_for (st := st) (b := b) (I := I) (ρ := ρ) (xs := mapR n F) (j := 0) h fun i x ρ e q => by
    have hi : i < n := by
      have := (List.getElem?_eq_some_iff.mp e).1
      rwa [W4t] at this
    rw [mapR_get F hi] at e
    cases e
    simpa using s i ρ hi (by simpa using q)
  simpa [W4t] using this
theorem hr_forR {I : Nat → List D → Prop} {F : Nat → D} {ρ : List D} {n : Nat} (h : I 0 ρ) (s : ∀ i ρ, i < n → I i ρ → Hr (bnd (opt (st (F i) ρ)) b) fun f => ∃ ρ', (f = .nx ρ' ∨ f = .ct ρ') ∧ I (i + 1) ρ') : Hr (forL st b (mapR n F) ρ) fun f => ∃ ρ', f = .nx ρ' ∧ I n ρ' := by
  have := hr_for (st := st) (b := b) (I := I) (ρ := ρ) (xs := mapR n F) (j := 0) h fun i x ρ e q => by
    have hi : i < n := by
      have := (List.getElem?_eq_some_iff.mp e).1
      rwa [W4t] at this
    rw [mapR_get F hi] at e
    cases e
    simpa using s i ρ hi (by simpa using q)
  simpa [W4t] using this
end
/-- it ends well, whatever the cup, which it leaves; its value has P -/
def Pr {α : Type} (m : M α) (P : α → Prop) : Prop := ∃ a, m = ret a ∧ P a
section
variable {α β : Type}
theorem Pr.ret {a : α} {P : α → Prop} (h : P a) : Pr (ret a) P := ⟨a, rfl, h⟩
theorem Pr.bnd {m : M α} {f : α → M β} {P : α → Prop} {Q : β → Prop} (h : Pr m P) (q : ∀ a, P a → Pr (f a) Q) : Pr (bnd m f) Q := by
  obtain ⟨a, rfl, p⟩ := h
  rw [W00]; exact q a p
theorem Pr.mono {m : M α} {P Q : α → Prop} (h : Pr m P) (q : ∀ a, P a → Q a) : Pr m Q := let ⟨a, e, p⟩ := h; ⟨a, e, q a p⟩
theorem Pr.is {m : M α} {x : α} (h : Pr m fun a => a = x) : m = MP.ret x := by obtain ⟨a, e, rfl⟩ := h; exact e
theorem Pr.hr {m : M α} {P : α → Prop} (h : Pr m P) : Hr m P := by obtain ⟨a, rfl, p⟩ := h; exact Hr.ret p
variable {st : D → List D → Option (List D)} {b : List D → M Fl}
theorem pr_forP {I : List α → List D → Prop} {F : α → D} {ρ : List D} {l : List α} (h : I [] ρ) (s : ∀ p v q ρ, l = p ++ v :: q → I p ρ → Pr (MP.bnd (opt (st (F v) ρ)) b) fun f => ∃ ρ', (f = .nx ρ' ∨ f = .ct ρ') ∧ I (p ++ [v]) ρ') : Pr (forL st b (l.map F) ρ) fun f => ∃ ρ', f = .nx ρ' ∧ I l ρ' := by
  obtain ⟨ρ', e, i⟩ := fp_forP h s
  exact ⟨_, e, _, rfl, i⟩
theorem pr_forR {I : Nat → List D → Prop} {F : Nat → D} {ρ : List D} {n : Nat} (h : I 0 ρ) (s : ∀ i ρ, i < n → I i ρ → Pr (MP.bnd (opt (st (F i) ρ)) b) fun f => ∃ ρ', (f = .nx ρ' ∨ f = .ct ρ') ∧ I (i + 1) ρ') : Pr (forL st b (mapR n F) ρ) fun f => ∃ ρ', f = .nx ρ' ∧ I n ρ' := by
  obtain ⟨ρ', e, i⟩ := fp_forR h s
  exact ⟨_, e, _, rfl, i⟩
theorem pr_forN {I : Nat → List D → Prop} {ρ : List D} {n : Nat} (h : I 0 ρ) (s : ∀ i ρ, i < n → I i ρ → Pr (MP.bnd (opt (st (.int (i : Int)) ρ)) b) fun f => ∃ ρ', (f = .nx ρ' ∨ f = .ct ρ') ∧ I (i + 1) ρ') : Pr (forL st b (idx n) ρ) fun f => ∃ ρ', f = .nx ρ' ∧ I n ρ' := by
  obtain ⟨ρ', e, i⟩ := fp_forN h s
  exact ⟨_, e, _, rfl, i⟩
end
/-! == of lists of naturals -/
theorem eqs_ns (m : Nat) : ∀ a b : List Nat, eqs (eqF (m + 1)) (ns a) (ns b) = some (decide (a = b))
  | [], [] => rfl
  | [], _ :: _ => rfl
  | _ :: _, [] => rfl
  | x :: a, y :: b => by
    rw [ns_c, ns_c, eqs, eqs_ns m a b]
    show some (((x : Int) == (y : Int)) && decide (a = b)) = _
    congr 1
    by_cases h1 : x = y
    · subst h1
      by_cases h2 : a = b <;> simp [h2]
    · have : ((x : Int) == (y : Int)) = false := by
        simp; omega
      rw [this]; simp [h1]
theorem eqD_tn (a b : List Nat) : eqD (.tup (ns a)) (.tup (ns b)) = some (decide (a = b)) := eqs_ns 62 a b
theorem eqD_ln (a b : List Nat) : eqD (.lst (ns a)) (.lst (ns b)) = some (decide (a = b)) := by
  show (if (ns a).length = (ns b).length then eqs (eqF 63) (ns a) (ns b) else some false) = _
  by_cases h : (ns a).length = (ns b).length
  · rw [if_pos h]; exact eqs_ns 62 a b
  · rw [if_neg h, decide_eq_false fun z => h (by rw [z])]
theorem W89 (a b : List Nat) : op2M .eq (.tup (ns a)) (.tup (ns b)) = ret (.bl (decide (a = b))) := by
  funext κ
  show opt ((eqD (.tup (ns a)) (.tup (ns b))).map D.bl) κ = _
  rw [eqD_tn]; rfl
theorem W8a (a b : List Nat) : op2M .ne (.tup (ns a)) (.tup (ns b)) = ret (.bl (!decide (a = b))) := by
  funext κ
  show opt ((eqD (.tup (ns a)) (.tup (ns b))).map fun b => D.bl (!b)) κ = _
  rw [eqD_tn]; rfl
theorem W8b (a b : List Nat) : op2M .eq (.lst (ns a)) (.lst (ns b)) = ret (.bl (decide (a = b))) := by
  funext κ
  show opt ((eqD (.lst (ns a)) (.lst (ns b))).map D.bl) κ = _
  rw [eqD_ln]; rfl
theorem W8c (a b : List Nat) : op2M .ne (.lst (ns a)) (.lst (ns b)) = ret (.bl (!decide (a = b))) := by
  funext κ
  show opt ((eqD (.lst (ns a)) (.lst (ns b))).map fun b => D.bl (!b)) κ = _
  rw [eqD_ln]; rfl
theorem W8d {α : Type} [DecidableEq α] (a : α) : decide (a = a) = true := decide_eq_true rfl
/-! range objects, pairs that are picked -/
theorem W8e (n : Nat) (h : n ≤ 1000000) : op1 .list (.rng ((0 : Nat) : Int) (n : Int)) = some (.lst (idx n)) := by
  unfold op1 listD small
  simp only
  rw [if_pos (decide_eq_true (by omega))]
  show some (D.lst (rangeL 0 n)) = _
  rw [rangeL_N]; rfl
theorem W8f {α : Type} (n : Nat) (F : α → D) (h : Nat → List α) : flatR n (fun a => (h a).map F) = ((List.range n).flatMap h).map F := by
  unfold flatR; rw [List.map_flatMap]
theorem W8g {α β : Type} (l : List β) (F : α → D) (h : β → List α) : l.flatMap (fun a => (h a).map F) = (l.flatMap h).map F := by rw [List.map_flatMap]
theorem W8h (c : Nat → Bool) (F : Nat → D) (n : Nat) : flatR n (fun a => if c a = true then [F a] else []) = ((List.range n).filter c).map F := by
  unfold flatR; exact filt_map c F _
theorem W8i {α : Type} (c : α → Bool) (F : α → D) (l : List α) : l.flatMap (fun a => if c a = true then [F a] else []) = (l.filter c).map F := filt_map c F l
theorem W8j {α : Type} (c : Bool) (a : α) : (if c = true then [] else [a]) = if (!c) = true then [a] else [] := by cases c <;> rfl
theorem flatR_filtP {α : Type} (c : Nat → Bool) (f : Nat → α) (F : α → D) (n : Nat) : flatR n (fun a => if c a = true then [F (f a)] else []) = (((List.range n).filter c).map f).map F := by
  unfold flatR
  rw [filt_map c (fun a => F (f a)), List.map_map]; rfl
theorem W8k {α : Type} (l : List α) : (l.all fun _ => true) = true := by simp
theorem W8l {α : Type} (l : List α) : (l.any fun _ => false) = false := by simp
theorem hr_colMF {α β : Type} {F : β → D} {P : β → Prop} : ∀ {l : List α} {f : ∀ a, a ∈ l → M (List D)}, (∀ a h, Hr (f a h) fun r => ∃ v, r = [F v] ∧ P v) → Hr (colM l f) fun r => ∃ vs : List β, r = vs.map F ∧ vs.length = l.length ∧ ∀ v ∈ vs, P v
  | [], f, _ => Hr.ret ⟨[], rfl, rfl, fun v h => by simp at h⟩
  | a :: l, f, h => by
    rw [colM]
    refine Hr.bnd (h a _) ?_
    rintro _ ⟨v, rfl, hv⟩
    refine Hr.bnd (hr_colMF (F := F) (P := P) fun b hb => h b _) ?_
    rintro _ ⟨vs, rfl, hl, hvs⟩
    exact Hr.ret ⟨v :: vs, rfl, by simp [hl], fun w hw => (List.mem_cons.mp hw).elim (fun e => e ▸ hv) (hvs w)⟩
theorem hr_colRF {β : Type} {F : β → D} {P : β → Prop} {n : Nat} {f : ∀ i, i < n → M (List D)} (h : ∀ i hi, Hr (f i hi) fun r => ∃ v, r = [F v] ∧ P v) : Hr (colR n f) fun r => ∃ vs : List β, r = vs.map F ∧ vs.length = n ∧ ∀ v ∈ vs, P v :=
  Hr.mono (hr_colMF fun a ha => h a (List.mem_range.mp ha)) fun _ ⟨vs, e, l, p⟩ => ⟨vs, e, by rw [l, List.length_range], p⟩
theorem W8m (x : D) : op2M .mul (.tup [x]) (.int ((2 : Nat) : Int)) = ret (.tup [x, x]) := by funext κ; rfl
theorem intL_ns : ∀ l : List Nat, intL (ns l) = some (l.map fun (n : Nat) => (n : Int))
  | [] => rfl
  | a :: l => by rw [ns_c, intL, intL_ns l]; rfl
theorem count_cast (t : Nat) : ∀ l : List Nat, (l.map fun (n : Nat) => (n : Int)).count (t : Int) = l.count t
  | [] => rfl
  | a :: l => by
    rw [List.map_cons, List.count_cons, List.count_cons, count_cast t l]
    congr 1
    by_cases h : a = t
    · subst h; simp
    · have : ((a : Int) == (t : Int)) = false := by simp; omega
      rw [this]; simp [h]
theorem W8n (l : List Nat) (t : Nat) : op2M .count (.lst (ns l)) (.int (t : Int)) = ret (.int ((l.count t : Nat) : Int)) := by
  funext κ
  show opt ((intL (ns l)).map fun ns => D.int (ns.count (t : Int) : Nat)) κ = _
  rw [intL_ns, Option.map_some, count_cast]; rfl
/-! while -/
theorem pr_whl {c : List D → M Bool} {b : List D → M Fl} {I : Nat → List D → Prop} : ∀ {m n j : Nat} {ρ : List D}, m < n → I j ρ → (∀ i ρ, i < j + m → I i ρ → c ρ = MP.ret true ∧ Pr (b ρ) fun f => ∃ ρ', (f = .nx ρ' ∨ f = .ct ρ') ∧ I (i + 1) ρ') → (∀ ρ, I (j + m) ρ → c ρ = MP.ret false) → Pr (whlL c b n ρ) fun f => ∃ ρ', f = .nx ρ' ∧ I (j + m) ρ'
  | 0, n + 1, j, ρ, _, h, _, e => by
    rw [whlL, e ρ h, W00]
    exact Pr.ret ⟨ρ, rfl, h⟩
  | m + 1, n + 1, j, ρ, hn, h, s, e => by
    obtain ⟨h1, f, h2, ρ', h3, h4⟩ := s j ρ (by omega) h
    have r := pr_whl (c := c) (b := b) (I := I) (m := m) (n := n) (j := j + 1) (ρ := ρ') (by omega) h4 (fun i ρ hi => s i ρ (by omega)) (by rw [show j + 1 + m = j + (m + 1) by omega]; exact e)
    rw [show j + 1 + m = j + (m + 1) by omega] at r
    rw [whlL, h1, W00]
    simp only [if_true]
    rw [h2, W00]
    rcases h3 with rfl | rfl <;> exact r
end MP
set_option linter.all false
set_option maxRecDepth 100000
set_option maxHeartbeats 2000000
/-! SO: what the defs of outcomes compute. -/
namespace MP
/-- the stretches of so long a row, shorter ones first -/
def spL (m : Nat) : List (Nat × Nat) := (List.range m).flatMap fun s => (List.range (m - s)).map fun b => (b, b + (s + 1))
theorem spL_mem {m b e : Nat} : (b, e) ∈ spL m ↔ b < e ∧ e ≤ m := by
  unfold spL
  simp only [List.mem_flatMap, List.mem_map, List.mem_range, Prod.mk.injEq]
  constructor
  · rintro ⟨s, hs, x, hx, rfl, rfl⟩
    omega
  · intro h
    exact ⟨e - b - 1, by omega, b, by omega, rfl, by omega⟩
/-- what stands ahead of a stretch: all shorter ones, itself not -/
theorem spL_ahead {m b e : Nat} {p q : List (Nat × Nat)} (h : spL m = p ++ (b, e) :: q) : (b < e ∧ e ≤ m) ∧ (b, e) ∉ p ∧ ∀ x y, x < y → y ≤ m → y - x < e - b → (x, y) ∈ p := by
  have hm : (b, e) ∈ spL m := by rw [h]; simp
  have hb := spL_mem.mp hm
  have hs : (spL m).Pairwise fun u v => u.2 - u.1 < v.2 - v.1 ∨ (u.2 - u.1 = v.2 - v.1 ∧ u.1 < v.1) := by
    unfold spL
    rw [List.pairwise_flatMap]
    constructor
    · intro s hs
      rw [List.pairwise_map]
      refine List.Pairwise.imp (fun {a b} hab => ?_) List.pairwise_lt_range
      right; dsimp only; omega
    · refine List.Pairwise.imp (fun {a b} hab => ?_) List.pairwise_lt_range
      intro x hx y hy
      obtain ⟨i, _, rfl⟩ := List.mem_map.mp hx
      obtain ⟨j, _, rfl⟩ := List.mem_map.mp hy
      left; dsimp only; omega
  rw [h] at hs
  have h3 := List.pairwise_append.mp hs
  refine ⟨hb, fun hp => ?_, fun x y hxy hy hl => ?_⟩
  · have := h3.2.2 _ hp _ (List.mem_cons_self ..)
    omega
  · have hxm : (x, y) ∈ spL m := spL_mem.mpr ⟨hxy, hy⟩
    rw [h] at hxm
    rcases List.mem_append.mp hxm with z | z
    · exact z
    · rcases List.mem_cons.mp z with z | z
      · cases z; omega
      · have := (List.pairwise_cons.mp h3.2.1).1 _ z
        dsimp only at this
        omega
theorem spL_len (m : Nat) (h : m ≤ 1000) : (spL m).length ≤ 1000000 := by
  unfold spL
  rw [List.length_flatMap]
  have : ∀ l : List Nat, (∀ s ∈ l, s < m) → (l.map fun s => ((List.range (m - s)).map fun b => (b, b + (s + 1))).length).sum ≤ l.length * 1000 := fun l => by
    induction l with
    | nil => simp
    | cons a l ih =>
      intro hl
      have := ih fun s hs => hl s (by simp [hs])
      rw [List.map_cons, List.sum_cons, List.length_cons, List.length_map, List.length_range]
      omega
  have := this (List.range m) fun s hs => List.mem_range.mp hs
  rw [List.length_range] at this
  omega
section
variable {T : Nat → Option Fun}
theorem s_spans_in [h : H_spans_in T] {k : Nat} (r : List Nat) (hr : r.length ≤ 1000) : run T (k + 1) i_spans_in [.tup (ns r)] = ret (.lst ((spL r.length).map prD)) := by
  have hl := spL_len r.length hr
  rw [run_b h.q_spans_in rfl]
  unfold F_spans_in
  have e : (flatR (r.length + 1 - (0 + 1)) fun a => mapR (r.length - (0 + 1 + a) + 1) fun (a_1 : Nat) => D.tup [D.int (a_1 : Int), D.int (((a_1 + (0 + 1 + a) : Nat)) : Int)]) = (spL r.length).map prD := by
    unfold flatR mapR spL
    rw [List.map_flatMap, show r.length + 1 - (0 + 1) = r.length by omega]
    have : ∀ l : List Nat, (∀ a ∈ l, a < r.length) → (l.flatMap fun a => (List.range (r.length - (0 + 1 + a) + 1)).map fun (a_1 : Nat) => D.tup [D.int (a_1 : Int), D.int (((a_1 + (0 + 1 + a) : Nat)) : Int)]) = l.flatMap fun s => ((List.range (r.length - s)).map fun b => (b, b + (s + 1))).map prD := fun l => by
      induction l with
      | nil => intro _; rfl
      | cons a l ih =>
        intro hl
        have ha := hl a (by simp)
        rw [List.flatMap_cons, List.flatMap_cons, ih fun x hx => hl x (by simp [hx]), List.map_map, show r.length - (0 + 1 + a) + 1 = r.length - a by omega]
        congr 1
        refine List.map_congr_left fun x _ => ?_
        show D.tup [D.int (x : Int), D.int ((x + (0 + 1 + a) : Nat) : Int)] = D.tup [D.int (x : Int), D.int ((x + (a + 1) : Nat) : Int)]
        rw [show 0 + 1 + a = a + 1 by omega]
    exact this _ fun a ha => List.mem_range.mp ha
  simp (disch := first | (with_reducible rfl) | assumption | omega) only [W00,W01,W02,W03,W04,W05,W06,W07,W08,W09,W0a,W0b,W0c,W0d,W0e,W0f,W0g,W0h,W0i,W0j,W0k,W0l,W0m,W0n,W0o,W0p,W0q,W0r,W0s,W0t,W0u,W0v,W0w,W0x,W0y,W0z,W10,W11,W12,W13,W14,W15,W16,W17,W18,W19,W1a,W1b,W1c,W1d,W1e,W1f,W1g,W1h,W1i,W1j,W1k,W1l,W1m,W1n,W1o,W1p,W1q,W1r,W1s,W1t,W1u,W1v,W1w,W1x,W1y,W1z,W20,W21,W22,W23,W24,W25,W26,W27,W28,W29,W2a,W2b,W2c,W2d,W2e,W2f,W2g,W2h,W2i,W2j,W2k,W2l,W2m,W2n,W2o,W2p,W2q,W2r,W2s,W2t,W2u,W2v,W2w,W2x,W2y,W2z,W30,W31,W32,W33,W34,W35,W36,W37,W38,W39,W3a,W3b,W3c,W3d,W3e,W3f,W3g,W3h,W3i,W3j,W3k,W3l,W3m,W3n,W3o,W3p,W3q,W3r,W3s,W3t,W3u,W3v,W3w,W3x,W3y,W3z,W40,W41,W42,W43,W44,W45,W46,W47,W48,W49,W4a,W4b,W4c,W4d,W4e,W4f,W4g,W4h,W4i,W4j,W4k,W4l,W4m,W4n,W4o,W4p,W4q,W4r,W4s,W4t,W4u,W4v,W4w,W4x,W4y,W4z,W50,W51,W52,W53,W54,W55,W56,W57,W58,W59,W5a,W5b,W5c,W5d,W5e,W5f,W5g,W5h,W5i,W5j,W5k,W5l,W5m,W5n,W5o,W5p,W5q,W5r,W5s,W5t,W5u,W5v,W5w,W5x,W5y,W5z,W60,W61,W62,W63,W64,W65,W66,W67,W68,W69,W6a,W6b,W6c,W6d,W6e,W6f,W6g,W6h,W6i,W6j,W6k,W6l,W6m,W6n,W6o,W6p,W6q,W6r,W6s,W6t,W6u,W6v,W6w,W6x,W6y,W6z,W70,W71,W72,W73,W74,W75,W76,W77,W78,W79,W7a,W7b,W7c,W7d,W7e,W7f,W7g,W7h,W7i,W7j,W7k,W7l,W7m,W7n,W7o,W7p,W7q,W7r,W7s,W7t,W7u,W7v,W7w,W7x,W7y,W7z,W80,W81,W82,W83,W84,W85,W86,W87,W88,W89,W8a,W8b,W8c,W8d,W8e,W8f,W8g,W8h,W8i,W8j,W8k,W8l,W8m,W8n,Nat.reduceSub, e]
/-- a stretch of a row -/
def slc (r : List Nat) (b e : Nat) : List Nat := (r.drop b).take (e - b)
theorem slc_len {r : List Nat} {b e : Nat} (h : e ≤ r.length) : (slc r b e).length = e - b := by
  unfold slc; rw [List.length_take, List.length_drop]; omega
theorem slc_take {r : List Nat} {b e i : Nat} (h : b + 1 + i ≤ e) : (slc r b e).take (i + 1) = slc r b (b + 1 + i) := by
  unfold slc
  rw [List.take_take, show min (i + 1) (e - b) = b + 1 + i - b by omega]
theorem slc_drop {r : List Nat} {b e i : Nat} (h : b + 1 + i ≤ e) : (slc r b e).drop (i + 1) = slc r (b + 1 + i) e := by
  unfold slc
  rw [List.drop_take, List.drop_drop, show e - b - (i + 1) = e - (b + 1 + i) by omega, show b + (i + 1) = b + 1 + i by omega]
theorem slc_under {n : Nat} {r : List Nat} {b e : Nat} (h : Below n r) : Below n (slc r b e) := fun v hv => h v (List.mem_of_mem_drop (List.mem_of_mem_take hv))
theorem slc_all (r : List Nat) : slc r 0 r.length = r := by unfold slc; simp
/-- the counts of a stretch -/
def wyV (n : Nat) (g : Nat → Nat → Nat) (r : List Nat) (p : Nat × Nat) : D := .lst (ns (mapR n fun t => ws g 9 (slc r p.1 p.2) t))
theorem ws_small {g : Nat → Nat → Nat} {r : List Nat} (h : r.length ≤ 10) (t : Nat) : ws g 9 r t ≤ 4862 := Nat.le_trans (ws_le g 9 r t) (cat_small _ h)
/-- what one parting of a stretch brings -/
def part (n : Nat) (g : Nat → Nat → Nat) (r : List Nat) (b m e t : Nat) : Nat := sumR n fun p => sumR n fun q => if g p q = t then ws g 9 (slc r b m) p * ws g 9 (slc r m e) q else 0
theorem ws_parts {n : Nat} {g : Nat → Nat → Nat} {r : List Nat} {b e t : Nat} (v : Valid n g) (hb : b + 2 ≤ e) (he : e ≤ r.length) (h10 : e - b ≤ 10) (hr : Below n r) : ws g 9 (slc r b e) t = sumR (e - (b + 1)) fun i => part n g r b (b + 1 + i) e t := by
  have hl := slc_len (b := b) he
  rw [ws_step (f := 8) v (by omega) (by omega) (slc_under hr), hl, show e - b - 1 = e - (b + 1) by omega]
  refine sumR_congr fun i hi => ?_
  unfold part
  refine sumR_congr fun p _ => sumR_congr fun q _ => ?_
  rw [slc_take (by omega), slc_drop (by omega)]
  have l1 := slc_len (r := r) (b := b) (e := b + 1 + i) (by omega)
  have l2 := slc_len (r := r) (b := b + 1 + i) (e := e) he
  rw [ws_fuel (f := 8) (f' := 9) (by omega) (by omega) (by omega), ws_fuel (f := 8) (f' := 9) (by omega) (by omega) (by omega)]
theorem s_ways_in [h : H_ways_in T] {k n : Nat} {g : Nat → Nat → Nat} {r : List Nat} (tb : Tb n g) (hr : Ro n r) : run T (k + 2) i_ways_in [tabD n g, .tup (ns r)] = ret (dicM prD (wyV n g r) (spL r.length)) := by
  have h1 := hr.h1
  have h2 := hr.h2
  have n5 := tb.h5
  have hl := spL_len r.length (by omega)
  rw [run_b h.q_ways_in rfl]
  unfold F_ways_in
  simp (disch := first | (with_reducible rfl) | assumption | omega) only [W00,W01,W02,W03,W04,W05,W06,W07,W08,W09,W0a,W0b,W0c,W0d,W0e,W0f,W0g,W0h,W0i,W0j,W0k,W0l,W0m,W0n,W0o,W0p,W0q,W0r,W0s,W0t,W0u,W0v,W0w,W0x,W0y,W0z,W10,W11,W12,W13,W14,W15,W16,W17,W18,W19,W1a,W1b,W1c,W1d,W1e,W1f,W1g,W1h,W1i,W1j,W1k,W1l,W1m,W1n,W1o,W1p,W1q,W1r,W1s,W1t,W1u,W1v,W1w,W1x,W1y,W1z,W20,W21,W22,W23,W24,W25,W26,W27,W28,W29,W2a,W2b,W2c,W2d,W2e,W2f,W2g,W2h,W2i,W2j,W2k,W2l,W2m,W2n,W2o,W2p,W2q,W2r,W2s,W2t,W2u,W2v,W2w,W2x,W2y,W2z,W30,W31,W32,W33,W34,W35,W36,W37,W38,W39,W3a,W3b,W3c,W3d,W3e,W3f,W3g,W3h,W3i,W3j,W3k,W3l,W3m,W3n,W3o,W3p,W3q,W3r,W3s,W3t,W3u,W3v,W3w,W3x,W3y,W3z,W40,W41,W42,W43,W44,W45,W46,W47,W48,W49,W4a,W4b,W4c,W4d,W4e,W4f,W4g,W4h,W4i,W4j,W4k,W4l,W4m,W4n,W4o,W4p,W4q,W4r,W4s,W4t,W4u,W4v,W4w,W4x,W4y,W4z,W50,W51,W52,W53,W54,W55,W56,W57,W58,W59,W5a,W5b,W5c,W5d,W5e,W5f,W5g,W5h,W5i,W5j,W5k,W5l,W5m,W5n,W5o,W5p,W5q,W5r,W5s,W5t,W5u,W5v,W5w,W5x,W5y,W5z,W60,W61,W62,W63,W64,W65,W66,W67,W68,W69,W6a,W6b,W6c,W6d,W6e,W6f,W6g,W6h,W6i,W6j,W6k,W6l,W6m,W6n,W6o,W6p,W6q,W6r,W6s,W6t,W6u,W6v,W6w,W6x,W6y,W6z,W70,W71,W72,W73,W74,W75,W76,W77,W78,W79,W7a,W7b,W7c,W7d,W7e,W7f,W7g,W7h,W7i,W7j,W7k,W7l,W7m,W7n,W7o,W7p,W7q,W7r,W7s,W7t,W7u,W7v,W7w,W7x,W7y,W7z,W80,W81,W82,W83,W84,W85,W86,W87,W88,W89,W8a,W8b,W8c,W8d,W8e,W8f,W8g,W8h,W8i,W8j,W8k,W8l,W8m,W8n,Nat.reduceSub, s_spans_in r (by omega)]
  refine Pr.is ?_
  refine Pr.bnd (pr_forP (I := fun p ρ => ∃ y3 y4 y5 y6 y7 y8 y9 y10, ρ = [tabD n g, .tup (ns r), dicM prD (wyV n g r) p, y3, y4, y5, y6, y7, y8, y9, y10]) ⟨_, _, _, _, _, _, _, _, rfl⟩ ?_) ?_
  · rintro p ⟨b, e⟩ q _ hp ⟨y3, y4, y5, y6, y7, y8, y9, y10, rfl⟩
    obtain ⟨hbe, hnew, hold⟩ := spL_ahead hp
    have hrb : r[b]? = some r[b] := List.getElem?_eq_getElem (by omega)
    have hvb : r[b] < n := hr.b _ (List.getElem_mem _)
    rw [show prD (b, e) = .tup [.int (b : Int), .int (e : Int)] from rfl]
    simp (disch := first | (with_reducible rfl) | assumption | omega) only [W00,W01,W02,W03,W04,W05,W06,W07,W08,W09,W0a,W0b,W0c,W0d,W0e,W0f,W0g,W0h,W0i,W0j,W0k,W0l,W0m,W0n,W0o,W0p,W0q,W0r,W0s,W0t,W0u,W0v,W0w,W0x,W0y,W0z,W10,W11,W12,W13,W14,W15,W16,W17,W18,W19,W1a,W1b,W1c,W1d,W1e,W1f,W1g,W1h,W1i,W1j,W1k,W1l,W1m,W1n,W1o,W1p,W1q,W1r,W1s,W1t,W1u,W1v,W1w,W1x,W1y,W1z,W20,W21,W22,W23,W24,W25,W26,W27,W28,W29,W2a,W2b,W2c,W2d,W2e,W2f,W2g,W2h,W2i,W2j,W2k,W2l,W2m,W2n,W2o,W2p,W2q,W2r,W2s,W2t,W2u,W2v,W2w,W2x,W2y,W2z,W30,W31,W32,W33,W34,W35,W36,W37,W38,W39,W3a,W3b,W3c,W3d,W3e,W3f,W3g,W3h,W3i,W3j,W3k,W3l,W3m,W3n,W3o,W3p,W3q,W3r,W3s,W3t,W3u,W3v,W3w,W3x,W3y,W3z,W40,W41,W42,W43,W44,W45,W46,W47,W48,W49,W4a,W4b,W4c,W4d,W4e,W4f,W4g,W4h,W4i,W4j,W4k,W4l,W4m,W4n,W4o,W4p,W4q,W4r,W4s,W4t,W4u,W4v,W4w,W4x,W4y,W4z,W50,W51,W52,W53,W54,W55,W56,W57,W58,W59,W5a,W5b,W5c,W5d,W5e,W5f,W5g,W5h,W5i,W5j,W5k,W5l,W5m,W5n,W5o,W5p,W5q,W5r,W5s,W5t,W5u,W5v,W5w,W5x,W5y,W5z,W60,W61,W62,W63,W64,W65,W66,W67,W68,W69,W6a,W6b,W6c,W6d,W6e,W6f,W6g,W6h,W6i,W6j,W6k,W6l,W6m,W6n,W6o,W6p,W6q,W6r,W6s,W6t,W6u,W6v,W6w,W6x,W6y,W6z,W70,W71,W72,W73,W74,W75,W76,W77,W78,W79,W7a,W7b,W7c,W7d,W7e,W7f,W7g,W7h,W7i,W7j,W7k,W7l,W7m,W7n,W7o,W7p,W7q,W7r,W7s,W7t,W7u,W7v,W7w,W7x,W7y,W7z,W80,W81,W82,W83,W84,W85,W86,W87,W88,W89,W8a,W8b,W8c,W8d,W8e,W8f,W8g,W8h,W8i,W8j,W8k,W8l,W8m,W8n,Nat.reduceSub, hrb]
    have hpl : p.length < 16777216 := by
      have := congrArg List.length hp
      rw [List.length_append] at this
      omega
    have hsl := slc_len (r := r) (b := b) (e := e) hbe.2
    by_cases e1 : e - b = 1
    · have hs : slc r b e = [r[b]] := by
        unfold slc
        rw [e1, List.take_one, List.head?_drop, hrb]; rfl
      rw [decide_eq_true e1, W3v, show e - (b + 1) = 0 by omega, show ns (mapR 0 (HAdd.hAdd (b + 1))) = [] from rfl, forL]
      have hset := set_pr (V := wyV n g r) (d := .lst (ns (mapR n fun k => if k = r[b] then 1 else 0))) hnew hpl (by
        unfold wyV
        rw [hs]
        congr 2
        refine mapR_congr fun t _ => ?_
        rw [ws_one]
        by_cases z : t = r[b]
        · rw [if_pos z, if_pos z.symm]
        · rw [if_neg z, if_neg fun y => z y.symm])
      simp (disch := first | (with_reducible rfl) | assumption | omega) only [W00,W01,W02,W03,W04,W05,W06,W07,W08,W09,W0a,W0b,W0c,W0d,W0e,W0f,W0g,W0h,W0i,W0j,W0k,W0l,W0m,W0n,W0o,W0p,W0q,W0r,W0s,W0t,W0u,W0v,W0w,W0x,W0y,W0z,W10,W11,W12,W13,W14,W15,W16,W17,W18,W19,W1a,W1b,W1c,W1d,W1e,W1f,W1g,W1h,W1i,W1j,W1k,W1l,W1m,W1n,W1o,W1p,W1q,W1r,W1s,W1t,W1u,W1v,W1w,W1x,W1y,W1z,W20,W21,W22,W23,W24,W25,W26,W27,W28,W29,W2a,W2b,W2c,W2d,W2e,W2f,W2g,W2h,W2i,W2j,W2k,W2l,W2m,W2n,W2o,W2p,W2q,W2r,W2s,W2t,W2u,W2v,W2w,W2x,W2y,W2z,W30,W31,W32,W33,W34,W35,W36,W37,W38,W39,W3a,W3b,W3c,W3d,W3e,W3f,W3g,W3h,W3i,W3j,W3k,W3l,W3m,W3n,W3o,W3p,W3q,W3r,W3s,W3t,W3u,W3v,W3w,W3x,W3y,W3z,W40,W41,W42,W43,W44,W45,W46,W47,W48,W49,W4a,W4b,W4c,W4d,W4e,W4f,W4g,W4h,W4i,W4j,W4k,W4l,W4m,W4n,W4o,W4p,W4q,W4r,W4s,W4t,W4u,W4v,W4w,W4x,W4y,W4z,W50,W51,W52,W53,W54,W55,W56,W57,W58,W59,W5a,W5b,W5c,W5d,W5e,W5f,W5g,W5h,W5i,W5j,W5k,W5l,W5m,W5n,W5o,W5p,W5q,W5r,W5s,W5t,W5u,W5v,W5w,W5x,W5y,W5z,W60,W61,W62,W63,W64,W65,W66,W67,W68,W69,W6a,W6b,W6c,W6d,W6e,W6f,W6g,W6h,W6i,W6j,W6k,W6l,W6m,W6n,W6o,W6p,W6q,W6r,W6s,W6t,W6u,W6v,W6w,W6x,W6y,W6z,W70,W71,W72,W73,W74,W75,W76,W77,W78,W79,W7a,W7b,W7c,W7d,W7e,W7f,W7g,W7h,W7i,W7j,W7k,W7l,W7m,W7n,W7o,W7p,W7q,W7r,W7s,W7t,W7u,W7v,W7w,W7x,W7y,W7z,W80,W81,W82,W83,W84,W85,W86,W87,W88,W89,W8a,W8b,W8c,W8d,W8e,W8f,W8g,W8h,W8i,W8j,W8k,W8l,W8m,W8n,Nat.reduceSub, hset]
      exact Pr.ret ⟨_, .inl rfl, _, _, _, _, _, _, _, _, rfl⟩
    · rw [decide_eq_false e1, W3w, show ns (mapR (e - (b + 1)) (HAdd.hAdd (b + 1))) = mapR (e - (b + 1)) fun i => D.int ((b + 1 + i : Nat) : Int) from (W4y _ _).symm]
      refine Pr.bnd (pr_forR (I := fun i ρ => ∃ y6 y7 y8 y9 y10, ρ = [tabD n g, .tup (ns r), dicM prD (wyV n g r) p, .int (b : Int), .int (e : Int), .lst (ns (mapR n fun t => sumR i fun j => part n g r b (b + 1 + j) e t)), y6, y7, y8, y9, y10]) ⟨_, _, _, _, _, rfl⟩ ?_) ?_
      · clear y6 y7 y8 y9 y10
        rintro i _ hi ⟨y6, y7, y8, y9, y10, rfl⟩
        have q1 : op2M .ix (dicM prD (wyV n g r) p) (.tup [.int (b : Int), .int ((b + 1 + i : Nat) : Int)]) = ret (.lst (ns (mapR n fun t => ws g 9 (slc r b (b + 1 + i)) t))) := ix_pr (V := wyV n g r) (hold b (b + 1 + i) (by omega) (by omega) (by omega))
        have q2 : op2M .ix (dicM prD (wyV n g r) p) (.tup [.int ((b + 1 + i : Nat) : Int), .int (e : Int)]) = ret (.lst (ns (mapR n fun t => ws g 9 (slc r (b + 1 + i) e) t))) := ix_pr (V := wyV n g r) (hold (b + 1 + i) e (by omega) (by omega) (by omega))
        simp (disch := first | (with_reducible rfl) | assumption | omega) only [W00,W01,W02,W03,W04,W05,W06,W07,W08,W09,W0a,W0b,W0c,W0d,W0e,W0f,W0g,W0h,W0i,W0j,W0k,W0l,W0m,W0n,W0o,W0p,W0q,W0r,W0s,W0t,W0u,W0v,W0w,W0x,W0y,W0z,W10,W11,W12,W13,W14,W15,W16,W17,W18,W19,W1a,W1b,W1c,W1d,W1e,W1f,W1g,W1h,W1i,W1j,W1k,W1l,W1m,W1n,W1o,W1p,W1q,W1r,W1s,W1t,W1u,W1v,W1w,W1x,W1y,W1z,W20,W21,W22,W23,W24,W25,W26,W27,W28,W29,W2a,W2b,W2c,W2d,W2e,W2f,W2g,W2h,W2i,W2j,W2k,W2l,W2m,W2n,W2o,W2p,W2q,W2r,W2s,W2t,W2u,W2v,W2w,W2x,W2y,W2z,W30,W31,W32,W33,W34,W35,W36,W37,W38,W39,W3a,W3b,W3c,W3d,W3e,W3f,W3g,W3h,W3i,W3j,W3k,W3l,W3m,W3n,W3o,W3p,W3q,W3r,W3s,W3t,W3u,W3v,W3w,W3x,W3y,W3z,W40,W41,W42,W43,W44,W45,W46,W47,W48,W49,W4a,W4b,W4c,W4d,W4e,W4f,W4g,W4h,W4i,W4j,W4k,W4l,W4m,W4n,W4o,W4p,W4q,W4r,W4s,W4t,W4u,W4v,W4w,W4x,W4y,W4z,W50,W51,W52,W53,W54,W55,W56,W57,W58,W59,W5a,W5b,W5c,W5d,W5e,W5f,W5g,W5h,W5i,W5j,W5k,W5l,W5m,W5n,W5o,W5p,W5q,W5r,W5s,W5t,W5u,W5v,W5w,W5x,W5y,W5z,W60,W61,W62,W63,W64,W65,W66,W67,W68,W69,W6a,W6b,W6c,W6d,W6e,W6f,W6g,W6h,W6i,W6j,W6k,W6l,W6m,W6n,W6o,W6p,W6q,W6r,W6s,W6t,W6u,W6v,W6w,W6x,W6y,W6z,W70,W71,W72,W73,W74,W75,W76,W77,W78,W79,W7a,W7b,W7c,W7d,W7e,W7f,W7g,W7h,W7i,W7j,W7k,W7l,W7m,W7n,W7o,W7p,W7q,W7r,W7s,W7t,W7u,W7v,W7w,W7x,W7y,W7z,W80,W81,W82,W83,W84,W85,W86,W87,W88,W89,W8a,W8b,W8c,W8d,W8e,W8f,W8g,W8h,W8i,W8j,W8k,W8l,W8m,W8n,Nat.reduceSub, q1]
        refine Pr.bnd (pr_forR (I := fun x ρ => ∃ y7 y8 y9 y10, ρ = [tabD n g, .tup (ns r), dicM prD (wyV n g r) p, .int (b : Int), .int (e : Int), .lst (ns (mapR n fun t => (sumR i fun j => part n g r b (b + 1 + j) e t) + sumR x fun p => sumR n fun q => if g p q = t then ws g 9 (slc r b (b + 1 + i)) p * ws g 9 (slc r (b + 1 + i) e) q else 0)), .int ((b + 1 + i : Nat) : Int), y7, y8, y9, y10]) ⟨_, _, _, _, rfl⟩ ?_) ?_
        · clear y7 y8 y9 y10
          rintro x _ hx ⟨y7, y8, y9, y10, rfl⟩
          simp (disch := first | (with_reducible rfl) | assumption | omega) only [W00,W01,W02,W03,W04,W05,W06,W07,W08,W09,W0a,W0b,W0c,W0d,W0e,W0f,W0g,W0h,W0i,W0j,W0k,W0l,W0m,W0n,W0o,W0p,W0q,W0r,W0s,W0t,W0u,W0v,W0w,W0x,W0y,W0z,W10,W11,W12,W13,W14,W15,W16,W17,W18,W19,W1a,W1b,W1c,W1d,W1e,W1f,W1g,W1h,W1i,W1j,W1k,W1l,W1m,W1n,W1o,W1p,W1q,W1r,W1s,W1t,W1u,W1v,W1w,W1x,W1y,W1z,W20,W21,W22,W23,W24,W25,W26,W27,W28,W29,W2a,W2b,W2c,W2d,W2e,W2f,W2g,W2h,W2i,W2j,W2k,W2l,W2m,W2n,W2o,W2p,W2q,W2r,W2s,W2t,W2u,W2v,W2w,W2x,W2y,W2z,W30,W31,W32,W33,W34,W35,W36,W37,W38,W39,W3a,W3b,W3c,W3d,W3e,W3f,W3g,W3h,W3i,W3j,W3k,W3l,W3m,W3n,W3o,W3p,W3q,W3r,W3s,W3t,W3u,W3v,W3w,W3x,W3y,W3z,W40,W41,W42,W43,W44,W45,W46,W47,W48,W49,W4a,W4b,W4c,W4d,W4e,W4f,W4g,W4h,W4i,W4j,W4k,W4l,W4m,W4n,W4o,W4p,W4q,W4r,W4s,W4t,W4u,W4v,W4w,W4x,W4y,W4z,W50,W51,W52,W53,W54,W55,W56,W57,W58,W59,W5a,W5b,W5c,W5d,W5e,W5f,W5g,W5h,W5i,W5j,W5k,W5l,W5m,W5n,W5o,W5p,W5q,W5r,W5s,W5t,W5u,W5v,W5w,W5x,W5y,W5z,W60,W61,W62,W63,W64,W65,W66,W67,W68,W69,W6a,W6b,W6c,W6d,W6e,W6f,W6g,W6h,W6i,W6j,W6k,W6l,W6m,W6n,W6o,W6p,W6q,W6r,W6s,W6t,W6u,W6v,W6w,W6x,W6y,W6z,W70,W71,W72,W73,W74,W75,W76,W77,W78,W79,W7a,W7b,W7c,W7d,W7e,W7f,W7g,W7h,W7i,W7j,W7k,W7l,W7m,W7n,W7o,W7p,W7q,W7r,W7s,W7t,W7u,W7v,W7w,W7x,W7y,W7z,W80,W81,W82,W83,W84,W85,W86,W87,W88,W89,W8a,W8b,W8c,W8d,W8e,W8f,W8g,W8h,W8i,W8j,W8k,W8l,W8m,W8n,Nat.reduceSub, q2]
          refine Pr.bnd (pr_forR (I := fun y ρ => ∃ y9 y10, ρ = [tabD n g, .tup (ns r), dicM prD (wyV n g r) p, .int (b : Int), .int (e : Int), .lst (ns (mapR n fun t => (sumR i fun j => part n g r b (b + 1 + j) e t) + (sumR x fun p => sumR n fun q => if g p q = t then ws g 9 (slc r b (b + 1 + i)) p * ws g 9 (slc r (b + 1 + i) e) q else 0) + sumR y fun q => if g x q = t then ws g 9 (slc r b (b + 1 + i)) x * ws g 9 (slc r (b + 1 + i) e) q else 0)), .int ((b + 1 + i : Nat) : Int), .int (x : Int), .int (ws g 9 (slc r b (b + 1 + i)) x : Int), y9, y10]) ⟨_, _, rfl⟩ ?_) ?_
          · clear y9 y10
            rintro y _ hy ⟨y9, y10, rfl⟩
            have hg : g x y < n := tb.v.lt hx hy
            have w1 := ws_small (g := g) (r := slc r b (b + 1 + i)) (by rw [slc_len (by omega)]; omega) x
            simp (disch := first | (with_reducible rfl) | assumption | omega) only [W00,W01,W02,W03,W04,W05,W06,W07,W08,W09,W0a,W0b,W0c,W0d,W0e,W0f,W0g,W0h,W0i,W0j,W0k,W0l,W0m,W0n,W0o,W0p,W0q,W0r,W0s,W0t,W0u,W0v,W0w,W0x,W0y,W0z,W10,W11,W12,W13,W14,W15,W16,W17,W18,W19,W1a,W1b,W1c,W1d,W1e,W1f,W1g,W1h,W1i,W1j,W1k,W1l,W1m,W1n,W1o,W1p,W1q,W1r,W1s,W1t,W1u,W1v,W1w,W1x,W1y,W1z,W20,W21,W22,W23,W24,W25,W26,W27,W28,W29,W2a,W2b,W2c,W2d,W2e,W2f,W2g,W2h,W2i,W2j,W2k,W2l,W2m,W2n,W2o,W2p,W2q,W2r,W2s,W2t,W2u,W2v,W2w,W2x,W2y,W2z,W30,W31,W32,W33,W34,W35,W36,W37,W38,W39,W3a,W3b,W3c,W3d,W3e,W3f,W3g,W3h,W3i,W3j,W3k,W3l,W3m,W3n,W3o,W3p,W3q,W3r,W3s,W3t,W3u,W3v,W3w,W3x,W3y,W3z,W40,W41,W42,W43,W44,W45,W46,W47,W48,W49,W4a,W4b,W4c,W4d,W4e,W4f,W4g,W4h,W4i,W4j,W4k,W4l,W4m,W4n,W4o,W4p,W4q,W4r,W4s,W4t,W4u,W4v,W4w,W4x,W4y,W4z,W50,W51,W52,W53,W54,W55,W56,W57,W58,W59,W5a,W5b,W5c,W5d,W5e,W5f,W5g,W5h,W5i,W5j,W5k,W5l,W5m,W5n,W5o,W5p,W5q,W5r,W5s,W5t,W5u,W5v,W5w,W5x,W5y,W5z,W60,W61,W62,W63,W64,W65,W66,W67,W68,W69,W6a,W6b,W6c,W6d,W6e,W6f,W6g,W6h,W6i,W6j,W6k,W6l,W6m,W6n,W6o,W6p,W6q,W6r,W6s,W6t,W6u,W6v,W6w,W6x,W6y,W6z,W70,W71,W72,W73,W74,W75,W76,W77,W78,W79,W7a,W7b,W7c,W7d,W7e,W7f,W7g,W7h,W7i,W7j,W7k,W7l,W7m,W7n,W7o,W7p,W7q,W7r,W7s,W7t,W7u,W7v,W7w,W7x,W7y,W7z,W80,W81,W82,W83,W84,W85,W86,W87,W88,W89,W8a,W8b,W8c,W8d,W8e,W8f,W8g,W8h,W8i,W8j,W8k,W8l,W8m,W8n,Nat.reduceSub]
            refine Pr.ret ⟨_, .inl rfl, .int (y : Int), .int (ws g 9 (slc r (b + 1 + i) e) y : Int), ?_⟩
            congr 8
            refine mapR_congr fun t _ => ?_
            rw [sumR_s]
            by_cases z : t = g x y
            · subst z; simp; omega
            · rw [if_neg z, if_neg fun y => z y.symm]; rfl
          · rintro f ⟨ρ, rfl, y9, y10, rfl⟩
            simp (disch := first | (with_reducible rfl) | assumption | omega) only [W00,W01,W02,W03,W04,W05,W06,W07,W08,W09,W0a,W0b,W0c,W0d,W0e,W0f,W0g,W0h,W0i,W0j,W0k,W0l,W0m,W0n,W0o,W0p,W0q,W0r,W0s,W0t,W0u,W0v,W0w,W0x,W0y,W0z,W10,W11,W12,W13,W14,W15,W16,W17,W18,W19,W1a,W1b,W1c,W1d,W1e,W1f,W1g,W1h,W1i,W1j,W1k,W1l,W1m,W1n,W1o,W1p,W1q,W1r,W1s,W1t,W1u,W1v,W1w,W1x,W1y,W1z,W20,W21,W22,W23,W24,W25,W26,W27,W28,W29,W2a,W2b,W2c,W2d,W2e,W2f,W2g,W2h,W2i,W2j,W2k,W2l,W2m,W2n,W2o,W2p,W2q,W2r,W2s,W2t,W2u,W2v,W2w,W2x,W2y,W2z,W30,W31,W32,W33,W34,W35,W36,W37,W38,W39,W3a,W3b,W3c,W3d,W3e,W3f,W3g,W3h,W3i,W3j,W3k,W3l,W3m,W3n,W3o,W3p,W3q,W3r,W3s,W3t,W3u,W3v,W3w,W3x,W3y,W3z,W40,W41,W42,W43,W44,W45,W46,W47,W48,W49,W4a,W4b,W4c,W4d,W4e,W4f,W4g,W4h,W4i,W4j,W4k,W4l,W4m,W4n,W4o,W4p,W4q,W4r,W4s,W4t,W4u,W4v,W4w,W4x,W4y,W4z,W50,W51,W52,W53,W54,W55,W56,W57,W58,W59,W5a,W5b,W5c,W5d,W5e,W5f,W5g,W5h,W5i,W5j,W5k,W5l,W5m,W5n,W5o,W5p,W5q,W5r,W5s,W5t,W5u,W5v,W5w,W5x,W5y,W5z,W60,W61,W62,W63,W64,W65,W66,W67,W68,W69,W6a,W6b,W6c,W6d,W6e,W6f,W6g,W6h,W6i,W6j,W6k,W6l,W6m,W6n,W6o,W6p,W6q,W6r,W6s,W6t,W6u,W6v,W6w,W6x,W6y,W6z,W70,W71,W72,W73,W74,W75,W76,W77,W78,W79,W7a,W7b,W7c,W7d,W7e,W7f,W7g,W7h,W7i,W7j,W7k,W7l,W7m,W7n,W7o,W7p,W7q,W7r,W7s,W7t,W7u,W7v,W7w,W7x,W7y,W7z,W80,W81,W82,W83,W84,W85,W86,W87,W88,W89,W8a,W8b,W8c,W8d,W8e,W8f,W8g,W8h,W8i,W8j,W8k,W8l,W8m,W8n,Nat.reduceSub]
            refine Pr.ret ⟨_, .inl rfl, .int (x : Int), .int (ws g 9 (slc r b (b + 1 + i)) x : Int), y9, y10, ?_⟩
            congr 8
            refine mapR_congr fun t _ => ?_
            rw [sumR_s]; omega
        · rintro f ⟨ρ, rfl, y7, y8, y9, y10, rfl⟩
          simp (disch := first | (with_reducible rfl) | assumption | omega) only [W00,W01,W02,W03,W04,W05,W06,W07,W08,W09,W0a,W0b,W0c,W0d,W0e,W0f,W0g,W0h,W0i,W0j,W0k,W0l,W0m,W0n,W0o,W0p,W0q,W0r,W0s,W0t,W0u,W0v,W0w,W0x,W0y,W0z,W10,W11,W12,W13,W14,W15,W16,W17,W18,W19,W1a,W1b,W1c,W1d,W1e,W1f,W1g,W1h,W1i,W1j,W1k,W1l,W1m,W1n,W1o,W1p,W1q,W1r,W1s,W1t,W1u,W1v,W1w,W1x,W1y,W1z,W20,W21,W22,W23,W24,W25,W26,W27,W28,W29,W2a,W2b,W2c,W2d,W2e,W2f,W2g,W2h,W2i,W2j,W2k,W2l,W2m,W2n,W2o,W2p,W2q,W2r,W2s,W2t,W2u,W2v,W2w,W2x,W2y,W2z,W30,W31,W32,W33,W34,W35,W36,W37,W38,W39,W3a,W3b,W3c,W3d,W3e,W3f,W3g,W3h,W3i,W3j,W3k,W3l,W3m,W3n,W3o,W3p,W3q,W3r,W3s,W3t,W3u,W3v,W3w,W3x,W3y,W3z,W40,W41,W42,W43,W44,W45,W46,W47,W48,W49,W4a,W4b,W4c,W4d,W4e,W4f,W4g,W4h,W4i,W4j,W4k,W4l,W4m,W4n,W4o,W4p,W4q,W4r,W4s,W4t,W4u,W4v,W4w,W4x,W4y,W4z,W50,W51,W52,W53,W54,W55,W56,W57,W58,W59,W5a,W5b,W5c,W5d,W5e,W5f,W5g,W5h,W5i,W5j,W5k,W5l,W5m,W5n,W5o,W5p,W5q,W5r,W5s,W5t,W5u,W5v,W5w,W5x,W5y,W5z,W60,W61,W62,W63,W64,W65,W66,W67,W68,W69,W6a,W6b,W6c,W6d,W6e,W6f,W6g,W6h,W6i,W6j,W6k,W6l,W6m,W6n,W6o,W6p,W6q,W6r,W6s,W6t,W6u,W6v,W6w,W6x,W6y,W6z,W70,W71,W72,W73,W74,W75,W76,W77,W78,W79,W7a,W7b,W7c,W7d,W7e,W7f,W7g,W7h,W7i,W7j,W7k,W7l,W7m,W7n,W7o,W7p,W7q,W7r,W7s,W7t,W7u,W7v,W7w,W7x,W7y,W7z,W80,W81,W82,W83,W84,W85,W86,W87,W88,W89,W8a,W8b,W8c,W8d,W8e,W8f,W8g,W8h,W8i,W8j,W8k,W8l,W8m,W8n,Nat.reduceSub]
          refine Pr.ret ⟨_, .inl rfl, .int ((b + 1 + i : Nat) : Int), y7, y8, y9, y10, ?_⟩
          congr 8
          refine mapR_congr fun t _ => ?_
          rw [sumR_s]; rfl
      · rintro f ⟨ρ, rfl, y6, y7, y8, y9, y10, rfl⟩
        have hset := set_pr (V := wyV n g r) (d := .lst (ns (mapR n fun t => sumR (e - (b + 1)) fun j => part n g r b (b + 1 + j) e t))) hnew hpl (by
          unfold wyV
          congr 2
          refine mapR_congr fun t _ => ?_
          exact (ws_parts tb.v (by omega) hbe.2 (by omega) hr.b).symm)
        simp (disch := first | (with_reducible rfl) | assumption | omega) only [W00,W01,W02,W03,W04,W05,W06,W07,W08,W09,W0a,W0b,W0c,W0d,W0e,W0f,W0g,W0h,W0i,W0j,W0k,W0l,W0m,W0n,W0o,W0p,W0q,W0r,W0s,W0t,W0u,W0v,W0w,W0x,W0y,W0z,W10,W11,W12,W13,W14,W15,W16,W17,W18,W19,W1a,W1b,W1c,W1d,W1e,W1f,W1g,W1h,W1i,W1j,W1k,W1l,W1m,W1n,W1o,W1p,W1q,W1r,W1s,W1t,W1u,W1v,W1w,W1x,W1y,W1z,W20,W21,W22,W23,W24,W25,W26,W27,W28,W29,W2a,W2b,W2c,W2d,W2e,W2f,W2g,W2h,W2i,W2j,W2k,W2l,W2m,W2n,W2o,W2p,W2q,W2r,W2s,W2t,W2u,W2v,W2w,W2x,W2y,W2z,W30,W31,W32,W33,W34,W35,W36,W37,W38,W39,W3a,W3b,W3c,W3d,W3e,W3f,W3g,W3h,W3i,W3j,W3k,W3l,W3m,W3n,W3o,W3p,W3q,W3r,W3s,W3t,W3u,W3v,W3w,W3x,W3y,W3z,W40,W41,W42,W43,W44,W45,W46,W47,W48,W49,W4a,W4b,W4c,W4d,W4e,W4f,W4g,W4h,W4i,W4j,W4k,W4l,W4m,W4n,W4o,W4p,W4q,W4r,W4s,W4t,W4u,W4v,W4w,W4x,W4y,W4z,W50,W51,W52,W53,W54,W55,W56,W57,W58,W59,W5a,W5b,W5c,W5d,W5e,W5f,W5g,W5h,W5i,W5j,W5k,W5l,W5m,W5n,W5o,W5p,W5q,W5r,W5s,W5t,W5u,W5v,W5w,W5x,W5y,W5z,W60,W61,W62,W63,W64,W65,W66,W67,W68,W69,W6a,W6b,W6c,W6d,W6e,W6f,W6g,W6h,W6i,W6j,W6k,W6l,W6m,W6n,W6o,W6p,W6q,W6r,W6s,W6t,W6u,W6v,W6w,W6x,W6y,W6z,W70,W71,W72,W73,W74,W75,W76,W77,W78,W79,W7a,W7b,W7c,W7d,W7e,W7f,W7g,W7h,W7i,W7j,W7k,W7l,W7m,W7n,W7o,W7p,W7q,W7r,W7s,W7t,W7u,W7v,W7w,W7x,W7y,W7z,W80,W81,W82,W83,W84,W85,W86,W87,W88,W89,W8a,W8b,W8c,W8d,W8e,W8f,W8g,W8h,W8i,W8j,W8k,W8l,W8m,W8n,Nat.reduceSub, hset]
        exact Pr.ret ⟨_, .inl rfl, _, _, _, _, _, _, _, _, rfl⟩
  · rintro f ⟨ρ, rfl, y3, y4, y5, y6, y7, y8, y9, y10, rfl⟩
    simp (disch := first | (with_reducible rfl) | assumption | omega) only [W00,W01,W02,W03,W04,W05,W06,W07,W08,W09,W0a,W0b,W0c,W0d,W0e,W0f,W0g,W0h,W0i,W0j,W0k,W0l,W0m,W0n,W0o,W0p,W0q,W0r,W0s,W0t,W0u,W0v,W0w,W0x,W0y,W0z,W10,W11,W12,W13,W14,W15,W16,W17,W18,W19,W1a,W1b,W1c,W1d,W1e,W1f,W1g,W1h,W1i,W1j,W1k,W1l,W1m,W1n,W1o,W1p,W1q,W1r,W1s,W1t,W1u,W1v,W1w,W1x,W1y,W1z,W20,W21,W22,W23,W24,W25,W26,W27,W28,W29,W2a,W2b,W2c,W2d,W2e,W2f,W2g,W2h,W2i,W2j,W2k,W2l,W2m,W2n,W2o,W2p,W2q,W2r,W2s,W2t,W2u,W2v,W2w,W2x,W2y,W2z,W30,W31,W32,W33,W34,W35,W36,W37,W38,W39,W3a,W3b,W3c,W3d,W3e,W3f,W3g,W3h,W3i,W3j,W3k,W3l,W3m,W3n,W3o,W3p,W3q,W3r,W3s,W3t,W3u,W3v,W3w,W3x,W3y,W3z,W40,W41,W42,W43,W44,W45,W46,W47,W48,W49,W4a,W4b,W4c,W4d,W4e,W4f,W4g,W4h,W4i,W4j,W4k,W4l,W4m,W4n,W4o,W4p,W4q,W4r,W4s,W4t,W4u,W4v,W4w,W4x,W4y,W4z,W50,W51,W52,W53,W54,W55,W56,W57,W58,W59,W5a,W5b,W5c,W5d,W5e,W5f,W5g,W5h,W5i,W5j,W5k,W5l,W5m,W5n,W5o,W5p,W5q,W5r,W5s,W5t,W5u,W5v,W5w,W5x,W5y,W5z,W60,W61,W62,W63,W64,W65,W66,W67,W68,W69,W6a,W6b,W6c,W6d,W6e,W6f,W6g,W6h,W6i,W6j,W6k,W6l,W6m,W6n,W6o,W6p,W6q,W6r,W6s,W6t,W6u,W6v,W6w,W6x,W6y,W6z,W70,W71,W72,W73,W74,W75,W76,W77,W78,W79,W7a,W7b,W7c,W7d,W7e,W7f,W7g,W7h,W7i,W7j,W7k,W7l,W7m,W7n,W7o,W7p,W7q,W7r,W7s,W7t,W7u,W7v,W7w,W7x,W7y,W7z,W80,W81,W82,W83,W84,W85,W86,W87,W88,W89,W8a,W8b,W8c,W8d,W8e,W8f,W8g,W8h,W8i,W8j,W8k,W8l,W8m,W8n,Nat.reduceSub]
    exact Pr.ret rfl
/-- the outcomes of a row -/
def outL (n : Nat) (g : Nat → Nat → Nat) (r : List Nat) : List Nat := (List.range n).filter fun t => decide (0 < ws g 9 r t)
theorem outL_len (n : Nat) (g : Nat → Nat → Nat) (r : List Nat) : (outL n g r).length ≤ n := by
  have := List.length_filter_le (fun t => decide (0 < ws g 9 r t)) (List.range n)
  rwa [List.length_range] at this
theorem s_ways_all [h : H_ways_in T] {k n : Nat} {g : Nat → Nat → Nat} {r : List Nat} (tb : Tb n g) (hr : Ro n r) : op2M .ix (dicM prD (wyV n g r) (spL r.length)) (.tup [.int ((0 : Nat) : Int), .int (r.length : Int)]) = ret (.lst (ns (mapR n fun t => ws g 9 r t))) := by
  have h1 := hr.h1
  have := ix_pr (V := wyV n g r) (l := spL r.length) (b := 0) (e := r.length) (spL_mem.mpr ⟨by omega, Nat.le_refl _⟩)
  rw [this]
  unfold wyV
  rw [slc_all]
theorem s_outcomes_in [h : H_outcomes_in T] {k n : Nat} {g : Nat → Nat → Nat} {r : List Nat} (tb : Tb n g) (hr : Ro n r) : run T (k + 3) i_outcomes_in [tabD n g, .tup (ns r)] = ret (.lst (ns (outL n g r))) := by
  have n5 := tb.h5
  have ho := outL_len n g r
  rw [run_b h.q_outcomes_in rfl]
  unfold F_outcomes_in
  simp (disch := first | (with_reducible rfl) | assumption | omega) only [W00,W01,W02,W03,W04,W05,W06,W07,W08,W09,W0a,W0b,W0c,W0d,W0e,W0f,W0g,W0h,W0i,W0j,W0k,W0l,W0m,W0n,W0o,W0p,W0q,W0r,W0s,W0t,W0u,W0v,W0w,W0x,W0y,W0z,W10,W11,W12,W13,W14,W15,W16,W17,W18,W19,W1a,W1b,W1c,W1d,W1e,W1f,W1g,W1h,W1i,W1j,W1k,W1l,W1m,W1n,W1o,W1p,W1q,W1r,W1s,W1t,W1u,W1v,W1w,W1x,W1y,W1z,W20,W21,W22,W23,W24,W25,W26,W27,W28,W29,W2a,W2b,W2c,W2d,W2e,W2f,W2g,W2h,W2i,W2j,W2k,W2l,W2m,W2n,W2o,W2p,W2q,W2r,W2s,W2t,W2u,W2v,W2w,W2x,W2y,W2z,W30,W31,W32,W33,W34,W35,W36,W37,W38,W39,W3a,W3b,W3c,W3d,W3e,W3f,W3g,W3h,W3i,W3j,W3k,W3l,W3m,W3n,W3o,W3p,W3q,W3r,W3s,W3t,W3u,W3v,W3w,W3x,W3y,W3z,W40,W41,W42,W43,W44,W45,W46,W47,W48,W49,W4a,W4b,W4c,W4d,W4e,W4f,W4g,W4h,W4i,W4j,W4k,W4l,W4m,W4n,W4o,W4p,W4q,W4r,W4s,W4t,W4u,W4v,W4w,W4x,W4y,W4z,W50,W51,W52,W53,W54,W55,W56,W57,W58,W59,W5a,W5b,W5c,W5d,W5e,W5f,W5g,W5h,W5i,W5j,W5k,W5l,W5m,W5n,W5o,W5p,W5q,W5r,W5s,W5t,W5u,W5v,W5w,W5x,W5y,W5z,W60,W61,W62,W63,W64,W65,W66,W67,W68,W69,W6a,W6b,W6c,W6d,W6e,W6f,W6g,W6h,W6i,W6j,W6k,W6l,W6m,W6n,W6o,W6p,W6q,W6r,W6s,W6t,W6u,W6v,W6w,W6x,W6y,W6z,W70,W71,W72,W73,W74,W75,W76,W77,W78,W79,W7a,W7b,W7c,W7d,W7e,W7f,W7g,W7h,W7i,W7j,W7k,W7l,W7m,W7n,W7o,W7p,W7q,W7r,W7s,W7t,W7u,W7v,W7w,W7x,W7y,W7z,W80,W81,W82,W83,W84,W85,W86,W87,W88,W89,W8a,W8b,W8c,W8d,W8e,W8f,W8g,W8h,W8i,W8j,W8k,W8l,W8m,W8n,Nat.reduceSub, s_ways_in (T := T) (k := k) tb hr, s_ways_all (T := T) (k := k) tb hr, show (List.filter (fun t => decide (0 < ws g 9 r t)) (List.range n)) = outL n g r from rfl]
theorem s_need_both [h : H_need_both__outcomes T] {k n : Nat} {g : Nat → Nat → Nat} {r : List Nat} (tb : Tb n g) (hr : Ro n r) : run T (k + 4) i_need_both__outcomes [tabD n g, .tup (ns r)] = ret .non := by
  rw [run_b h.q_need_both__outcomes rfl]
  unfold F_need_both__outcomes
  simp (disch := first | (with_reducible rfl) | assumption | omega) only [W00,W01,W02,W03,W04,W05,W06,W07,W08,W09,W0a,W0b,W0c,W0d,W0e,W0f,W0g,W0h,W0i,W0j,W0k,W0l,W0m,W0n,W0o,W0p,W0q,W0r,W0s,W0t,W0u,W0v,W0w,W0x,W0y,W0z,W10,W11,W12,W13,W14,W15,W16,W17,W18,W19,W1a,W1b,W1c,W1d,W1e,W1f,W1g,W1h,W1i,W1j,W1k,W1l,W1m,W1n,W1o,W1p,W1q,W1r,W1s,W1t,W1u,W1v,W1w,W1x,W1y,W1z,W20,W21,W22,W23,W24,W25,W26,W27,W28,W29,W2a,W2b,W2c,W2d,W2e,W2f,W2g,W2h,W2i,W2j,W2k,W2l,W2m,W2n,W2o,W2p,W2q,W2r,W2s,W2t,W2u,W2v,W2w,W2x,W2y,W2z,W30,W31,W32,W33,W34,W35,W36,W37,W38,W39,W3a,W3b,W3c,W3d,W3e,W3f,W3g,W3h,W3i,W3j,W3k,W3l,W3m,W3n,W3o,W3p,W3q,W3r,W3s,W3t,W3u,W3v,W3w,W3x,W3y,W3z,W40,W41,W42,W43,W44,W45,W46,W47,W48,W49,W4a,W4b,W4c,W4d,W4e,W4f,W4g,W4h,W4i,W4j,W4k,W4l,W4m,W4n,W4o,W4p,W4q,W4r,W4s,W4t,W4u,W4v,W4w,W4x,W4y,W4z,W50,W51,W52,W53,W54,W55,W56,W57,W58,W59,W5a,W5b,W5c,W5d,W5e,W5f,W5g,W5h,W5i,W5j,W5k,W5l,W5m,W5n,W5o,W5p,W5q,W5r,W5s,W5t,W5u,W5v,W5w,W5x,W5y,W5z,W60,W61,W62,W63,W64,W65,W66,W67,W68,W69,W6a,W6b,W6c,W6d,W6e,W6f,W6g,W6h,W6i,W6j,W6k,W6l,W6m,W6n,W6o,W6p,W6q,W6r,W6s,W6t,W6u,W6v,W6w,W6x,W6y,W6z,W70,W71,W72,W73,W74,W75,W76,W77,W78,W79,W7a,W7b,W7c,W7d,W7e,W7f,W7g,W7h,W7i,W7j,W7k,W7l,W7m,W7n,W7o,W7p,W7q,W7r,W7s,W7t,W7u,W7v,W7w,W7x,W7y,W7z,W80,W81,W82,W83,W84,W85,W86,W87,W88,W89,W8a,W8b,W8c,W8d,W8e,W8f,W8g,W8h,W8i,W8j,W8k,W8l,W8m,W8n,Nat.reduceSub, s_need_table tb, s_need_row tb hr]
theorem s_outcomes [h : H_outcomes T] {k n : Nat} {g : Nat → Nat → Nat} {r : List Nat} (tb : Tb n g) (hr : Ro n r) : run T (k + 5) i_outcomes [tabD n g, .tup (ns r)] = ret (.tup (ns (outL n g r))) := by
  rw [run_b h.q_outcomes rfl]
  unfold F_outcomes
  simp (disch := first | (with_reducible rfl) | assumption | omega) only [W00,W01,W02,W03,W04,W05,W06,W07,W08,W09,W0a,W0b,W0c,W0d,W0e,W0f,W0g,W0h,W0i,W0j,W0k,W0l,W0m,W0n,W0o,W0p,W0q,W0r,W0s,W0t,W0u,W0v,W0w,W0x,W0y,W0z,W10,W11,W12,W13,W14,W15,W16,W17,W18,W19,W1a,W1b,W1c,W1d,W1e,W1f,W1g,W1h,W1i,W1j,W1k,W1l,W1m,W1n,W1o,W1p,W1q,W1r,W1s,W1t,W1u,W1v,W1w,W1x,W1y,W1z,W20,W21,W22,W23,W24,W25,W26,W27,W28,W29,W2a,W2b,W2c,W2d,W2e,W2f,W2g,W2h,W2i,W2j,W2k,W2l,W2m,W2n,W2o,W2p,W2q,W2r,W2s,W2t,W2u,W2v,W2w,W2x,W2y,W2z,W30,W31,W32,W33,W34,W35,W36,W37,W38,W39,W3a,W3b,W3c,W3d,W3e,W3f,W3g,W3h,W3i,W3j,W3k,W3l,W3m,W3n,W3o,W3p,W3q,W3r,W3s,W3t,W3u,W3v,W3w,W3x,W3y,W3z,W40,W41,W42,W43,W44,W45,W46,W47,W48,W49,W4a,W4b,W4c,W4d,W4e,W4f,W4g,W4h,W4i,W4j,W4k,W4l,W4m,W4n,W4o,W4p,W4q,W4r,W4s,W4t,W4u,W4v,W4w,W4x,W4y,W4z,W50,W51,W52,W53,W54,W55,W56,W57,W58,W59,W5a,W5b,W5c,W5d,W5e,W5f,W5g,W5h,W5i,W5j,W5k,W5l,W5m,W5n,W5o,W5p,W5q,W5r,W5s,W5t,W5u,W5v,W5w,W5x,W5y,W5z,W60,W61,W62,W63,W64,W65,W66,W67,W68,W69,W6a,W6b,W6c,W6d,W6e,W6f,W6g,W6h,W6i,W6j,W6k,W6l,W6m,W6n,W6o,W6p,W6q,W6r,W6s,W6t,W6u,W6v,W6w,W6x,W6y,W6z,W70,W71,W72,W73,W74,W75,W76,W77,W78,W79,W7a,W7b,W7c,W7d,W7e,W7f,W7g,W7h,W7i,W7j,W7k,W7l,W7m,W7n,W7o,W7p,W7q,W7r,W7s,W7t,W7u,W7v,W7w,W7x,W7y,W7z,W80,W81,W82,W83,W84,W85,W86,W87,W88,W89,W8a,W8b,W8c,W8d,W8e,W8f,W8g,W8h,W8i,W8j,W8k,W8l,W8m,W8n,Nat.reduceSub, s_need_both tb hr, s_outcomes_in tb hr]
theorem s_ways [h : H_ways T] {k n : Nat} {g : Nat → Nat → Nat} {r : List Nat} (tb : Tb n g) (hr : Ro n r) : run T (k + 5) i_ways [tabD n g, .tup (ns r)] = ret (.tup (ns (mapR n fun t => ws g 9 r t))) := by
  rw [run_b h.q_ways rfl]
  unfold F_ways
  simp (disch := first | (with_reducible rfl) | assumption | omega) only [W00,W01,W02,W03,W04,W05,W06,W07,W08,W09,W0a,W0b,W0c,W0d,W0e,W0f,W0g,W0h,W0i,W0j,W0k,W0l,W0m,W0n,W0o,W0p,W0q,W0r,W0s,W0t,W0u,W0v,W0w,W0x,W0y,W0z,W10,W11,W12,W13,W14,W15,W16,W17,W18,W19,W1a,W1b,W1c,W1d,W1e,W1f,W1g,W1h,W1i,W1j,W1k,W1l,W1m,W1n,W1o,W1p,W1q,W1r,W1s,W1t,W1u,W1v,W1w,W1x,W1y,W1z,W20,W21,W22,W23,W24,W25,W26,W27,W28,W29,W2a,W2b,W2c,W2d,W2e,W2f,W2g,W2h,W2i,W2j,W2k,W2l,W2m,W2n,W2o,W2p,W2q,W2r,W2s,W2t,W2u,W2v,W2w,W2x,W2y,W2z,W30,W31,W32,W33,W34,W35,W36,W37,W38,W39,W3a,W3b,W3c,W3d,W3e,W3f,W3g,W3h,W3i,W3j,W3k,W3l,W3m,W3n,W3o,W3p,W3q,W3r,W3s,W3t,W3u,W3v,W3w,W3x,W3y,W3z,W40,W41,W42,W43,W44,W45,W46,W47,W48,W49,W4a,W4b,W4c,W4d,W4e,W4f,W4g,W4h,W4i,W4j,W4k,W4l,W4m,W4n,W4o,W4p,W4q,W4r,W4s,W4t,W4u,W4v,W4w,W4x,W4y,W4z,W50,W51,W52,W53,W54,W55,W56,W57,W58,W59,W5a,W5b,W5c,W5d,W5e,W5f,W5g,W5h,W5i,W5j,W5k,W5l,W5m,W5n,W5o,W5p,W5q,W5r,W5s,W5t,W5u,W5v,W5w,W5x,W5y,W5z,W60,W61,W62,W63,W64,W65,W66,W67,W68,W69,W6a,W6b,W6c,W6d,W6e,W6f,W6g,W6h,W6i,W6j,W6k,W6l,W6m,W6n,W6o,W6p,W6q,W6r,W6s,W6t,W6u,W6v,W6w,W6x,W6y,W6z,W70,W71,W72,W73,W74,W75,W76,W77,W78,W79,W7a,W7b,W7c,W7d,W7e,W7f,W7g,W7h,W7i,W7j,W7k,W7l,W7m,W7n,W7o,W7p,W7q,W7r,W7s,W7t,W7u,W7v,W7w,W7x,W7y,W7z,W80,W81,W82,W83,W84,W85,W86,W87,W88,W89,W8a,W8b,W8c,W8d,W8e,W8f,W8g,W8h,W8i,W8j,W8k,W8l,W8m,W8n,Nat.reduceSub, s_need_both tb hr, s_ways_in (T := T) (k := k + 2) tb hr, s_ways_all (T := T) (k := k) tb hr]
theorem s_need_three [h : H_need_three__outcomes T] {k n t : Nat} {g : Nat → Nat → Nat} {r : List Nat} (tb : Tb n g) (hr : Ro n r) (ht : t < n) : run T (k + 5) i_need_three__outcomes [tabD n g, .tup (ns r), .int (t : Int)] = ret .non := by
  rw [run_b h.q_need_three__outcomes rfl]
  unfold F_need_three__outcomes
  simp (disch := first | (with_reducible rfl) | assumption | omega) only [W00,W01,W02,W03,W04,W05,W06,W07,W08,W09,W0a,W0b,W0c,W0d,W0e,W0f,W0g,W0h,W0i,W0j,W0k,W0l,W0m,W0n,W0o,W0p,W0q,W0r,W0s,W0t,W0u,W0v,W0w,W0x,W0y,W0z,W10,W11,W12,W13,W14,W15,W16,W17,W18,W19,W1a,W1b,W1c,W1d,W1e,W1f,W1g,W1h,W1i,W1j,W1k,W1l,W1m,W1n,W1o,W1p,W1q,W1r,W1s,W1t,W1u,W1v,W1w,W1x,W1y,W1z,W20,W21,W22,W23,W24,W25,W26,W27,W28,W29,W2a,W2b,W2c,W2d,W2e,W2f,W2g,W2h,W2i,W2j,W2k,W2l,W2m,W2n,W2o,W2p,W2q,W2r,W2s,W2t,W2u,W2v,W2w,W2x,W2y,W2z,W30,W31,W32,W33,W34,W35,W36,W37,W38,W39,W3a,W3b,W3c,W3d,W3e,W3f,W3g,W3h,W3i,W3j,W3k,W3l,W3m,W3n,W3o,W3p,W3q,W3r,W3s,W3t,W3u,W3v,W3w,W3x,W3y,W3z,W40,W41,W42,W43,W44,W45,W46,W47,W48,W49,W4a,W4b,W4c,W4d,W4e,W4f,W4g,W4h,W4i,W4j,W4k,W4l,W4m,W4n,W4o,W4p,W4q,W4r,W4s,W4t,W4u,W4v,W4w,W4x,W4y,W4z,W50,W51,W52,W53,W54,W55,W56,W57,W58,W59,W5a,W5b,W5c,W5d,W5e,W5f,W5g,W5h,W5i,W5j,W5k,W5l,W5m,W5n,W5o,W5p,W5q,W5r,W5s,W5t,W5u,W5v,W5w,W5x,W5y,W5z,W60,W61,W62,W63,W64,W65,W66,W67,W68,W69,W6a,W6b,W6c,W6d,W6e,W6f,W6g,W6h,W6i,W6j,W6k,W6l,W6m,W6n,W6o,W6p,W6q,W6r,W6s,W6t,W6u,W6v,W6w,W6x,W6y,W6z,W70,W71,W72,W73,W74,W75,W76,W77,W78,W79,W7a,W7b,W7c,W7d,W7e,W7f,W7g,W7h,W7i,W7j,W7k,W7l,W7m,W7n,W7o,W7p,W7q,W7r,W7s,W7t,W7u,W7v,W7w,W7x,W7y,W7z,W80,W81,W82,W83,W84,W85,W86,W87,W88,W89,W8a,W8b,W8c,W8d,W8e,W8f,W8g,W8h,W8i,W8j,W8k,W8l,W8m,W8n,Nat.reduceSub, s_need_both tb hr, W6l ht]
theorem s_can_keep [h : H_can_keep T] {k n t : Nat} {g : Nat → Nat → Nat} {r : List Nat} (tb : Tb n g) (hr : Ro n r) (ht : t < n) : run T (k + 6) i_can_keep [tabD n g, .tup (ns r), .int (t : Int)] = ret (.bl (decide (t ∈ outL n g r))) := by
  rw [run_b h.q_can_keep rfl]
  unfold F_can_keep
  simp (disch := first | (with_reducible rfl) | assumption | omega) only [W00,W01,W02,W03,W04,W05,W06,W07,W08,W09,W0a,W0b,W0c,W0d,W0e,W0f,W0g,W0h,W0i,W0j,W0k,W0l,W0m,W0n,W0o,W0p,W0q,W0r,W0s,W0t,W0u,W0v,W0w,W0x,W0y,W0z,W10,W11,W12,W13,W14,W15,W16,W17,W18,W19,W1a,W1b,W1c,W1d,W1e,W1f,W1g,W1h,W1i,W1j,W1k,W1l,W1m,W1n,W1o,W1p,W1q,W1r,W1s,W1t,W1u,W1v,W1w,W1x,W1y,W1z,W20,W21,W22,W23,W24,W25,W26,W27,W28,W29,W2a,W2b,W2c,W2d,W2e,W2f,W2g,W2h,W2i,W2j,W2k,W2l,W2m,W2n,W2o,W2p,W2q,W2r,W2s,W2t,W2u,W2v,W2w,W2x,W2y,W2z,W30,W31,W32,W33,W34,W35,W36,W37,W38,W39,W3a,W3b,W3c,W3d,W3e,W3f,W3g,W3h,W3i,W3j,W3k,W3l,W3m,W3n,W3o,W3p,W3q,W3r,W3s,W3t,W3u,W3v,W3w,W3x,W3y,W3z,W40,W41,W42,W43,W44,W45,W46,W47,W48,W49,W4a,W4b,W4c,W4d,W4e,W4f,W4g,W4h,W4i,W4j,W4k,W4l,W4m,W4n,W4o,W4p,W4q,W4r,W4s,W4t,W4u,W4v,W4w,W4x,W4y,W4z,W50,W51,W52,W53,W54,W55,W56,W57,W58,W59,W5a,W5b,W5c,W5d,W5e,W5f,W5g,W5h,W5i,W5j,W5k,W5l,W5m,W5n,W5o,W5p,W5q,W5r,W5s,W5t,W5u,W5v,W5w,W5x,W5y,W5z,W60,W61,W62,W63,W64,W65,W66,W67,W68,W69,W6a,W6b,W6c,W6d,W6e,W6f,W6g,W6h,W6i,W6j,W6k,W6l,W6m,W6n,W6o,W6p,W6q,W6r,W6s,W6t,W6u,W6v,W6w,W6x,W6y,W6z,W70,W71,W72,W73,W74,W75,W76,W77,W78,W79,W7a,W7b,W7c,W7d,W7e,W7f,W7g,W7h,W7i,W7j,W7k,W7l,W7m,W7n,W7o,W7p,W7q,W7r,W7s,W7t,W7u,W7v,W7w,W7x,W7y,W7z,W80,W81,W82,W83,W84,W85,W86,W87,W88,W89,W8a,W8b,W8c,W8d,W8e,W8f,W8g,W8h,W8i,W8j,W8k,W8l,W8m,W8n,Nat.reduceSub, s_need_three tb hr ht, s_outcomes_in tb hr]
theorem s_always_keeps [h : H_always_keeps T] {k n t : Nat} {g : Nat → Nat → Nat} {r : List Nat} (tb : Tb n g) (hr : Ro n r) (ht : t < n) : run T (k + 6) i_always_keeps [tabD n g, .tup (ns r), .int (t : Int)] = ret (.bl (decide (outL n g r = [t]))) := by
  rw [run_b h.q_always_keeps rfl]
  unfold F_always_keeps
  have : D.lst [D.int (t : Int)] = .lst (ns [t]) := rfl
  simp (disch := first | (with_reducible rfl) | assumption | omega) only [W00,W01,W02,W03,W04,W05,W06,W07,W08,W09,W0a,W0b,W0c,W0d,W0e,W0f,W0g,W0h,W0i,W0j,W0k,W0l,W0m,W0n,W0o,W0p,W0q,W0r,W0s,W0t,W0u,W0v,W0w,W0x,W0y,W0z,W10,W11,W12,W13,W14,W15,W16,W17,W18,W19,W1a,W1b,W1c,W1d,W1e,W1f,W1g,W1h,W1i,W1j,W1k,W1l,W1m,W1n,W1o,W1p,W1q,W1r,W1s,W1t,W1u,W1v,W1w,W1x,W1y,W1z,W20,W21,W22,W23,W24,W25,W26,W27,W28,W29,W2a,W2b,W2c,W2d,W2e,W2f,W2g,W2h,W2i,W2j,W2k,W2l,W2m,W2n,W2o,W2p,W2q,W2r,W2s,W2t,W2u,W2v,W2w,W2x,W2y,W2z,W30,W31,W32,W33,W34,W35,W36,W37,W38,W39,W3a,W3b,W3c,W3d,W3e,W3f,W3g,W3h,W3i,W3j,W3k,W3l,W3m,W3n,W3o,W3p,W3q,W3r,W3s,W3t,W3u,W3v,W3w,W3x,W3y,W3z,W40,W41,W42,W43,W44,W45,W46,W47,W48,W49,W4a,W4b,W4c,W4d,W4e,W4f,W4g,W4h,W4i,W4j,W4k,W4l,W4m,W4n,W4o,W4p,W4q,W4r,W4s,W4t,W4u,W4v,W4w,W4x,W4y,W4z,W50,W51,W52,W53,W54,W55,W56,W57,W58,W59,W5a,W5b,W5c,W5d,W5e,W5f,W5g,W5h,W5i,W5j,W5k,W5l,W5m,W5n,W5o,W5p,W5q,W5r,W5s,W5t,W5u,W5v,W5w,W5x,W5y,W5z,W60,W61,W62,W63,W64,W65,W66,W67,W68,W69,W6a,W6b,W6c,W6d,W6e,W6f,W6g,W6h,W6i,W6j,W6k,W6l,W6m,W6n,W6o,W6p,W6q,W6r,W6s,W6t,W6u,W6v,W6w,W6x,W6y,W6z,W70,W71,W72,W73,W74,W75,W76,W77,W78,W79,W7a,W7b,W7c,W7d,W7e,W7f,W7g,W7h,W7i,W7j,W7k,W7l,W7m,W7n,W7o,W7p,W7q,W7r,W7s,W7t,W7u,W7v,W7w,W7x,W7y,W7z,W80,W81,W82,W83,W84,W85,W86,W87,W88,W89,W8a,W8b,W8c,W8d,W8e,W8f,W8g,W8h,W8i,W8j,W8k,W8l,W8m,W8n,Nat.reduceSub, s_need_three tb hr ht, s_outcomes_in tb hr, this]
/-! the laws' own groupings, all of them -/
theorem grs_split {f : Nat} {r : List Nat} (h : r.length ≠ 1) : grs (f + 1) r = (List.range (r.length - 1)).flatMap fun i => (grs f (r.take (i + 1))).flatMap fun x => (grs f (r.drop (i + 1))).map fun y => .node x y := by rw [grs, if_neg h]
theorem cat_fuel : ∀ f, f ≤ 9 → ∀ n, n ≤ f + 1 → cat f n ≤ 4862 := by decide +kernel
theorem grs_cap {f : Nat} {r : List Nat} (hf : f ≤ 9) (h : r.length ≤ f + 1) : (grs f r).length ≤ 4862 := by
  rw [grs_len]; exact cat_fuel f hf _ h
theorem flat_mono {α : Type} (P : Nat → List α) {i m : Nat} (h : i ≤ m) : ((List.range i).flatMap P).length ≤ ((List.range m).flatMap P).length := by
  induction h with
  | refl => exact Nat.le_refl _
  | step _ ih => rw [List.range_succ, List.flatMap_append, List.length_append]; omega
theorem s_law_groups [h : H__law_groups T] : ∀ {f : Nat} {r : List Nat} {k : Nat}, 1 ≤ r.length → r.length ≤ f + 1 → f ≤ 9 → f < k → run T k i__law_groups [.tup (ns r)] = ret (.lst ((grs f r).map gD))
  | f, r, k + 1, h1, h2, h9, hk => by
    rw [run_b h.q__law_groups rfl]
    unfold F__law_groups
    by_cases e : r.length = 1
    · obtain ⟨a, rfl⟩ := List.length_eq_one_iff.mp e
      simp (disch := first | (with_reducible rfl) | assumption | omega) only [W00,W01,W02,W03,W04,W05,W06,W07,W08,W09,W0a,W0b,W0c,W0d,W0e,W0f,W0g,W0h,W0i,W0j,W0k,W0l,W0m,W0n,W0o,W0p,W0q,W0r,W0s,W0t,W0u,W0v,W0w,W0x,W0y,W0z,W10,W11,W12,W13,W14,W15,W16,W17,W18,W19,W1a,W1b,W1c,W1d,W1e,W1f,W1g,W1h,W1i,W1j,W1k,W1l,W1m,W1n,W1o,W1p,W1q,W1r,W1s,W1t,W1u,W1v,W1w,W1x,W1y,W1z,W20,W21,W22,W23,W24,W25,W26,W27,W28,W29,W2a,W2b,W2c,W2d,W2e,W2f,W2g,W2h,W2i,W2j,W2k,W2l,W2m,W2n,W2o,W2p,W2q,W2r,W2s,W2t,W2u,W2v,W2w,W2x,W2y,W2z,W30,W31,W32,W33,W34,W35,W36,W37,W38,W39,W3a,W3b,W3c,W3d,W3e,W3f,W3g,W3h,W3i,W3j,W3k,W3l,W3m,W3n,W3o,W3p,W3q,W3r,W3s,W3t,W3u,W3v,W3w,W3x,W3y,W3z,W40,W41,W42,W43,W44,W45,W46,W47,W48,W49,W4a,W4b,W4c,W4d,W4e,W4f,W4g,W4h,W4i,W4j,W4k,W4l,W4m,W4n,W4o,W4p,W4q,W4r,W4s,W4t,W4u,W4v,W4w,W4x,W4y,W4z,W50,W51,W52,W53,W54,W55,W56,W57,W58,W59,W5a,W5b,W5c,W5d,W5e,W5f,W5g,W5h,W5i,W5j,W5k,W5l,W5m,W5n,W5o,W5p,W5q,W5r,W5s,W5t,W5u,W5v,W5w,W5x,W5y,W5z,W60,W61,W62,W63,W64,W65,W66,W67,W68,W69,W6a,W6b,W6c,W6d,W6e,W6f,W6g,W6h,W6i,W6j,W6k,W6l,W6m,W6n,W6o,W6p,W6q,W6r,W6s,W6t,W6u,W6v,W6w,W6x,W6y,W6z,W70,W71,W72,W73,W74,W75,W76,W77,W78,W79,W7a,W7b,W7c,W7d,W7e,W7f,W7g,W7h,W7i,W7j,W7k,W7l,W7m,W7n,W7o,W7p,W7q,W7r,W7s,W7t,W7u,W7v,W7w,W7x,W7y,W7z,W80,W81,W82,W83,W84,W85,W86,W87,W88,W89,W8a,W8b,W8c,W8d,W8e,W8f,W8g,W8h,W8i,W8j,W8k,W8l,W8m,W8n,Nat.reduceSub]
      cases f <;> rfl
    · obtain ⟨f, rfl⟩ : ∃ j, f = j + 1 := ⟨f - 1, by omega⟩
      simp (disch := first | (with_reducible rfl) | assumption | omega) only [W00,W01,W02,W03,W04,W05,W06,W07,W08,W09,W0a,W0b,W0c,W0d,W0e,W0f,W0g,W0h,W0i,W0j,W0k,W0l,W0m,W0n,W0o,W0p,W0q,W0r,W0s,W0t,W0u,W0v,W0w,W0x,W0y,W0z,W10,W11,W12,W13,W14,W15,W16,W17,W18,W19,W1a,W1b,W1c,W1d,W1e,W1f,W1g,W1h,W1i,W1j,W1k,W1l,W1m,W1n,W1o,W1p,W1q,W1r,W1s,W1t,W1u,W1v,W1w,W1x,W1y,W1z,W20,W21,W22,W23,W24,W25,W26,W27,W28,W29,W2a,W2b,W2c,W2d,W2e,W2f,W2g,W2h,W2i,W2j,W2k,W2l,W2m,W2n,W2o,W2p,W2q,W2r,W2s,W2t,W2u,W2v,W2w,W2x,W2y,W2z,W30,W31,W32,W33,W34,W35,W36,W37,W38,W39,W3a,W3b,W3c,W3d,W3e,W3f,W3g,W3h,W3i,W3j,W3k,W3l,W3m,W3n,W3o,W3p,W3q,W3r,W3s,W3t,W3u,W3v,W3w,W3x,W3y,W3z,W40,W41,W42,W43,W44,W45,W46,W47,W48,W49,W4a,W4b,W4c,W4d,W4e,W4f,W4g,W4h,W4i,W4j,W4k,W4l,W4m,W4n,W4o,W4p,W4q,W4r,W4s,W4t,W4u,W4v,W4w,W4x,W4y,W4z,W50,W51,W52,W53,W54,W55,W56,W57,W58,W59,W5a,W5b,W5c,W5d,W5e,W5f,W5g,W5h,W5i,W5j,W5k,W5l,W5m,W5n,W5o,W5p,W5q,W5r,W5s,W5t,W5u,W5v,W5w,W5x,W5y,W5z,W60,W61,W62,W63,W64,W65,W66,W67,W68,W69,W6a,W6b,W6c,W6d,W6e,W6f,W6g,W6h,W6i,W6j,W6k,W6l,W6m,W6n,W6o,W6p,W6q,W6r,W6s,W6t,W6u,W6v,W6w,W6x,W6y,W6z,W70,W71,W72,W73,W74,W75,W76,W77,W78,W79,W7a,W7b,W7c,W7d,W7e,W7f,W7g,W7h,W7i,W7j,W7k,W7l,W7m,W7n,W7o,W7p,W7q,W7r,W7s,W7t,W7u,W7v,W7w,W7x,W7y,W7z,W80,W81,W82,W83,W84,W85,W86,W87,W88,W89,W8a,W8b,W8c,W8d,W8e,W8f,W8g,W8h,W8i,W8j,W8k,W8l,W8m,W8n,Nat.reduceSub, decide_eq_false e]
      have hcap := grs_cap (f := f + 1) (r := r) h9 h2
      rw [grs_split e] at hcap ⊢
      generalize hP : (fun i => (grs f (r.take (i + 1))).flatMap fun x => (grs f (r.drop (i + 1))).map fun y => G.node x y) = P at hcap ⊢
      rw [show ns (mapR (r.length - (0 + 1)) (HAdd.hAdd (0 + 1))) = mapR (r.length - (0 + 1)) fun i => D.int ((0 + 1 + i : Nat) : Int) from (W4y _ _).symm]
      refine Pr.is ?_
      refine Pr.bnd (pr_forR (I := fun i ρ => ∃ y2 y3 y4, ρ = [.tup (ns r), .lst (((List.range i).flatMap P).map gD), y2, y3, y4]) ⟨_, _, _, rfl⟩ ?_) ?_
      · rintro i _ hi ⟨y2, y3, y4, rfl⟩
        have e1 := s_law_groups (f := f) (r := r.take (0 + 1 + i)) (k := k) (by simp; omega) (by simp; omega) (by omega) (by omega)
        have e2 := s_law_groups (f := f) (r := r.drop (0 + 1 + i)) (k := k) (by simp; omega) (by simp; omega) (by omega) (by omega)
        have hm := flat_mono P (show i + 1 ≤ r.length - 1 by omega)
        rw [List.range_succ, List.flatMap_append, List.length_append] at hm
        have hPi : P i = (grs f (r.take (0 + 1 + i))).flatMap fun x => (grs f (r.drop (0 + 1 + i))).map fun y => G.node x y := by rw [← hP, show 0 + 1 + i = i + 1 by omega]
        rw [show ([i].flatMap P) = P i by simp, hPi] at hm
        simp (disch := first | (with_reducible rfl) | assumption | omega) only [W00,W01,W02,W03,W04,W05,W06,W07,W08,W09,W0a,W0b,W0c,W0d,W0e,W0f,W0g,W0h,W0i,W0j,W0k,W0l,W0m,W0n,W0o,W0p,W0q,W0r,W0s,W0t,W0u,W0v,W0w,W0x,W0y,W0z,W10,W11,W12,W13,W14,W15,W16,W17,W18,W19,W1a,W1b,W1c,W1d,W1e,W1f,W1g,W1h,W1i,W1j,W1k,W1l,W1m,W1n,W1o,W1p,W1q,W1r,W1s,W1t,W1u,W1v,W1w,W1x,W1y,W1z,W20,W21,W22,W23,W24,W25,W26,W27,W28,W29,W2a,W2b,W2c,W2d,W2e,W2f,W2g,W2h,W2i,W2j,W2k,W2l,W2m,W2n,W2o,W2p,W2q,W2r,W2s,W2t,W2u,W2v,W2w,W2x,W2y,W2z,W30,W31,W32,W33,W34,W35,W36,W37,W38,W39,W3a,W3b,W3c,W3d,W3e,W3f,W3g,W3h,W3i,W3j,W3k,W3l,W3m,W3n,W3o,W3p,W3q,W3r,W3s,W3t,W3u,W3v,W3w,W3x,W3y,W3z,W40,W41,W42,W43,W44,W45,W46,W47,W48,W49,W4a,W4b,W4c,W4d,W4e,W4f,W4g,W4h,W4i,W4j,W4k,W4l,W4m,W4n,W4o,W4p,W4q,W4r,W4s,W4t,W4u,W4v,W4w,W4x,W4y,W4z,W50,W51,W52,W53,W54,W55,W56,W57,W58,W59,W5a,W5b,W5c,W5d,W5e,W5f,W5g,W5h,W5i,W5j,W5k,W5l,W5m,W5n,W5o,W5p,W5q,W5r,W5s,W5t,W5u,W5v,W5w,W5x,W5y,W5z,W60,W61,W62,W63,W64,W65,W66,W67,W68,W69,W6a,W6b,W6c,W6d,W6e,W6f,W6g,W6h,W6i,W6j,W6k,W6l,W6m,W6n,W6o,W6p,W6q,W6r,W6s,W6t,W6u,W6v,W6w,W6x,W6y,W6z,W70,W71,W72,W73,W74,W75,W76,W77,W78,W79,W7a,W7b,W7c,W7d,W7e,W7f,W7g,W7h,W7i,W7j,W7k,W7l,W7m,W7n,W7o,W7p,W7q,W7r,W7s,W7t,W7u,W7v,W7w,W7x,W7y,W7z,W80,W81,W82,W83,W84,W85,W86,W87,W88,W89,W8a,W8b,W8c,W8d,W8e,W8f,W8g,W8h,W8i,W8j,W8k,W8l,W8m,W8n,Nat.reduceSub, e1]
        refine Pr.bnd (pr_forP (I := fun p ρ => ∃ y3 y4, ρ = [.tup (ns r), .lst (((List.range i).flatMap P ++ p.flatMap fun x => (grs f (r.drop (0 + 1 + i))).map fun y => G.node x y).map gD), .int ((0 + 1 + i : Nat) : Int), y3, y4]) ⟨_, _, by simp; exact ⟨rfl, rfl⟩⟩ ?_) ?_
        · rintro p x q _ hp ⟨y3, y4, rfl⟩
          rw [hp, List.flatMap_append, List.flatMap_cons, List.length_append, List.length_append, List.length_map] at hm
          simp (disch := first | (with_reducible rfl) | assumption | omega) only [W00,W01,W02,W03,W04,W05,W06,W07,W08,W09,W0a,W0b,W0c,W0d,W0e,W0f,W0g,W0h,W0i,W0j,W0k,W0l,W0m,W0n,W0o,W0p,W0q,W0r,W0s,W0t,W0u,W0v,W0w,W0x,W0y,W0z,W10,W11,W12,W13,W14,W15,W16,W17,W18,W19,W1a,W1b,W1c,W1d,W1e,W1f,W1g,W1h,W1i,W1j,W1k,W1l,W1m,W1n,W1o,W1p,W1q,W1r,W1s,W1t,W1u,W1v,W1w,W1x,W1y,W1z,W20,W21,W22,W23,W24,W25,W26,W27,W28,W29,W2a,W2b,W2c,W2d,W2e,W2f,W2g,W2h,W2i,W2j,W2k,W2l,W2m,W2n,W2o,W2p,W2q,W2r,W2s,W2t,W2u,W2v,W2w,W2x,W2y,W2z,W30,W31,W32,W33,W34,W35,W36,W37,W38,W39,W3a,W3b,W3c,W3d,W3e,W3f,W3g,W3h,W3i,W3j,W3k,W3l,W3m,W3n,W3o,W3p,W3q,W3r,W3s,W3t,W3u,W3v,W3w,W3x,W3y,W3z,W40,W41,W42,W43,W44,W45,W46,W47,W48,W49,W4a,W4b,W4c,W4d,W4e,W4f,W4g,W4h,W4i,W4j,W4k,W4l,W4m,W4n,W4o,W4p,W4q,W4r,W4s,W4t,W4u,W4v,W4w,W4x,W4y,W4z,W50,W51,W52,W53,W54,W55,W56,W57,W58,W59,W5a,W5b,W5c,W5d,W5e,W5f,W5g,W5h,W5i,W5j,W5k,W5l,W5m,W5n,W5o,W5p,W5q,W5r,W5s,W5t,W5u,W5v,W5w,W5x,W5y,W5z,W60,W61,W62,W63,W64,W65,W66,W67,W68,W69,W6a,W6b,W6c,W6d,W6e,W6f,W6g,W6h,W6i,W6j,W6k,W6l,W6m,W6n,W6o,W6p,W6q,W6r,W6s,W6t,W6u,W6v,W6w,W6x,W6y,W6z,W70,W71,W72,W73,W74,W75,W76,W77,W78,W79,W7a,W7b,W7c,W7d,W7e,W7f,W7g,W7h,W7i,W7j,W7k,W7l,W7m,W7n,W7o,W7p,W7q,W7r,W7s,W7t,W7u,W7v,W7w,W7x,W7y,W7z,W80,W81,W82,W83,W84,W85,W86,W87,W88,W89,W8a,W8b,W8c,W8d,W8e,W8f,W8g,W8h,W8i,W8j,W8k,W8l,W8m,W8n,Nat.reduceSub, e2]
          refine Pr.ret ⟨_, .inl rfl, gD x, y4, ?_⟩
          congr 3
          simp [List.map_append, List.flatMap_append, List.map_map]
          intro a _; rfl
        · rintro f' ⟨ρ, rfl, y3, y4, rfl⟩
          simp (disch := first | (with_reducible rfl) | assumption | omega) only [W00,W01,W02,W03,W04,W05,W06,W07,W08,W09,W0a,W0b,W0c,W0d,W0e,W0f,W0g,W0h,W0i,W0j,W0k,W0l,W0m,W0n,W0o,W0p,W0q,W0r,W0s,W0t,W0u,W0v,W0w,W0x,W0y,W0z,W10,W11,W12,W13,W14,W15,W16,W17,W18,W19,W1a,W1b,W1c,W1d,W1e,W1f,W1g,W1h,W1i,W1j,W1k,W1l,W1m,W1n,W1o,W1p,W1q,W1r,W1s,W1t,W1u,W1v,W1w,W1x,W1y,W1z,W20,W21,W22,W23,W24,W25,W26,W27,W28,W29,W2a,W2b,W2c,W2d,W2e,W2f,W2g,W2h,W2i,W2j,W2k,W2l,W2m,W2n,W2o,W2p,W2q,W2r,W2s,W2t,W2u,W2v,W2w,W2x,W2y,W2z,W30,W31,W32,W33,W34,W35,W36,W37,W38,W39,W3a,W3b,W3c,W3d,W3e,W3f,W3g,W3h,W3i,W3j,W3k,W3l,W3m,W3n,W3o,W3p,W3q,W3r,W3s,W3t,W3u,W3v,W3w,W3x,W3y,W3z,W40,W41,W42,W43,W44,W45,W46,W47,W48,W49,W4a,W4b,W4c,W4d,W4e,W4f,W4g,W4h,W4i,W4j,W4k,W4l,W4m,W4n,W4o,W4p,W4q,W4r,W4s,W4t,W4u,W4v,W4w,W4x,W4y,W4z,W50,W51,W52,W53,W54,W55,W56,W57,W58,W59,W5a,W5b,W5c,W5d,W5e,W5f,W5g,W5h,W5i,W5j,W5k,W5l,W5m,W5n,W5o,W5p,W5q,W5r,W5s,W5t,W5u,W5v,W5w,W5x,W5y,W5z,W60,W61,W62,W63,W64,W65,W66,W67,W68,W69,W6a,W6b,W6c,W6d,W6e,W6f,W6g,W6h,W6i,W6j,W6k,W6l,W6m,W6n,W6o,W6p,W6q,W6r,W6s,W6t,W6u,W6v,W6w,W6x,W6y,W6z,W70,W71,W72,W73,W74,W75,W76,W77,W78,W79,W7a,W7b,W7c,W7d,W7e,W7f,W7g,W7h,W7i,W7j,W7k,W7l,W7m,W7n,W7o,W7p,W7q,W7r,W7s,W7t,W7u,W7v,W7w,W7x,W7y,W7z,W80,W81,W82,W83,W84,W85,W86,W87,W88,W89,W8a,W8b,W8c,W8d,W8e,W8f,W8g,W8h,W8i,W8j,W8k,W8l,W8m,W8n,Nat.reduceSub]
          refine Pr.ret ⟨_, .inl rfl, .int ((0 + 1 + i : Nat) : Int), y3, y4, ?_⟩
          rw [List.range_succ, List.flatMap_append, show ([i].flatMap P) = P i by simp, hPi]
      · rintro f' ⟨ρ, rfl, y2, y3, y4, rfl⟩
        simp (disch := first | (with_reducible rfl) | assumption | omega) only [W00,W01,W02,W03,W04,W05,W06,W07,W08,W09,W0a,W0b,W0c,W0d,W0e,W0f,W0g,W0h,W0i,W0j,W0k,W0l,W0m,W0n,W0o,W0p,W0q,W0r,W0s,W0t,W0u,W0v,W0w,W0x,W0y,W0z,W10,W11,W12,W13,W14,W15,W16,W17,W18,W19,W1a,W1b,W1c,W1d,W1e,W1f,W1g,W1h,W1i,W1j,W1k,W1l,W1m,W1n,W1o,W1p,W1q,W1r,W1s,W1t,W1u,W1v,W1w,W1x,W1y,W1z,W20,W21,W22,W23,W24,W25,W26,W27,W28,W29,W2a,W2b,W2c,W2d,W2e,W2f,W2g,W2h,W2i,W2j,W2k,W2l,W2m,W2n,W2o,W2p,W2q,W2r,W2s,W2t,W2u,W2v,W2w,W2x,W2y,W2z,W30,W31,W32,W33,W34,W35,W36,W37,W38,W39,W3a,W3b,W3c,W3d,W3e,W3f,W3g,W3h,W3i,W3j,W3k,W3l,W3m,W3n,W3o,W3p,W3q,W3r,W3s,W3t,W3u,W3v,W3w,W3x,W3y,W3z,W40,W41,W42,W43,W44,W45,W46,W47,W48,W49,W4a,W4b,W4c,W4d,W4e,W4f,W4g,W4h,W4i,W4j,W4k,W4l,W4m,W4n,W4o,W4p,W4q,W4r,W4s,W4t,W4u,W4v,W4w,W4x,W4y,W4z,W50,W51,W52,W53,W54,W55,W56,W57,W58,W59,W5a,W5b,W5c,W5d,W5e,W5f,W5g,W5h,W5i,W5j,W5k,W5l,W5m,W5n,W5o,W5p,W5q,W5r,W5s,W5t,W5u,W5v,W5w,W5x,W5y,W5z,W60,W61,W62,W63,W64,W65,W66,W67,W68,W69,W6a,W6b,W6c,W6d,W6e,W6f,W6g,W6h,W6i,W6j,W6k,W6l,W6m,W6n,W6o,W6p,W6q,W6r,W6s,W6t,W6u,W6v,W6w,W6x,W6y,W6z,W70,W71,W72,W73,W74,W75,W76,W77,W78,W79,W7a,W7b,W7c,W7d,W7e,W7f,W7g,W7h,W7i,W7j,W7k,W7l,W7m,W7n,W7o,W7p,W7q,W7r,W7s,W7t,W7u,W7v,W7w,W7x,W7y,W7z,W80,W81,W82,W83,W84,W85,W86,W87,W88,W89,W8a,W8b,W8c,W8d,W8e,W8f,W8g,W8h,W8i,W8j,W8k,W8l,W8m,W8n,Nat.reduceSub]
        rw [show r.length - (0 + 1) = r.length - 1 by omega]
        exact Pr.ret rfl
theorem grs_gr {n f : Nat} {r : List Nat} (h1 : 1 ≤ r.length) (h2 : r.length ≤ f + 1) (h3 : r.length ≤ 10) (b : Below n r) : ∀ x ∈ grs f r, Gr n x := fun x hx => by
  have e := grs_row h1 h2 x hx
  exact ⟨G.under_row.mpr (by rw [e]; exact b), by rw [← G.size_row, e]; exact h3⟩
theorem keep_in {n : Nat} {g : Nat → Nat → Nat} {r : List Nat} (hr : Ro n r) (t : Nat) : decide (t ∈ (grs 9 r).map fun x => x.keep g) = decide (0 < ws g 9 r t) := by
  congr 1
  unfold ws
  rw [List.countP_pos_iff]
  simp only [List.mem_map, beq_iff_eq]
theorem s_law_outcomes [h : H__law_outcomes T] {k n : Nat} {g : Nat → Nat → Nat} {r : List Nat} (tb : Tb n g) (hr : Ro n r) (hk : 12 < k) : run T k i__law_outcomes [tabD n g, .tup (ns r)] = ret (.tup (ns (outL n g r))) := by
  obtain ⟨k, rfl⟩ : ∃ j, k = j + 1 := ⟨k - 1, by omega⟩
  have n5 := tb.h5
  have h1 := hr.h1
  have h2 := hr.h2
  have e1 := s_law_groups (T := T) (f := 9) (k := k) h1 (by omega) (by omega) (by omega)
  have hc := grs_cap (f := 9) (r := r) (by omega) (by omega)
  have e2 : ∀ x, x ∈ grs 9 r → run T k i__law_keeps [tabD n g, gD x] = ret (.int (x.keep g : Int)) := fun x hx => by
    have gr := grs_gr h1 (by omega) h2 hr.b x hx
    have := gr.d
    exact s_law_keeps tb.v gr.b (by omega)
  have ho := outL_len n g r
  have e3 : (grs 9 r).map (fun x => D.int (x.keep g : Int)) = ns ((grs 9 r).map fun x => x.keep g) := by unfold ns; rw [List.map_map]; rfl
  rw [run_b h.q__law_outcomes rfl]
  unfold F__law_outcomes
  simp (disch := first | (with_reducible rfl) | assumption | omega) only [W00,W01,W02,W03,W04,W05,W06,W07,W08,W09,W0a,W0b,W0c,W0d,W0e,W0f,W0g,W0h,W0i,W0j,W0k,W0l,W0m,W0n,W0o,W0p,W0q,W0r,W0s,W0t,W0u,W0v,W0w,W0x,W0y,W0z,W10,W11,W12,W13,W14,W15,W16,W17,W18,W19,W1a,W1b,W1c,W1d,W1e,W1f,W1g,W1h,W1i,W1j,W1k,W1l,W1m,W1n,W1o,W1p,W1q,W1r,W1s,W1t,W1u,W1v,W1w,W1x,W1y,W1z,W20,W21,W22,W23,W24,W25,W26,W27,W28,W29,W2a,W2b,W2c,W2d,W2e,W2f,W2g,W2h,W2i,W2j,W2k,W2l,W2m,W2n,W2o,W2p,W2q,W2r,W2s,W2t,W2u,W2v,W2w,W2x,W2y,W2z,W30,W31,W32,W33,W34,W35,W36,W37,W38,W39,W3a,W3b,W3c,W3d,W3e,W3f,W3g,W3h,W3i,W3j,W3k,W3l,W3m,W3n,W3o,W3p,W3q,W3r,W3s,W3t,W3u,W3v,W3w,W3x,W3y,W3z,W40,W41,W42,W43,W44,W45,W46,W47,W48,W49,W4a,W4b,W4c,W4d,W4e,W4f,W4g,W4h,W4i,W4j,W4k,W4l,W4m,W4n,W4o,W4p,W4q,W4r,W4s,W4t,W4u,W4v,W4w,W4x,W4y,W4z,W50,W51,W52,W53,W54,W55,W56,W57,W58,W59,W5a,W5b,W5c,W5d,W5e,W5f,W5g,W5h,W5i,W5j,W5k,W5l,W5m,W5n,W5o,W5p,W5q,W5r,W5s,W5t,W5u,W5v,W5w,W5x,W5y,W5z,W60,W61,W62,W63,W64,W65,W66,W67,W68,W69,W6a,W6b,W6c,W6d,W6e,W6f,W6g,W6h,W6i,W6j,W6k,W6l,W6m,W6n,W6o,W6p,W6q,W6r,W6s,W6t,W6u,W6v,W6w,W6x,W6y,W6z,W70,W71,W72,W73,W74,W75,W76,W77,W78,W79,W7a,W7b,W7c,W7d,W7e,W7f,W7g,W7h,W7i,W7j,W7k,W7l,W7m,W7n,W7o,W7p,W7q,W7r,W7s,W7t,W7u,W7v,W7w,W7x,W7y,W7z,W80,W81,W82,W83,W84,W85,W86,W87,W88,W89,W8a,W8b,W8c,W8d,W8e,W8f,W8g,W8h,W8i,W8j,W8k,W8l,W8m,W8n,Nat.reduceSub, e1, e2, e3, keep_in hr, show (List.filter (fun t => decide (0 < ws g 9 r t)) (List.range n)) = outL n g r from rfl]
/-! two tables -/
def unL (n : Nat) (g g' : Nat → Nat → Nat) : List (Nat × Nat) := (List.range n).flatMap fun a => ((List.range n).filter fun b => !decide (g a b = g' a b)).map fun b => (a, b)
theorem unL_mem {n a b : Nat} {g g' : Nat → Nat → Nat} : (a, b) ∈ unL n g g' ↔ a < n ∧ b < n ∧ g a b ≠ g' a b := by
  unfold unL
  simp only [List.mem_flatMap, List.mem_map, List.mem_filter, List.mem_range, Prod.mk.injEq, Bool.not_eq_true', decide_eq_false_iff_not]
  constructor
  · rintro ⟨x, hx, y, ⟨hy, hne⟩, rfl, rfl⟩; exact ⟨hx, hy, hne⟩
  · rintro ⟨h1, h2, h3⟩; exact ⟨a, h1, b, ⟨h2, h3⟩, rfl, rfl⟩
theorem unL_flat (n : Nat) (g g' : Nat → Nat → Nat) : (flatR n fun a => ((List.range n).filter fun b => !decide (g a b = g' a b)).map fun (b : Nat) => D.tup [D.int (a : Int), D.int (b : Int)]) = (unL n g g').map prD := by
  unfold flatR unL
  rw [List.map_flatMap]
  congr 1
  funext a
  rw [List.map_map]; rfl
theorem unL_len (n : Nat) (g g' : Nat → Nat → Nat) (h : n ≤ 5) : (unL n g g').length ≤ 25 := by
  unfold unL
  rw [List.length_flatMap]
  have : ∀ l : List Nat, (l.map fun a => (((List.range n).filter fun b => !decide (g a b = g' a b)).map fun b => (a, b)).length).sum ≤ l.length * 5 := fun l => by
    induction l with
    | nil => simp
    | cons a l ih =>
      have := List.length_filter_le (fun b => !decide (g a b = g' a b)) (List.range n)
      rw [List.length_range] at this
      rw [List.map_cons, List.sum_cons, List.length_cons, List.length_map]
      omega
  have := this (List.range n)
  rw [List.length_range] at this
  omega
theorem s_need_alike [h : H_need_alike__whole T] {k n : Nat} {g g' : Nat → Nat → Nat} (tb : Tb n g) (tb' : Tb n g') : run T (k + 4) i_need_alike__whole [tabD n g, tabD n g'] = ret .non := by
  rw [run_b h.q_need_alike__whole rfl]
  unfold F_need_alike__whole
  simp (disch := first | (with_reducible rfl) | assumption | omega) only [W00,W01,W02,W03,W04,W05,W06,W07,W08,W09,W0a,W0b,W0c,W0d,W0e,W0f,W0g,W0h,W0i,W0j,W0k,W0l,W0m,W0n,W0o,W0p,W0q,W0r,W0s,W0t,W0u,W0v,W0w,W0x,W0y,W0z,W10,W11,W12,W13,W14,W15,W16,W17,W18,W19,W1a,W1b,W1c,W1d,W1e,W1f,W1g,W1h,W1i,W1j,W1k,W1l,W1m,W1n,W1o,W1p,W1q,W1r,W1s,W1t,W1u,W1v,W1w,W1x,W1y,W1z,W20,W21,W22,W23,W24,W25,W26,W27,W28,W29,W2a,W2b,W2c,W2d,W2e,W2f,W2g,W2h,W2i,W2j,W2k,W2l,W2m,W2n,W2o,W2p,W2q,W2r,W2s,W2t,W2u,W2v,W2w,W2x,W2y,W2z,W30,W31,W32,W33,W34,W35,W36,W37,W38,W39,W3a,W3b,W3c,W3d,W3e,W3f,W3g,W3h,W3i,W3j,W3k,W3l,W3m,W3n,W3o,W3p,W3q,W3r,W3s,W3t,W3u,W3v,W3w,W3x,W3y,W3z,W40,W41,W42,W43,W44,W45,W46,W47,W48,W49,W4a,W4b,W4c,W4d,W4e,W4f,W4g,W4h,W4i,W4j,W4k,W4l,W4m,W4n,W4o,W4p,W4q,W4r,W4s,W4t,W4u,W4v,W4w,W4x,W4y,W4z,W50,W51,W52,W53,W54,W55,W56,W57,W58,W59,W5a,W5b,W5c,W5d,W5e,W5f,W5g,W5h,W5i,W5j,W5k,W5l,W5m,W5n,W5o,W5p,W5q,W5r,W5s,W5t,W5u,W5v,W5w,W5x,W5y,W5z,W60,W61,W62,W63,W64,W65,W66,W67,W68,W69,W6a,W6b,W6c,W6d,W6e,W6f,W6g,W6h,W6i,W6j,W6k,W6l,W6m,W6n,W6o,W6p,W6q,W6r,W6s,W6t,W6u,W6v,W6w,W6x,W6y,W6z,W70,W71,W72,W73,W74,W75,W76,W77,W78,W79,W7a,W7b,W7c,W7d,W7e,W7f,W7g,W7h,W7i,W7j,W7k,W7l,W7m,W7n,W7o,W7p,W7q,W7r,W7s,W7t,W7u,W7v,W7w,W7x,W7y,W7z,W80,W81,W82,W83,W84,W85,W86,W87,W88,W89,W8a,W8b,W8c,W8d,W8e,W8f,W8g,W8h,W8i,W8j,W8k,W8l,W8m,W8n,Nat.reduceSub, s_need_table tb, s_need_table tb']
theorem s_entries_unlike [h : H_entries_unlike T] {k n : Nat} {g g' : Nat → Nat → Nat} (tb : Tb n g) (tb' : Tb n g') : run T (k + 4) i_entries_unlike [tabD n g, tabD n g'] = ret (.tup ((unL n g g').map prD)) := by
  have h5 := tb.h5
  have hl := unL_len n g g' h5
  rw [run_b h.q_entries_unlike rfl]
  unfold F_entries_unlike
  simp (disch := first | (with_reducible rfl) | assumption | omega) only [W00,W01,W02,W03,W04,W05,W06,W07,W08,W09,W0a,W0b,W0c,W0d,W0e,W0f,W0g,W0h,W0i,W0j,W0k,W0l,W0m,W0n,W0o,W0p,W0q,W0r,W0s,W0t,W0u,W0v,W0w,W0x,W0y,W0z,W10,W11,W12,W13,W14,W15,W16,W17,W18,W19,W1a,W1b,W1c,W1d,W1e,W1f,W1g,W1h,W1i,W1j,W1k,W1l,W1m,W1n,W1o,W1p,W1q,W1r,W1s,W1t,W1u,W1v,W1w,W1x,W1y,W1z,W20,W21,W22,W23,W24,W25,W26,W27,W28,W29,W2a,W2b,W2c,W2d,W2e,W2f,W2g,W2h,W2i,W2j,W2k,W2l,W2m,W2n,W2o,W2p,W2q,W2r,W2s,W2t,W2u,W2v,W2w,W2x,W2y,W2z,W30,W31,W32,W33,W34,W35,W36,W37,W38,W39,W3a,W3b,W3c,W3d,W3e,W3f,W3g,W3h,W3i,W3j,W3k,W3l,W3m,W3n,W3o,W3p,W3q,W3r,W3s,W3t,W3u,W3v,W3w,W3x,W3y,W3z,W40,W41,W42,W43,W44,W45,W46,W47,W48,W49,W4a,W4b,W4c,W4d,W4e,W4f,W4g,W4h,W4i,W4j,W4k,W4l,W4m,W4n,W4o,W4p,W4q,W4r,W4s,W4t,W4u,W4v,W4w,W4x,W4y,W4z,W50,W51,W52,W53,W54,W55,W56,W57,W58,W59,W5a,W5b,W5c,W5d,W5e,W5f,W5g,W5h,W5i,W5j,W5k,W5l,W5m,W5n,W5o,W5p,W5q,W5r,W5s,W5t,W5u,W5v,W5w,W5x,W5y,W5z,W60,W61,W62,W63,W64,W65,W66,W67,W68,W69,W6a,W6b,W6c,W6d,W6e,W6f,W6g,W6h,W6i,W6j,W6k,W6l,W6m,W6n,W6o,W6p,W6q,W6r,W6s,W6t,W6u,W6v,W6w,W6x,W6y,W6z,W70,W71,W72,W73,W74,W75,W76,W77,W78,W79,W7a,W7b,W7c,W7d,W7e,W7f,W7g,W7h,W7i,W7j,W7k,W7l,W7m,W7n,W7o,W7p,W7q,W7r,W7s,W7t,W7u,W7v,W7w,W7x,W7y,W7z,W80,W81,W82,W83,W84,W85,W86,W87,W88,W89,W8a,W8b,W8c,W8d,W8e,W8f,W8g,W8h,W8i,W8j,W8k,W8l,W8m,W8n,Nat.reduceSub, s_need_table tb, s_need_table tb', unL_flat]
theorem s_row_apart [h : H_row_apart T] {k n : Nat} {g g' : Nat → Nat → Nat} (tb : Tb n g) (tb' : Tb n g') : run T (k + 5) i_row_apart [tabD n g, tabD n g'] = ret (match unL n g g' with | [] => .non | p :: _ => prD p) := by
  have h5 := tb.h5
  have hl := unL_len n g g' h5
  rw [run_b h.q_row_apart rfl]
  unfold F_row_apart
  simp (disch := first | (with_reducible rfl) | assumption | omega) only [W00,W01,W02,W03,W04,W05,W06,W07,W08,W09,W0a,W0b,W0c,W0d,W0e,W0f,W0g,W0h,W0i,W0j,W0k,W0l,W0m,W0n,W0o,W0p,W0q,W0r,W0s,W0t,W0u,W0v,W0w,W0x,W0y,W0z,W10,W11,W12,W13,W14,W15,W16,W17,W18,W19,W1a,W1b,W1c,W1d,W1e,W1f,W1g,W1h,W1i,W1j,W1k,W1l,W1m,W1n,W1o,W1p,W1q,W1r,W1s,W1t,W1u,W1v,W1w,W1x,W1y,W1z,W20,W21,W22,W23,W24,W25,W26,W27,W28,W29,W2a,W2b,W2c,W2d,W2e,W2f,W2g,W2h,W2i,W2j,W2k,W2l,W2m,W2n,W2o,W2p,W2q,W2r,W2s,W2t,W2u,W2v,W2w,W2x,W2y,W2z,W30,W31,W32,W33,W34,W35,W36,W37,W38,W39,W3a,W3b,W3c,W3d,W3e,W3f,W3g,W3h,W3i,W3j,W3k,W3l,W3m,W3n,W3o,W3p,W3q,W3r,W3s,W3t,W3u,W3v,W3w,W3x,W3y,W3z,W40,W41,W42,W43,W44,W45,W46,W47,W48,W49,W4a,W4b,W4c,W4d,W4e,W4f,W4g,W4h,W4i,W4j,W4k,W4l,W4m,W4n,W4o,W4p,W4q,W4r,W4s,W4t,W4u,W4v,W4w,W4x,W4y,W4z,W50,W51,W52,W53,W54,W55,W56,W57,W58,W59,W5a,W5b,W5c,W5d,W5e,W5f,W5g,W5h,W5i,W5j,W5k,W5l,W5m,W5n,W5o,W5p,W5q,W5r,W5s,W5t,W5u,W5v,W5w,W5x,W5y,W5z,W60,W61,W62,W63,W64,W65,W66,W67,W68,W69,W6a,W6b,W6c,W6d,W6e,W6f,W6g,W6h,W6i,W6j,W6k,W6l,W6m,W6n,W6o,W6p,W6q,W6r,W6s,W6t,W6u,W6v,W6w,W6x,W6y,W6z,W70,W71,W72,W73,W74,W75,W76,W77,W78,W79,W7a,W7b,W7c,W7d,W7e,W7f,W7g,W7h,W7i,W7j,W7k,W7l,W7m,W7n,W7o,W7p,W7q,W7r,W7s,W7t,W7u,W7v,W7w,W7x,W7y,W7z,W80,W81,W82,W83,W84,W85,W86,W87,W88,W89,W8a,W8b,W8c,W8d,W8e,W8f,W8g,W8h,W8i,W8j,W8k,W8l,W8m,W8n,Nat.reduceSub, s_need_alike tb tb', unL_flat]
  cases unL n g g' with
  | nil => simp (disch := first | (with_reducible rfl) | assumption | omega) only [W00,W01,W02,W03,W04,W05,W06,W07,W08,W09,W0a,W0b,W0c,W0d,W0e,W0f,W0g,W0h,W0i,W0j,W0k,W0l,W0m,W0n,W0o,W0p,W0q,W0r,W0s,W0t,W0u,W0v,W0w,W0x,W0y,W0z,W10,W11,W12,W13,W14,W15,W16,W17,W18,W19,W1a,W1b,W1c,W1d,W1e,W1f,W1g,W1h,W1i,W1j,W1k,W1l,W1m,W1n,W1o,W1p,W1q,W1r,W1s,W1t,W1u,W1v,W1w,W1x,W1y,W1z,W20,W21,W22,W23,W24,W25,W26,W27,W28,W29,W2a,W2b,W2c,W2d,W2e,W2f,W2g,W2h,W2i,W2j,W2k,W2l,W2m,W2n,W2o,W2p,W2q,W2r,W2s,W2t,W2u,W2v,W2w,W2x,W2y,W2z,W30,W31,W32,W33,W34,W35,W36,W37,W38,W39,W3a,W3b,W3c,W3d,W3e,W3f,W3g,W3h,W3i,W3j,W3k,W3l,W3m,W3n,W3o,W3p,W3q,W3r,W3s,W3t,W3u,W3v,W3w,W3x,W3y,W3z,W40,W41,W42,W43,W44,W45,W46,W47,W48,W49,W4a,W4b,W4c,W4d,W4e,W4f,W4g,W4h,W4i,W4j,W4k,W4l,W4m,W4n,W4o,W4p,W4q,W4r,W4s,W4t,W4u,W4v,W4w,W4x,W4y,W4z,W50,W51,W52,W53,W54,W55,W56,W57,W58,W59,W5a,W5b,W5c,W5d,W5e,W5f,W5g,W5h,W5i,W5j,W5k,W5l,W5m,W5n,W5o,W5p,W5q,W5r,W5s,W5t,W5u,W5v,W5w,W5x,W5y,W5z,W60,W61,W62,W63,W64,W65,W66,W67,W68,W69,W6a,W6b,W6c,W6d,W6e,W6f,W6g,W6h,W6i,W6j,W6k,W6l,W6m,W6n,W6o,W6p,W6q,W6r,W6s,W6t,W6u,W6v,W6w,W6x,W6y,W6z,W70,W71,W72,W73,W74,W75,W76,W77,W78,W79,W7a,W7b,W7c,W7d,W7e,W7f,W7g,W7h,W7i,W7j,W7k,W7l,W7m,W7n,W7o,W7p,W7q,W7r,W7s,W7t,W7u,W7v,W7w,W7x,W7y,W7z,W80,W81,W82,W83,W84,W85,W86,W87,W88,W89,W8a,W8b,W8c,W8d,W8e,W8f,W8g,W8h,W8i,W8j,W8k,W8l,W8m,W8n,Nat.reduceSub]
  | cons p l => simp (disch := first | (with_reducible rfl) | assumption | omega) only [W00,W01,W02,W03,W04,W05,W06,W07,W08,W09,W0a,W0b,W0c,W0d,W0e,W0f,W0g,W0h,W0i,W0j,W0k,W0l,W0m,W0n,W0o,W0p,W0q,W0r,W0s,W0t,W0u,W0v,W0w,W0x,W0y,W0z,W10,W11,W12,W13,W14,W15,W16,W17,W18,W19,W1a,W1b,W1c,W1d,W1e,W1f,W1g,W1h,W1i,W1j,W1k,W1l,W1m,W1n,W1o,W1p,W1q,W1r,W1s,W1t,W1u,W1v,W1w,W1x,W1y,W1z,W20,W21,W22,W23,W24,W25,W26,W27,W28,W29,W2a,W2b,W2c,W2d,W2e,W2f,W2g,W2h,W2i,W2j,W2k,W2l,W2m,W2n,W2o,W2p,W2q,W2r,W2s,W2t,W2u,W2v,W2w,W2x,W2y,W2z,W30,W31,W32,W33,W34,W35,W36,W37,W38,W39,W3a,W3b,W3c,W3d,W3e,W3f,W3g,W3h,W3i,W3j,W3k,W3l,W3m,W3n,W3o,W3p,W3q,W3r,W3s,W3t,W3u,W3v,W3w,W3x,W3y,W3z,W40,W41,W42,W43,W44,W45,W46,W47,W48,W49,W4a,W4b,W4c,W4d,W4e,W4f,W4g,W4h,W4i,W4j,W4k,W4l,W4m,W4n,W4o,W4p,W4q,W4r,W4s,W4t,W4u,W4v,W4w,W4x,W4y,W4z,W50,W51,W52,W53,W54,W55,W56,W57,W58,W59,W5a,W5b,W5c,W5d,W5e,W5f,W5g,W5h,W5i,W5j,W5k,W5l,W5m,W5n,W5o,W5p,W5q,W5r,W5s,W5t,W5u,W5v,W5w,W5x,W5y,W5z,W60,W61,W62,W63,W64,W65,W66,W67,W68,W69,W6a,W6b,W6c,W6d,W6e,W6f,W6g,W6h,W6i,W6j,W6k,W6l,W6m,W6n,W6o,W6p,W6q,W6r,W6s,W6t,W6u,W6v,W6w,W6x,W6y,W6z,W70,W71,W72,W73,W74,W75,W76,W77,W78,W79,W7a,W7b,W7c,W7d,W7e,W7f,W7g,W7h,W7i,W7j,W7k,W7l,W7m,W7n,W7o,W7p,W7q,W7r,W7s,W7t,W7u,W7v,W7w,W7x,W7y,W7z,W80,W81,W82,W83,W84,W85,W86,W87,W88,W89,W8a,W8b,W8c,W8d,W8e,W8f,W8g,W8h,W8i,W8j,W8k,W8l,W8m,W8n,Nat.reduceSub, show (List.map prD (p :: l))[0]? = some (prD p) from rfl]
/-- rows told -/
def rowD' (r : List Nat) : D := .tup (ns r)
theorem s_rows_apart [h : H_rows_apart T] {k n : Nat} {g g' : Nat → Nat → Nat} {rs : List (List Nat)} (tb : Tb n g) (tb' : Tb n g') (hl : rs.length ≤ 20) (hr : ∀ r ∈ rs, Ro n r) : run T (k + 5) i_rows_apart [tabD n g, tabD n g', .tup (rs.map rowD')] = ret (.tup ((rs.filter fun r => !decide (outL n g r = outL n g' r)).map rowD')) := by
  have h1 := tb.h1
  have h5 := tb.h5
  have e1 : ∀ r, r ∈ rs → run T (k + 4) i_fits_row [rowD' r, .int (n : Int)] = ret (.bl true) := fun r hr' => by
    have := W80 (T := T) (k := k + 2) r h1
    rw [(hr r hr').all] at this
    exact this
  have e2 : ∀ r, r ∈ rs → run T (k + 4) i_outcomes_in [tabD n g, rowD' r] = ret (.lst (ns (outL n g r))) := fun r hr' => s_outcomes_in tb (hr r hr')
  have e3 : ∀ r, r ∈ rs → run T (k + 4) i_outcomes_in [tabD n g', rowD' r] = ret (.lst (ns (outL n g' r))) := fun r hr' => s_outcomes_in tb' (hr r hr')
  have gr : ∀ r, gd (rowD' r) = ret (rowD' r) := fun r => gd_of rfl
  have hf := List.length_filter_le (fun r => !decide (outL n g r = outL n g' r)) rs
  rw [run_b h.q_rows_apart rfl]
  unfold F_rows_apart
  simp (disch := first | (with_reducible rfl) | assumption | omega) only [W00,W01,W02,W03,W04,W05,W06,W07,W08,W09,W0a,W0b,W0c,W0d,W0e,W0f,W0g,W0h,W0i,W0j,W0k,W0l,W0m,W0n,W0o,W0p,W0q,W0r,W0s,W0t,W0u,W0v,W0w,W0x,W0y,W0z,W10,W11,W12,W13,W14,W15,W16,W17,W18,W19,W1a,W1b,W1c,W1d,W1e,W1f,W1g,W1h,W1i,W1j,W1k,W1l,W1m,W1n,W1o,W1p,W1q,W1r,W1s,W1t,W1u,W1v,W1w,W1x,W1y,W1z,W20,W21,W22,W23,W24,W25,W26,W27,W28,W29,W2a,W2b,W2c,W2d,W2e,W2f,W2g,W2h,W2i,W2j,W2k,W2l,W2m,W2n,W2o,W2p,W2q,W2r,W2s,W2t,W2u,W2v,W2w,W2x,W2y,W2z,W30,W31,W32,W33,W34,W35,W36,W37,W38,W39,W3a,W3b,W3c,W3d,W3e,W3f,W3g,W3h,W3i,W3j,W3k,W3l,W3m,W3n,W3o,W3p,W3q,W3r,W3s,W3t,W3u,W3v,W3w,W3x,W3y,W3z,W40,W41,W42,W43,W44,W45,W46,W47,W48,W49,W4a,W4b,W4c,W4d,W4e,W4f,W4g,W4h,W4i,W4j,W4k,W4l,W4m,W4n,W4o,W4p,W4q,W4r,W4s,W4t,W4u,W4v,W4w,W4x,W4y,W4z,W50,W51,W52,W53,W54,W55,W56,W57,W58,W59,W5a,W5b,W5c,W5d,W5e,W5f,W5g,W5h,W5i,W5j,W5k,W5l,W5m,W5n,W5o,W5p,W5q,W5r,W5s,W5t,W5u,W5v,W5w,W5x,W5y,W5z,W60,W61,W62,W63,W64,W65,W66,W67,W68,W69,W6a,W6b,W6c,W6d,W6e,W6f,W6g,W6h,W6i,W6j,W6k,W6l,W6m,W6n,W6o,W6p,W6q,W6r,W6s,W6t,W6u,W6v,W6w,W6x,W6y,W6z,W70,W71,W72,W73,W74,W75,W76,W77,W78,W79,W7a,W7b,W7c,W7d,W7e,W7f,W7g,W7h,W7i,W7j,W7k,W7l,W7m,W7n,W7o,W7p,W7q,W7r,W7s,W7t,W7u,W7v,W7w,W7x,W7y,W7z,W80,W81,W82,W83,W84,W85,W86,W87,W88,W89,W8a,W8b,W8c,W8d,W8e,W8f,W8g,W8h,W8i,W8j,W8k,W8l,W8m,W8n,Nat.reduceSub, s_need_alike tb tb', e1, e2, e3, gr]
theorem ws_two (g : Nat → Nat → Nat) (a b t : Nat) : ws g 9 [a, b] t = if g a b = t then 1 else 0 := by
  unfold ws
  have : grs 9 [a, b] = [.node (.leaf a) (.leaf b)] := rfl
  rw [this]
  simp [G.keep, List.countP_cons]
theorem outL_two {n : Nat} {g g' : Nat → Nat → Nat} (v : Valid n g) {a b : Nat} (ha : a < n) (hb : b < n) (h : outL n g [a, b] = outL n g' [a, b]) : g a b = g' a b := by
  have : g a b ∈ outL n g' [a, b] := by
    rw [← h]
    unfold outL
    rw [List.mem_filter]
    exact ⟨List.mem_range.mpr (v.lt ha hb), by rw [ws_two, if_pos rfl]; decide⟩
  unfold outL at this
  rw [List.mem_filter, ws_two] at this
  by_cases e : g' a b = g a b
  · exact e.symm
  · rw [if_neg e] at this
    exact absurd this.2 (by decide)
theorem keep_congr {n : Nat} {g g' : Nat → Nat → Nat} (v : Valid n g) (h : ∀ a, a < n → ∀ b, b < n → g a b = g' a b) : ∀ {x : G}, x.under n → x.keep g = x.keep g'
  | .leaf _, _ => rfl
  | .node a b, hb => by
    rw [G.keep, G.keep, ← keep_congr v h hb.1, ← keep_congr v h hb.2]
    exact h _ (G.keep_lt v hb.1) _ (G.keep_lt v hb.2)
theorem outL_congr {n : Nat} {g g' : Nat → Nat → Nat} {r : List Nat} (v : Valid n g) (h : ∀ a, a < n → ∀ b, b < n → g a b = g' a b) (hr : Ro n r) : outL n g r = outL n g' r := by
  unfold outL
  congr 1
  funext t
  have : ws g 9 r t = ws g' 9 r t := by
    unfold ws
    refine List.countP_congr fun x hx => ?_
    rw [keep_congr v h (grs_gr hr.h1 (by have := hr.h2; omega) hr.h2 hr.b x hx).b]
  rw [this]
theorem plain_pr (p : Nat × Nat) : plainD 1 (prD p) = true := rfl
theorem plain_row (r : List Nat) (h : r.length ≤ 1000) : plainD 1 (rowD' r) = true := plain_ns 0 r h
theorem W8o (p : Nat × Nat) : gd (prD p) = ret (prD p) := gd_of rfl
theorem s_groupings_many [h : H_groupings_many T] {k m : Nat} (h1 : 1 ≤ m) (h2 : m ≤ 10) : run T (k + 2) i_groupings_many [.int (m : Int)] = ret (.int (cat 9 m : Nat)) := by
  rw [run_b h.q_groupings_many rfl]
  unfold F_groupings_many
  simp (disch := first | (with_reducible rfl) | assumption | omega) only [W00,W01,W02,W03,W04,W05,W06,W07,W08,W09,W0a,W0b,W0c,W0d,W0e,W0f,W0g,W0h,W0i,W0j,W0k,W0l,W0m,W0n,W0o,W0p,W0q,W0r,W0s,W0t,W0u,W0v,W0w,W0x,W0y,W0z,W10,W11,W12,W13,W14,W15,W16,W17,W18,W19,W1a,W1b,W1c,W1d,W1e,W1f,W1g,W1h,W1i,W1j,W1k,W1l,W1m,W1n,W1o,W1p,W1q,W1r,W1s,W1t,W1u,W1v,W1w,W1x,W1y,W1z,W20,W21,W22,W23,W24,W25,W26,W27,W28,W29,W2a,W2b,W2c,W2d,W2e,W2f,W2g,W2h,W2i,W2j,W2k,W2l,W2m,W2n,W2o,W2p,W2q,W2r,W2s,W2t,W2u,W2v,W2w,W2x,W2y,W2z,W30,W31,W32,W33,W34,W35,W36,W37,W38,W39,W3a,W3b,W3c,W3d,W3e,W3f,W3g,W3h,W3i,W3j,W3k,W3l,W3m,W3n,W3o,W3p,W3q,W3r,W3s,W3t,W3u,W3v,W3w,W3x,W3y,W3z,W40,W41,W42,W43,W44,W45,W46,W47,W48,W49,W4a,W4b,W4c,W4d,W4e,W4f,W4g,W4h,W4i,W4j,W4k,W4l,W4m,W4n,W4o,W4p,W4q,W4r,W4s,W4t,W4u,W4v,W4w,W4x,W4y,W4z,W50,W51,W52,W53,W54,W55,W56,W57,W58,W59,W5a,W5b,W5c,W5d,W5e,W5f,W5g,W5h,W5i,W5j,W5k,W5l,W5m,W5n,W5o,W5p,W5q,W5r,W5s,W5t,W5u,W5v,W5w,W5x,W5y,W5z,W60,W61,W62,W63,W64,W65,W66,W67,W68,W69,W6a,W6b,W6c,W6d,W6e,W6f,W6g,W6h,W6i,W6j,W6k,W6l,W6m,W6n,W6o,W6p,W6q,W6r,W6s,W6t,W6u,W6v,W6w,W6x,W6y,W6z,W70,W71,W72,W73,W74,W75,W76,W77,W78,W79,W7a,W7b,W7c,W7d,W7e,W7f,W7g,W7h,W7i,W7j,W7k,W7l,W7m,W7n,W7o,W7p,W7q,W7r,W7s,W7t,W7u,W7v,W7w,W7x,W7y,W7z,W80,W81,W82,W83,W84,W85,W86,W87,W88,W89,W8a,W8b,W8c,W8d,W8e,W8f,W8g,W8h,W8i,W8j,W8k,W8l,W8m,W8n,W8o,Nat.reduceSub]
  have : m = 1 ∨ m = 2 ∨ m = 3 ∨ m = 4 ∨ m = 5 ∨ m = 6 ∨ m = 7 ∨ m = 8 ∨ m = 9 ∨ m = 10 := by omega
  rcases this with rfl | rfl | rfl | rfl | rfl | rfl | rfl | rfl | rfl | rfl <;> (funext κ; kernel_rfl)
theorem sumR_ws {n : Nat} {g : Nat → Nat → Nat} {r : List Nat} (tb : Tb n g) (hr : Ro n r) : (mapR n fun t => ws g 9 r t).sum = cat 9 r.length := by
  have h2 := hr.h2
  have := sum_by (n := n) (fun x : G => x.keep g) (fun _ => 1) (grs_lt (f := 9) (r := r) tb.v hr.h1 (by omega) hr.b)
  rw [← grs_len]
  show sumR n (fun t => ws g 9 r t) = _
  rw [show (fun a => (grs 9 r).countP (fun x => x.keep g == a) * 1) = fun t => ws g 9 r t from funext fun t => Nat.mul_one _] at this
  rw [← this]
  generalize grs 9 r = l
  induction l with
  | nil => rfl
  | cons x l ih => rw [List.map_cons, List.sum_cons, ih, List.length_cons]; omega
theorem count_ws (g : Nat → Nat → Nat) (r : List Nat) (t : Nat) : ((grs 9 r).map fun x => x.keep g).count t = ws g 9 r t := by
  unfold ws
  rw [List.count_eq_countP, List.countP_map]; rfl
theorem outL_mem {n : Nat} {g : Nat → Nat → Nat} {r : List Nat} {t : Nat} : t ∈ outL n g r ↔ t < n ∧ 0 < ws g 9 r t := by
  unfold outL; rw [List.mem_filter, List.mem_range, decide_eq_true_eq]
/-- one thing alone is kept just if all groupings keep it -/
theorem outL_only {n : Nat} {g : Nat → Nat → Nat} {r : List Nat} {t : Nat} (tb : Tb n g) (hr : Ro n r) (ht : t < n) : outL n g r = [t] ↔ ws g 9 r t = (grs 9 r).length := by
  have h2 := hr.h2
  have hlt := grs_lt (f := 9) (r := r) tb.v hr.h1 (by omega) hr.b
  unfold ws
  rw [List.countP_eq_length]
  constructor
  · intro e x hx
    have : x.keep g ∈ outL n g r := outL_mem.mpr ⟨hlt x hx, by unfold ws; rw [List.countP_pos_iff]; exact ⟨x, hx, by simp⟩⟩
    rw [e] at this
    simpa using this
  · intro e
    have hne : (grs 9 r).length ≠ 0 := by
      rw [grs_len]
      have : ∀ m < 11, 1 ≤ m → cat 9 m ≠ 0 := by decide +kernel
      exact this _ (by omega) hr.h1
    obtain ⟨x0, hx0⟩ := List.exists_mem_of_ne_nil (grs 9 r) (fun z => hne (by simp [z]))
    have hall : ∀ u, 0 < ws g 9 r u ↔ u = t := fun u => by
      unfold ws
      rw [List.countP_pos_iff]
      constructor
      · rintro ⟨x, hx, hu⟩
        have := e x hx
        simp at this hu
        exact hu.symm.trans this
      · rintro rfl
        exact ⟨x0, hx0, e x0 hx0⟩
    have : outL n g r = (List.range n).filter fun u => decide (u = t) := by
      unfold outL
      congr 1; funext u
      exact decide_eq_decide.mpr (hall u)
    rw [this]
    have hf : ∀ m, ((List.range m).filter fun u => decide (u = t)) = if t < m then [t] else [] := fun m => by
      induction m with
      | zero => rfl
      | succ m ih =>
        rw [List.range_succ, List.filter_append, ih]
        by_cases q : t < m
        · rw [if_pos q, if_pos (by omega), List.filter_cons, decide_eq_false (by omega)]; simp
        · by_cases q2 : t = m
          · subst q2
            rw [if_neg q, if_pos (by omega), List.filter_cons, decide_eq_true rfl]; simp
          · rw [if_neg q, if_neg (by omega), List.filter_cons, decide_eq_false (fun z => q2 z.symm)]; simp
    rw [hf, if_pos ht]
end
end MP
set_option linter.all false
set_option maxRecDepth 100000
namespace Hd
open MP
def F__law_cup : Fun := ⟨1, 2, (.cons (.asg (.nm 1) (.op1 .abs (.op2 .ix (.op2 .add (.op1 .list (.var 0)) (.lst (.cons (.cst (Nt 0)) .nil))) (.cst (Nt 0))))) (.cons (.ret (.lst (.cons (.ite (.op2 .ge (.var 1) (.op2 .pow (.cst (Nt 10)) (.cst (Nt 18)))) (.op2 .fdiv (.var 1) (.cst (Nt 163))) (.cst (Nt 0))) (.cons (.op2 .add (.op2 .mod (.op1 .int (.op2 .add (.op2 .mul (.var 1) (.cst (Nt 637))) (.cst (Nt 5041)))) (.cst (Nt 2077502087))) (.cst (Nt 313))) .nil)))) .nil))⟩
def F__law_roll : Fun := ⟨2, 4, (.cons (.ite (.op2 .gt (.op2 .ix (.var 0) (.cst (Nt 0))) (.cst (Nt 0))) (.cons (.asg (.nm 3) (.op2 .mod (.op1 .int (.op2 .ix (.var 0) (.cst (Nt 0)))) (.var 1))) (.cons (.setc 0 (.cst (Nt 0)) (.op2 .fdiv (.op2 .ix (.var 0) (.cst (Nt 0))) (.var 1))) (.cons (.ret (.var 3)) .nil))) .nil) (.cons (.setc 0 (.cst (Nt 1)) (.op2 .mod (.op1 .int (.op2 .add (.op2 .mul (.op2 .ix (.var 0) (.cst (Nt 1))) (.cst (Nt 31427))) (.cst (Nt 8701)))) (.cst (Nt 2147482951)))) (.cons (.asg (.nm 2) (.op2 .mod (.op1 .int (.op2 .mul (.op2 .ix (.var 0) (.cst (Nt 1))) (.op2 .add (.op2 .ix (.var 0) (.cst (Nt 1))) (.cst (Nt 365))))) (.cst (Nt 2147483059)))) (.cons (.ret (.op2 .mod (.op1 .int (.op2 .fdiv (.var 2) (.cst (Nt 931)))) (.var 1))) .nil))))⟩
def F_law : Fun := ⟨1, 10, (.cons (.asg (.nm 1) (.tup (.cons (.call i_all_shapes (.cons (.cst (Nt 1)) .nil)) (.cons (.call i_all_shapes (.cons (.cst (Nt 3)) .nil)) (.cons (.op1 .tuple (.comp [7] (.cons (.nm 7) (.e (.tup (.cons (.cst (Nt 2)) (.cons (.cst (Nt 3)) (.cons (.cst (Nt 4)) (.cons (.cst (Nt 5)) .nil)))))) .nil (.fin (.call i_shapes_within (.cons (.cst (Nt 5)) (.cons (.var 7) .nil))))))) (.cons (.call i_shapes_within (.cons (.cst (Nt 8)) (.cons (.cst (Nt 3)) .nil))) (.cons (.call i_shapes_within (.cons (.cst (Nt 10)) (.cons (.cst (Nt 9)) .nil))) .nil))))))) (.cons (.ite (.op1 .not (.call i__law_same (.cons (.var 1) (.cons (.tup (.cons (.tup (.cons (.cst (Nt 0)) .nil)) (.cons (.tup (.cons (.tup (.cons (.cst (Nt 0)) (.cons (.tup (.cons (.cst (Nt 0)) (.cons (.cst (Nt 0)) .nil))) .nil))) (.cons (.tup (.cons (.tup (.cons (.cst (Nt 0)) (.cons (.cst (Nt 0)) .nil))) (.cons (.cst (Nt 0)) .nil))) .nil))) (.cons (.tup (.cons (.cst (Nt 0)) (.cons (.cst (Nt 6)) (.cons (.cst (Nt 14)) (.cons (.cst (Nt 14)) .nil))))) (.cons (.cst (Nt 1)) (.cons (.cst (Nt 4862)) .nil)))))) .nil)))) (.cons (.ret (.cst (.bl false))) .nil) .nil) (.cons (.ite (.op2 .ne (.lst (.cons (.call i_shapes_within (.cons (.cst (Nt 1)) (.cons (.cst (Nt 0)) .nil))) (.cons (.call i_shapes_within (.cons (.cst (Nt 2)) (.cons (.cst (Nt 0)) .nil))) (.cons (.call i_shapes_within (.cons (.cst (Nt 2)) (.cons (.cst (Nt 1)) .nil))) (.cons (.call i_shapes_within (.cons (.cst (Nt 9)) (.cons (.cst (Nt 3)) .nil))) (.cons (.call i_shapes_within (.cons (.cst (Nt 10)) (.cons (.cst (Nt 10)) .nil))) .nil)))))) (.lst (.cons (.cst (Nt 1)) (.cons (.cst (Nt 0)) (.cons (.cst (Nt 1)) (.cons (.cst (Nt 0)) (.cons (.cst (Nt 4862)) .nil))))))) (.cons (.ret (.cst (.bl false))) .nil) .nil) (.cons (.for_ (.nm 2) (.e (.op2 .range2 (.cst (Nt 1)) (.cst (Nt 7)))) (.cons (.asg (.nm 5) (.call i__law_groups (.cons (.op2 .mul (.tup (.cons (.cst (Nt 0)) .nil)) (.var 2)) .nil))) (.cons (.ite (.op1 .not (.call i__law_all_like (.cons (.call i_all_shapes (.cons (.var 2) .nil)) (.cons (.var 5) .nil)))) (.cons (.ret (.cst (.bl false))) .nil) .nil) (.cons (.asg (.nm 6) (.comp [8] (.cons (.nm 8) (.e (.var 5)) .nil (.fin (.call i__law_deepest (.cons (.var 8) .nil)))))) (.cons (.for_ (.nm 7) (.e (.op1 .range1 (.cst (Nt 11)))) (.cons (.ite (.op1 .not (.call i__law_same (.cons (.call i_shapes_within (.cons (.var 2) (.cons (.var 7) .nil))) (.cons (.op1 .len (.comp [9] (.cons (.nm 9) (.e (.var 6)) (.cons (.op2 .le (.var 9) (.var 7)) .nil) (.fin (.var 9))))) .nil)))) (.cons (.ret (.cst (.bl false))) .nil) .nil) .nil)) .nil))))) (.cons (.mkcup 3 (.call i__law_cup (.cons (.var 0) .nil))) (.cons (.for_ (.nm 4) (.e (.op1 .range1 (.cst (Nt 5)))) (.cons (.asg (.t2 (.nm 2) (.nm 7)) (.tup (.cons (.op2 .add (.cst (Nt 1)) (.call i__law_roll (.cons (.var 3) (.cons (.cst (Nt 7)) .nil)))) (.cons (.call i__law_roll (.cons (.var 3) (.cons (.cst (Nt 5)) .nil))) .nil)))) (.cons (.ite (.op1 .not (.call i__law_same (.cons (.tup (.cons (.call i_shapes_within (.cons (.var 2) (.cons (.var 7) .nil))) (.cons (.call i_shapes_within (.cons (.var 2) (.cons (.var 2) .nil))) .nil))) (.cons (.tup (.cons (.call i__law_less (.cons (.var 2) (.cons (.var 7) .nil))) (.cons (.call i_groupings_many (.cons (.var 2) .nil)) .nil))) .nil)))) (.cons (.ret (.cst (.bl false))) .nil) .nil) .nil))) (.cons (.ret (.op2 .eq (.op1 .len (.call i_all_shapes (.cons (.cst (Nt 7)) .nil))) (.cst (Nt 132)))) .nil)))))))⟩
def T : Nat → Option Fun
  | 112 => some F_fits_whole
  | 133 => some F_groupings_in
  | 134 => some F_groupings_many
  | 410 => some F_within_in
  | 7 => some F_all_shapes
  | 352 => some F_shapes_within
  | 444 => some F__law_cup
  | 524 => some F__law_roll
  | 529 => some F__law_same
  | 469 => some F__law_groups
  | 491 => some F__law_like
  | 425 => some F__law_all_like
  | 447 => some F__law_deepest
  | 490 => some F__law_less
  | 569 => some F_law
  | _ => none
instance : HRoll T := ⟨31427, 8701, 2147482951, 365, 2147483059, 931, rfl, by decide⟩
instance : HCup T := ⟨163, 637, 5041, 2077502087, 313, rfl, by decide⟩
instance : H_fits_whole T := { q_fits_whole := rfl }
instance : H__law_same T := { q__law_same := rfl }
instance : H_groupings_in T := { q_groupings_in := rfl }
instance : H_groupings_many T := { q_groupings_many := rfl }
instance : H__law_groups T := { q__law_groups := rfl }
instance : H_within_in T := { q_within_in := rfl }
instance : H_all_shapes T := { q_all_shapes := rfl }
instance : H_shapes_within T := { q_shapes_within := rfl }
instance : H__law_like T := { q__law_like := rfl }
instance : H__law_all_like T := { q__law_all_like := rfl }
instance : H__law_deepest T := { q__law_deepest := rfl }
instance : H__law_less T := { q__law_less := rfl }
def rho : List D := (stOf (exs (run T 30) (takeS 4 F_law.body) ([.scr []] ++ List.replicate (F_law.nl - F_law.np) .und) (0, 0))).tail
theorem hpre (l : List Int) : exs (run T 30) (takeS 4 F_law.body) ([.scr l] ++ List.replicate (F_law.nl - F_law.np) .und) = ret (.nx (.scr l :: rho)) := by
  funext κ
  kernel_rfl
theorem hrho : rho.length = 9 := by decide +kernel
theorem lenR : ∀ r : List D, r.length = 9 → ∃ x1 x2 x3 x4 x5 x6 x7 x8 x9, r = [x1, x2, x3, x4, x5, x6, x7, x8, x9]
  | [x1, x2, x3, x4, x5, x6, x7, x8, x9], _ => ⟨x1, x2, x3, x4, x5, x6, x7, x8, x9, rfl⟩
/-- the slots of law: 0 script, 1 told, 2 many, 3 cup, 4 turn, 5 shapes, 6 deepest, 7 deep, 8 shape, 9 own -/
def LInv (l : List Int) (ρ : List D) : Prop := ∃ x1 x2 x4 x5 x6 x7 x8 x9, ρ = [.scr l, x1, x2, .cup, x4, x5, x6, x7, x8, x9]
theorem start (l : List Int) : LInv l ((.scr l :: rho).set 3 .cup) := by
  obtain ⟨x1, x2, x3, x4, x5, x6, x7, x8, x9, e⟩ := lenR rho hrho
  rw [e]
  exact ⟨_, _, _, _, _, _, _, _, rfl⟩
theorem law_from {l : List Int} (hl : l.length ≤ 1000000) (h : ∀ ρ, LInv l ρ → Hr (exs (run T 30) (dropS 5 F_law.body) ρ) fun f => f = .rt (.bl true)) : ∃ κ, run T 31 i_law [.scr l] (0, 0) = .ok (.bl true) κ :=
  law_by (k := 29) (n := 4) (c := 3) (ρ := rho) hl rfl rfl rfl (hpre l) (h _ (start l))
end Hd
set_option linter.all false
set_option maxRecDepth 100000
set_option maxHeartbeats 4000000
namespace Hd
open MP
def tv (m d : Nat) : Nat := (([[1, 1, 1, 1, 1], [0, 1, 1, 1, 1], [0, 0, 2, 2, 2], [0, 0, 1, 5, 5], [0, 0, 0, 6, 14], [0, 0, 0, 6, 26], [0, 0, 0, 4, 44]] : List (List Nat)).getD m []).getD d 0
theorem k71_sw : ∀ m, m < 7 → ∀ d, d < 5 → run T 30 i_shapes_within [.int ((1 + m : Nat) : Int), .int ((d : Nat) : Int)] = ret (.int ((tv m d : Nat) : Int)) := by
  intro m hm d hd
  have h1 : m = 0 ∨ m = 1 ∨ m = 2 ∨ m = 3 ∨ m = 4 ∨ m = 5 ∨ m = 6 := by omega
  have h2 : d = 0 ∨ d = 1 ∨ d = 2 ∨ d = 3 ∨ d = 4 := by omega
  rcases h1 with rfl | rfl | rfl | rfl | rfl | rfl | rfl <;> rcases h2 with rfl | rfl | rfl | rfl | rfl <;> (funext κ; kernel_rfl)
theorem k71_le : ∀ m, m < 7 → ∀ d, d < 5 → run T 30 i__law_less [.int ((1 + m : Nat) : Int), .int ((d : Nat) : Int)] = ret (.int ((tv m d : Nat) : Int)) := by
  intro m hm d hd
  have h1 : m = 0 ∨ m = 1 ∨ m = 2 ∨ m = 3 ∨ m = 4 ∨ m = 5 ∨ m = 6 := by omega
  have h2 : d = 0 ∨ d = 1 ∨ d = 2 ∨ d = 3 ∨ d = 4 := by omega
  rcases h1 with rfl | rfl | rfl | rfl | rfl | rfl | rfl <;> rcases h2 with rfl | rfl | rfl | rfl | rfl <;> (funext κ; kernel_rfl)
theorem k71_mm : ∀ m, m < 7 → run T 30 i_shapes_within [.int ((1 + m : Nat) : Int), .int ((1 + m : Nat) : Int)] = ret (.int ((cat 9 (1 + m) : Nat) : Int)) := by
  intro m hm
  have h1 : m = 0 ∨ m = 1 ∨ m = 2 ∨ m = 3 ∨ m = 4 ∨ m = 5 ∨ m = 6 := by omega
  rcases h1 with rfl | rfl | rfl | rfl | rfl | rfl | rfl <;> (funext κ; kernel_rfl)
def sevens : List D := match run T 30 i_all_shapes [.int ((7 : Nat) : Int)] (0, 0) with | .ok (.tup xs) _ => xs | _ => []
theorem sevens_run : run T 30 i_all_shapes [.int ((7 : Nat) : Int)] = ret (.tup sevens) := by funext κ; kernel_rfl
theorem sevens_len : sevens.length = 132 := by kernel_rfl
theorem hlaw (l : List Int) (hl : l.length ≤ 1000000) : ∃ κ, run T 31 i_law [.scr l] (0, 0) = .ok (.bl true) κ := by
  refine law_from hl ?_
  rintro _ ⟨x1, x2, x4, x5, x6, x7, x8, x9, rfl⟩
  show Hr (exs (run T 30) (.cons _ (.cons _ .nil)) _) _
  simp (disch := first | (with_reducible rfl) | assumption | omega) only [W00,W01,W02,W03,W04,W05,W06,W07,W08,W09,W0a,W0b,W0c,W0d,W0e,W0f,W0g,W0h,W0i,W0j,W0k,W0l,W0m,W0n,W0o,W0p,W0q,W0r,W0s,W0t,W0u,W0v,W0w,W0x,W0y,W0z,W10,W11,W12,W13,W14,W15,W16,W17,W18,W19,W1a,W1b,W1c,W1d,W1e,W1f,W1g,W1h,W1i,W1j,W1k,W1l,W1m,W1n,W1o,W1p,W1q,W1r,W1s,W1t,W1u,W1v,W1w,W1x,W1y,W1z,W20,W21,W22,W23,W24,W25,W26,W27,W28,W29,W2a,W2b,W2c,W2d,W2e,W2f,W2g,W2h,W2i,W2j,W2k,W2l,W2m,W2n,W2o,W2p,W2q,W2r,W2s,W2t,W2u,W2v,W2w,W2x,W2y,W2z,W30,W31,W32,W33,W34,W35,W36,W37,W38,W39,W3a,W3b,W3c,W3d,W3e,W3f,W3g,W3h,W3i,W3j,W3k,W3l,W3m,W3n,W3o,W3p,W3q,W3r,W3s,W3t,W3u,W3v,W3w,W3x,W3y,W3z,W40,W41,W42,W43,W44,W45,W46,W47,W48,W49,W4a,W4b,W4c,W4d,W4e,W4f,W4g,W4h,W4i,W4j,W4k,W4l,W4m,W4n,W4o,W4p,W4q,W4r,W4s,W4t,W4u,W4v,W4w,W4x,W4y,W4z,W50,W51,W52,W53,W54,W55,W56,W57,W58,W59,W5a,W5b,W5c,W5d,W5e,W5f,W5g,W5h,W5i,W5j,W5k,W5l,W5m,W5n,W5o,W5p,W5q,W5r,W5s,W5t,W5u,W5v,W5w,W5x,W5y,W5z,W60,W61,W62,W63,W64,W65,W66,W67,W68,W69,W6a,W6b,W6c,W6d,W6e,W6f,W6g,W6h,W6i,W6j,W6k,W6l,W6m,W6n,W6o,W6p,W6q,W6r,W6s,W6t,W6u,W6v,W6w,W6x,W6y,W6z,W70,W71,W72,W73,W74,W75,W76,W77,W78,W79,W7a,W7b,W7c,W7d,W7e,W7f,W7g,W7h,W7i,W7j,W7k,W7l,W7m,W7n,W7o,W7p,W7q,W7r,W7s,W7t,W7u,W7v,W7w,W7x,W7y,W7z,W80,W81,W82,W83,W84,W85,W86,W87,W88,W89,W8a,W8b,W8c,W8d,W8e,W8f,W8g,W8h,W8i,W8j,W8k,W8l,W8m,W8n,W8o,Nat.reduceSub]
  refine Hr.bnd (hr_forN (I := fun _ ρ => LInv l ρ) ⟨_, _, _, _, _, _, _, _, rfl⟩ ?_) ?_
  · clear x1 x2 x4 x5 x6 x7 x8 x9
    rintro turn _ _ ⟨x1, x2, x4, x5, x6, x7, x8, x9, rfl⟩
    simp (disch := first | (with_reducible rfl) | assumption | omega) only [W00,W01,W02,W03,W04,W05,W06,W07,W08,W09,W0a,W0b,W0c,W0d,W0e,W0f,W0g,W0h,W0i,W0j,W0k,W0l,W0m,W0n,W0o,W0p,W0q,W0r,W0s,W0t,W0u,W0v,W0w,W0x,W0y,W0z,W10,W11,W12,W13,W14,W15,W16,W17,W18,W19,W1a,W1b,W1c,W1d,W1e,W1f,W1g,W1h,W1i,W1j,W1k,W1l,W1m,W1n,W1o,W1p,W1q,W1r,W1s,W1t,W1u,W1v,W1w,W1x,W1y,W1z,W20,W21,W22,W23,W24,W25,W26,W27,W28,W29,W2a,W2b,W2c,W2d,W2e,W2f,W2g,W2h,W2i,W2j,W2k,W2l,W2m,W2n,W2o,W2p,W2q,W2r,W2s,W2t,W2u,W2v,W2w,W2x,W2y,W2z,W30,W31,W32,W33,W34,W35,W36,W37,W38,W39,W3a,W3b,W3c,W3d,W3e,W3f,W3g,W3h,W3i,W3j,W3k,W3l,W3m,W3n,W3o,W3p,W3q,W3r,W3s,W3t,W3u,W3v,W3w,W3x,W3y,W3z,W40,W41,W42,W43,W44,W45,W46,W47,W48,W49,W4a,W4b,W4c,W4d,W4e,W4f,W4g,W4h,W4i,W4j,W4k,W4l,W4m,W4n,W4o,W4p,W4q,W4r,W4s,W4t,W4u,W4v,W4w,W4x,W4y,W4z,W50,W51,W52,W53,W54,W55,W56,W57,W58,W59,W5a,W5b,W5c,W5d,W5e,W5f,W5g,W5h,W5i,W5j,W5k,W5l,W5m,W5n,W5o,W5p,W5q,W5r,W5s,W5t,W5u,W5v,W5w,W5x,W5y,W5z,W60,W61,W62,W63,W64,W65,W66,W67,W68,W69,W6a,W6b,W6c,W6d,W6e,W6f,W6g,W6h,W6i,W6j,W6k,W6l,W6m,W6n,W6o,W6p,W6q,W6r,W6s,W6t,W6u,W6v,W6w,W6x,W6y,W6z,W70,W71,W72,W73,W74,W75,W76,W77,W78,W79,W7a,W7b,W7c,W7d,W7e,W7f,W7g,W7h,W7i,W7j,W7k,W7l,W7m,W7n,W7o,W7p,W7q,W7r,W7s,W7t,W7u,W7v,W7w,W7x,W7y,W7z,W80,W81,W82,W83,W84,W85,W86,W87,W88,W89,W8a,W8b,W8c,W8d,W8e,W8f,W8g,W8h,W8i,W8j,W8k,W8l,W8m,W8n,W8o,Nat.reduceSub]
    refine Hr.bnd (roll (by decide) (by decide)) ?_
    rintro _ ⟨m, rfl, hm⟩
    simp (disch := first | (with_reducible rfl) | assumption | omega) only [W00,W01,W02,W03,W04,W05,W06,W07,W08,W09,W0a,W0b,W0c,W0d,W0e,W0f,W0g,W0h,W0i,W0j,W0k,W0l,W0m,W0n,W0o,W0p,W0q,W0r,W0s,W0t,W0u,W0v,W0w,W0x,W0y,W0z,W10,W11,W12,W13,W14,W15,W16,W17,W18,W19,W1a,W1b,W1c,W1d,W1e,W1f,W1g,W1h,W1i,W1j,W1k,W1l,W1m,W1n,W1o,W1p,W1q,W1r,W1s,W1t,W1u,W1v,W1w,W1x,W1y,W1z,W20,W21,W22,W23,W24,W25,W26,W27,W28,W29,W2a,W2b,W2c,W2d,W2e,W2f,W2g,W2h,W2i,W2j,W2k,W2l,W2m,W2n,W2o,W2p,W2q,W2r,W2s,W2t,W2u,W2v,W2w,W2x,W2y,W2z,W30,W31,W32,W33,W34,W35,W36,W37,W38,W39,W3a,W3b,W3c,W3d,W3e,W3f,W3g,W3h,W3i,W3j,W3k,W3l,W3m,W3n,W3o,W3p,W3q,W3r,W3s,W3t,W3u,W3v,W3w,W3x,W3y,W3z,W40,W41,W42,W43,W44,W45,W46,W47,W48,W49,W4a,W4b,W4c,W4d,W4e,W4f,W4g,W4h,W4i,W4j,W4k,W4l,W4m,W4n,W4o,W4p,W4q,W4r,W4s,W4t,W4u,W4v,W4w,W4x,W4y,W4z,W50,W51,W52,W53,W54,W55,W56,W57,W58,W59,W5a,W5b,W5c,W5d,W5e,W5f,W5g,W5h,W5i,W5j,W5k,W5l,W5m,W5n,W5o,W5p,W5q,W5r,W5s,W5t,W5u,W5v,W5w,W5x,W5y,W5z,W60,W61,W62,W63,W64,W65,W66,W67,W68,W69,W6a,W6b,W6c,W6d,W6e,W6f,W6g,W6h,W6i,W6j,W6k,W6l,W6m,W6n,W6o,W6p,W6q,W6r,W6s,W6t,W6u,W6v,W6w,W6x,W6y,W6z,W70,W71,W72,W73,W74,W75,W76,W77,W78,W79,W7a,W7b,W7c,W7d,W7e,W7f,W7g,W7h,W7i,W7j,W7k,W7l,W7m,W7n,W7o,W7p,W7q,W7r,W7s,W7t,W7u,W7v,W7w,W7x,W7y,W7z,W80,W81,W82,W83,W84,W85,W86,W87,W88,W89,W8a,W8b,W8c,W8d,W8e,W8f,W8g,W8h,W8i,W8j,W8k,W8l,W8m,W8n,W8o,Nat.reduceSub]
    refine Hr.bnd (roll (by decide) (by decide)) ?_
    rintro _ ⟨d, rfl, hd⟩
    have e1 := k71_sw m (by omega) d (by omega)
    have e2 := k71_le m (by omega) d (by omega)
    have e3 := k71_mm m (by omega)
    have e4 := s_groupings_many (T := T) (k := 28) (m := 1 + m) (by omega) (by omega)
    simp (disch := first | (with_reducible rfl) | assumption | omega) only [W00,W01,W02,W03,W04,W05,W06,W07,W08,W09,W0a,W0b,W0c,W0d,W0e,W0f,W0g,W0h,W0i,W0j,W0k,W0l,W0m,W0n,W0o,W0p,W0q,W0r,W0s,W0t,W0u,W0v,W0w,W0x,W0y,W0z,W10,W11,W12,W13,W14,W15,W16,W17,W18,W19,W1a,W1b,W1c,W1d,W1e,W1f,W1g,W1h,W1i,W1j,W1k,W1l,W1m,W1n,W1o,W1p,W1q,W1r,W1s,W1t,W1u,W1v,W1w,W1x,W1y,W1z,W20,W21,W22,W23,W24,W25,W26,W27,W28,W29,W2a,W2b,W2c,W2d,W2e,W2f,W2g,W2h,W2i,W2j,W2k,W2l,W2m,W2n,W2o,W2p,W2q,W2r,W2s,W2t,W2u,W2v,W2w,W2x,W2y,W2z,W30,W31,W32,W33,W34,W35,W36,W37,W38,W39,W3a,W3b,W3c,W3d,W3e,W3f,W3g,W3h,W3i,W3j,W3k,W3l,W3m,W3n,W3o,W3p,W3q,W3r,W3s,W3t,W3u,W3v,W3w,W3x,W3y,W3z,W40,W41,W42,W43,W44,W45,W46,W47,W48,W49,W4a,W4b,W4c,W4d,W4e,W4f,W4g,W4h,W4i,W4j,W4k,W4l,W4m,W4n,W4o,W4p,W4q,W4r,W4s,W4t,W4u,W4v,W4w,W4x,W4y,W4z,W50,W51,W52,W53,W54,W55,W56,W57,W58,W59,W5a,W5b,W5c,W5d,W5e,W5f,W5g,W5h,W5i,W5j,W5k,W5l,W5m,W5n,W5o,W5p,W5q,W5r,W5s,W5t,W5u,W5v,W5w,W5x,W5y,W5z,W60,W61,W62,W63,W64,W65,W66,W67,W68,W69,W6a,W6b,W6c,W6d,W6e,W6f,W6g,W6h,W6i,W6j,W6k,W6l,W6m,W6n,W6o,W6p,W6q,W6r,W6s,W6t,W6u,W6v,W6w,W6x,W6y,W6z,W70,W71,W72,W73,W74,W75,W76,W77,W78,W79,W7a,W7b,W7c,W7d,W7e,W7f,W7g,W7h,W7i,W7j,W7k,W7l,W7m,W7n,W7o,W7p,W7q,W7r,W7s,W7t,W7u,W7v,W7w,W7x,W7y,W7z,W80,W81,W82,W83,W84,W85,W86,W87,W88,W89,W8a,W8b,W8c,W8d,W8e,W8f,W8g,W8h,W8i,W8j,W8k,W8l,W8m,W8n,W8o,Nat.reduceSub, e1, e2, e3, e4]
    refine hr_same (n := 1) rfl rfl (by decide) ?_
    simp (disch := first | (with_reducible rfl) | assumption | omega) only [W00,W01,W02,W03,W04,W05,W06,W07,W08,W09,W0a,W0b,W0c,W0d,W0e,W0f,W0g,W0h,W0i,W0j,W0k,W0l,W0m,W0n,W0o,W0p,W0q,W0r,W0s,W0t,W0u,W0v,W0w,W0x,W0y,W0z,W10,W11,W12,W13,W14,W15,W16,W17,W18,W19,W1a,W1b,W1c,W1d,W1e,W1f,W1g,W1h,W1i,W1j,W1k,W1l,W1m,W1n,W1o,W1p,W1q,W1r,W1s,W1t,W1u,W1v,W1w,W1x,W1y,W1z,W20,W21,W22,W23,W24,W25,W26,W27,W28,W29,W2a,W2b,W2c,W2d,W2e,W2f,W2g,W2h,W2i,W2j,W2k,W2l,W2m,W2n,W2o,W2p,W2q,W2r,W2s,W2t,W2u,W2v,W2w,W2x,W2y,W2z,W30,W31,W32,W33,W34,W35,W36,W37,W38,W39,W3a,W3b,W3c,W3d,W3e,W3f,W3g,W3h,W3i,W3j,W3k,W3l,W3m,W3n,W3o,W3p,W3q,W3r,W3s,W3t,W3u,W3v,W3w,W3x,W3y,W3z,W40,W41,W42,W43,W44,W45,W46,W47,W48,W49,W4a,W4b,W4c,W4d,W4e,W4f,W4g,W4h,W4i,W4j,W4k,W4l,W4m,W4n,W4o,W4p,W4q,W4r,W4s,W4t,W4u,W4v,W4w,W4x,W4y,W4z,W50,W51,W52,W53,W54,W55,W56,W57,W58,W59,W5a,W5b,W5c,W5d,W5e,W5f,W5g,W5h,W5i,W5j,W5k,W5l,W5m,W5n,W5o,W5p,W5q,W5r,W5s,W5t,W5u,W5v,W5w,W5x,W5y,W5z,W60,W61,W62,W63,W64,W65,W66,W67,W68,W69,W6a,W6b,W6c,W6d,W6e,W6f,W6g,W6h,W6i,W6j,W6k,W6l,W6m,W6n,W6o,W6p,W6q,W6r,W6s,W6t,W6u,W6v,W6w,W6x,W6y,W6z,W70,W71,W72,W73,W74,W75,W76,W77,W78,W79,W7a,W7b,W7c,W7d,W7e,W7f,W7g,W7h,W7i,W7j,W7k,W7l,W7m,W7n,W7o,W7p,W7q,W7r,W7s,W7t,W7u,W7v,W7w,W7x,W7y,W7z,W80,W81,W82,W83,W84,W85,W86,W87,W88,W89,W8a,W8b,W8c,W8d,W8e,W8f,W8g,W8h,W8i,W8j,W8k,W8l,W8m,W8n,W8o,Nat.reduceSub]
    exact Hr.ret ⟨_, .inl rfl, _, _, _, _, _, _, _, _, rfl⟩
  · rintro f ⟨ρ, rfl, x1, x2, x4, x5, x6, x7, x8, x9, rfl⟩
    simp (disch := first | (with_reducible rfl) | assumption | omega) only [W00,W01,W02,W03,W04,W05,W06,W07,W08,W09,W0a,W0b,W0c,W0d,W0e,W0f,W0g,W0h,W0i,W0j,W0k,W0l,W0m,W0n,W0o,W0p,W0q,W0r,W0s,W0t,W0u,W0v,W0w,W0x,W0y,W0z,W10,W11,W12,W13,W14,W15,W16,W17,W18,W19,W1a,W1b,W1c,W1d,W1e,W1f,W1g,W1h,W1i,W1j,W1k,W1l,W1m,W1n,W1o,W1p,W1q,W1r,W1s,W1t,W1u,W1v,W1w,W1x,W1y,W1z,W20,W21,W22,W23,W24,W25,W26,W27,W28,W29,W2a,W2b,W2c,W2d,W2e,W2f,W2g,W2h,W2i,W2j,W2k,W2l,W2m,W2n,W2o,W2p,W2q,W2r,W2s,W2t,W2u,W2v,W2w,W2x,W2y,W2z,W30,W31,W32,W33,W34,W35,W36,W37,W38,W39,W3a,W3b,W3c,W3d,W3e,W3f,W3g,W3h,W3i,W3j,W3k,W3l,W3m,W3n,W3o,W3p,W3q,W3r,W3s,W3t,W3u,W3v,W3w,W3x,W3y,W3z,W40,W41,W42,W43,W44,W45,W46,W47,W48,W49,W4a,W4b,W4c,W4d,W4e,W4f,W4g,W4h,W4i,W4j,W4k,W4l,W4m,W4n,W4o,W4p,W4q,W4r,W4s,W4t,W4u,W4v,W4w,W4x,W4y,W4z,W50,W51,W52,W53,W54,W55,W56,W57,W58,W59,W5a,W5b,W5c,W5d,W5e,W5f,W5g,W5h,W5i,W5j,W5k,W5l,W5m,W5n,W5o,W5p,W5q,W5r,W5s,W5t,W5u,W5v,W5w,W5x,W5y,W5z,W60,W61,W62,W63,W64,W65,W66,W67,W68,W69,W6a,W6b,W6c,W6d,W6e,W6f,W6g,W6h,W6i,W6j,W6k,W6l,W6m,W6n,W6o,W6p,W6q,W6r,W6s,W6t,W6u,W6v,W6w,W6x,W6y,W6z,W70,W71,W72,W73,W74,W75,W76,W77,W78,W79,W7a,W7b,W7c,W7d,W7e,W7f,W7g,W7h,W7i,W7j,W7k,W7l,W7m,W7n,W7o,W7p,W7q,W7r,W7s,W7t,W7u,W7v,W7w,W7x,W7y,W7z,W80,W81,W82,W83,W84,W85,W86,W87,W88,W89,W8a,W8b,W8c,W8d,W8e,W8f,W8g,W8h,W8i,W8j,W8k,W8l,W8m,W8n,W8o,Nat.reduceSub, sevens_run, sevens_len]
    exact Hr.ret rfl
end Hd
set_option Elab.async false
set_option linter.all false
set_option maxRecDepth 100000
set_option maxHeartbeats 0
namespace Hd
open PySem PySem.Spec PyProof.Rows L2 MP
def top (i : Nat) : Stmt := PySem.Challenge.pw_keptoftwo_k71_whole_shapes_in_order.main.body.getD i (.Pass ⟨0, 0, 0, 0⟩)
theorem room65 {k : Nat} {A : Around} (r : Room k A) : A.units + 65 < cLine := by have := r.un; omega
theorem room64 {k : Nat} {A : Around} (r : Room k A) : A.units + 64 < cLine := by have := r.un; omega
theorem room1 {k : Nat} {A : Around} (r : Room k A) : A.units + 1 < cLine := by have := r.un; omega
abbrev frF : Nat → Bool := fun i => i == i__law_cup
theorem sc_fits_whole : FnScope ["value", "low", "high"] ["value", "low", "high"] (defScope (top 4)) := ⟨rfl, rfl, rfl, by decide +kernel, rfl, by decide +kernel, by decide +kernel⟩
theorem sc_groupings_in : FnScope ["row", "found", "at", "left", "right"] ["row"] (defScope (top 8)) := ⟨rfl, rfl, rfl, by decide +kernel, rfl, by decide +kernel, by decide +kernel⟩
theorem sc_groupings_many : FnScope ["many", "found", "at"] ["many"] (defScope (top 9)) := ⟨rfl, rfl, rfl, by decide +kernel, rfl, by decide +kernel, by decide +kernel⟩
theorem sc_within_in : FnScope ["many", "deep", "found", "turn", "wider", "size", "left"] ["many", "deep"] (defScope (top 11)) := ⟨rfl, rfl, rfl, by decide +kernel, rfl, by decide +kernel, by decide +kernel⟩
theorem sc_all_shapes : FnScope ["many"] ["many"] (defScope (top 12)) := ⟨rfl, rfl, rfl, by decide +kernel, rfl, by decide +kernel, by decide +kernel⟩
theorem sc_shapes_within : FnScope ["many", "deep"] ["many", "deep"] (defScope (top 13)) := ⟨rfl, rfl, rfl, by decide +kernel, rfl, by decide +kernel, by decide +kernel⟩
theorem sc__law_cup : FnScope ["script", "cell"] ["script"] (defScope (top 15)) := ⟨rfl, rfl, rfl, by decide +kernel, rfl, by decide +kernel, by decide +kernel⟩
theorem sc__law_roll : FnScope ["cup", "many", "deep", "found"] ["cup", "many"] (defScope (top 16)) := ⟨rfl, rfl, rfl, by decide +kernel, rfl, by decide +kernel, by decide +kernel⟩
theorem sc__law_same : FnScope ["told", "due", "at"] ["told", "due"] (defScope (top 17)) := ⟨rfl, rfl, rfl, by decide +kernel, rfl, by decide +kernel, by decide +kernel⟩
theorem sc__law_groups : FnScope ["row", "found", "at", "left", "right"] ["row"] (defScope (top 18)) := ⟨rfl, rfl, rfl, by decide +kernel, rfl, by decide +kernel, by decide +kernel⟩
theorem sc__law_like : FnScope ["told", "due"] ["told", "due"] (defScope (top 20)) := ⟨rfl, rfl, rfl, by decide +kernel, rfl, by decide +kernel, by decide +kernel⟩
theorem sc__law_all_like : FnScope ["told", "due", "at"] ["told", "due"] (defScope (top 21)) := ⟨rfl, rfl, rfl, by decide +kernel, rfl, by decide +kernel, by decide +kernel⟩
theorem sc__law_deepest : FnScope ["shape"] ["shape"] (defScope (top 22)) := ⟨rfl, rfl, rfl, by decide +kernel, rfl, by decide +kernel, by decide +kernel⟩
theorem sc__law_less : FnScope ["many", "deep", "left"] ["many", "deep"] (defScope (top 23)) := ⟨rfl, rfl, rfl, by decide +kernel, rfl, by decide +kernel, by decide +kernel⟩
theorem sc_law : FnScope ["script", "told", "many", "cup", "turn", "shapes", "deepest", "deep", "shape", "own"] ["script"] (defScope (top 24)) := ⟨rfl, rfl, rfl, by decide +kernel, rfl, by decide +kernel, by decide +kernel⟩
/-- what the text says behind the top -/
structure Fx (K : PySem.W.Frag) (mg : Str → Option Value) (ad : Nat → Addr) (fdv : Nat → FuncData) : Prop where
  g_fits_whole : mg "fits_whole" = some (.ref (ad i_fits_whole))
  d_fits_whole : FunD K "fits_whole" "fits_whole" (defArgs (top 4)) (defBody (top 4)) (defScope (top 4)) [] [] (ad i_fits_whole) (fdv i_fits_whole)
  g_groupings_in : mg "groupings_in" = some (.ref (ad i_groupings_in))
  d_groupings_in : FunD K "groupings_in" "groupings_in" (defArgs (top 8)) (defBody (top 8)) (defScope (top 8)) [] [] (ad i_groupings_in) (fdv i_groupings_in)
  g_groupings_many : mg "groupings_many" = some (.ref (ad i_groupings_many))
  d_groupings_many : FunD K "groupings_many" "groupings_many" (defArgs (top 9)) (defBody (top 9)) (defScope (top 9)) [] [] (ad i_groupings_many) (fdv i_groupings_many)
  g_within_in : mg "within_in" = some (.ref (ad i_within_in))
  d_within_in : FunD K "within_in" "within_in" (defArgs (top 11)) (defBody (top 11)) (defScope (top 11)) [] [] (ad i_within_in) (fdv i_within_in)
  g_all_shapes : mg "all_shapes" = some (.ref (ad i_all_shapes))
  d_all_shapes : FunD K "all_shapes" "all_shapes" (defArgs (top 12)) (defBody (top 12)) (defScope (top 12)) [] [] (ad i_all_shapes) (fdv i_all_shapes)
  g_shapes_within : mg "shapes_within" = some (.ref (ad i_shapes_within))
  d_shapes_within : FunD K "shapes_within" "shapes_within" (defArgs (top 13)) (defBody (top 13)) (defScope (top 13)) [] [] (ad i_shapes_within) (fdv i_shapes_within)
  g__law_cup : mg "_law_cup" = some (.ref (ad i__law_cup))
  d__law_cup : FunD K "_law_cup" "_law_cup" (defArgs (top 15)) (defBody (top 15)) (defScope (top 15)) [] [] (ad i__law_cup) (fdv i__law_cup)
  g__law_roll : mg "_law_roll" = some (.ref (ad i__law_roll))
  d__law_roll : FunD K "_law_roll" "_law_roll" (defArgs (top 16)) (defBody (top 16)) (defScope (top 16)) [] [] (ad i__law_roll) (fdv i__law_roll)
  g__law_same : mg "_law_same" = some (.ref (ad i__law_same))
  d__law_same : FunD K "_law_same" "_law_same" (defArgs (top 17)) (defBody (top 17)) (defScope (top 17)) [] [] (ad i__law_same) (fdv i__law_same)
  g__law_groups : mg "_law_groups" = some (.ref (ad i__law_groups))
  d__law_groups : FunD K "_law_groups" "_law_groups" (defArgs (top 18)) (defBody (top 18)) (defScope (top 18)) [] [] (ad i__law_groups) (fdv i__law_groups)
  g__law_like : mg "_law_like" = some (.ref (ad i__law_like))
  d__law_like : FunD K "_law_like" "_law_like" (defArgs (top 20)) (defBody (top 20)) (defScope (top 20)) [] [] (ad i__law_like) (fdv i__law_like)
  g__law_all_like : mg "_law_all_like" = some (.ref (ad i__law_all_like))
  d__law_all_like : FunD K "_law_all_like" "_law_all_like" (defArgs (top 21)) (defBody (top 21)) (defScope (top 21)) [] [] (ad i__law_all_like) (fdv i__law_all_like)
  g__law_deepest : mg "_law_deepest" = some (.ref (ad i__law_deepest))
  d__law_deepest : FunD K "_law_deepest" "_law_deepest" (defArgs (top 22)) (defBody (top 22)) (defScope (top 22)) [] [] (ad i__law_deepest) (fdv i__law_deepest)
  g__law_less : mg "_law_less" = some (.ref (ad i__law_less))
  d__law_less : FunD K "_law_less" "_law_less" (defArgs (top 23)) (defBody (top 23)) (defScope (top 23)) [] [] (ad i__law_less) (fdv i__law_less)
  d_law : FunD K "law" "law" (defArgs (top 24)) (defBody (top 24)) (defScope (top 24)) [] [] (ad i_law) (fdv i_law)
  c_GROUPED : ∃ t, mg "GROUPED" = some (.int 7 t)
  c_LONG : ∃ t, mg "LONG" = some (.int 10 t)
  m_abs : mg "abs" = none
  m_all : mg "all" = none
  m_bool : mg "bool" = none
  m_int : mg "int" = none
  m_isinstance : mg "isinstance" = none
  m_len : mg "len" = none
  m_list : mg "list" = none
  m_max : mg "max" = none
  m_range : mg "range" = none
  m_str : mg "str" = none
  m_sum : mg "sum" = none
  m_tuple : mg "tuple" = none
section
variable {P : Program} {w : World} {K : PySem.W.Frag} {mg : Str → Option Value} {base : Heap} {ad : Nat → Addr} {fdv : Nat → FuncData}
theorem bd_fits_whole (fx : Fx K mg ad fdv) : Binds K (fdv i_fits_whole) ["value", "low", "high"] [] := fx.d_fits_whole.bindsN fun _ _ _ _ _ _ us hl => match us, hl with | [_, _, _], _ => rfl
theorem bd_groupings_in (fx : Fx K mg ad fdv) : Binds K (fdv i_groupings_in) ["row"] [] := fx.d_groupings_in.bindsN fun _ _ _ _ _ _ us hl => match us, hl with | [_], _ => rfl
theorem bd_groupings_many (fx : Fx K mg ad fdv) : Binds K (fdv i_groupings_many) ["many"] [] := fx.d_groupings_many.bindsN fun _ _ _ _ _ _ us hl => match us, hl with | [_], _ => rfl
theorem bd_within_in (fx : Fx K mg ad fdv) : Binds K (fdv i_within_in) ["many", "deep"] [] := fx.d_within_in.bindsN fun _ _ _ _ _ _ us hl => match us, hl with | [_, _], _ => rfl
theorem bd_all_shapes (fx : Fx K mg ad fdv) : Binds K (fdv i_all_shapes) ["many"] [] := fx.d_all_shapes.bindsN fun _ _ _ _ _ _ us hl => match us, hl with | [_], _ => rfl
theorem bd_shapes_within (fx : Fx K mg ad fdv) : Binds K (fdv i_shapes_within) ["many", "deep"] [] := fx.d_shapes_within.bindsN fun _ _ _ _ _ _ us hl => match us, hl with | [_, _], _ => rfl
theorem bd__law_cup (fx : Fx K mg ad fdv) : Binds K (fdv i__law_cup) ["script"] [] := fx.d__law_cup.bindsN fun _ _ _ _ _ _ us hl => match us, hl with | [_], _ => rfl
theorem bd__law_roll (fx : Fx K mg ad fdv) : Binds K (fdv i__law_roll) ["cup", "many"] [] := fx.d__law_roll.bindsN fun _ _ _ _ _ _ us hl => match us, hl with | [_, _], _ => rfl
theorem bd__law_same (fx : Fx K mg ad fdv) : Binds K (fdv i__law_same) ["told", "due"] [] := fx.d__law_same.bindsN fun _ _ _ _ _ _ us hl => match us, hl with | [_, _], _ => rfl
theorem bd__law_groups (fx : Fx K mg ad fdv) : Binds K (fdv i__law_groups) ["row"] [] := fx.d__law_groups.bindsN fun _ _ _ _ _ _ us hl => match us, hl with | [_], _ => rfl
theorem bd__law_like (fx : Fx K mg ad fdv) : Binds K (fdv i__law_like) ["told", "due"] [] := fx.d__law_like.bindsN fun _ _ _ _ _ _ us hl => match us, hl with | [_, _], _ => rfl
theorem bd__law_all_like (fx : Fx K mg ad fdv) : Binds K (fdv i__law_all_like) ["told", "due"] [] := fx.d__law_all_like.bindsN fun _ _ _ _ _ _ us hl => match us, hl with | [_, _], _ => rfl
theorem bd__law_deepest (fx : Fx K mg ad fdv) : Binds K (fdv i__law_deepest) ["shape"] [] := fx.d__law_deepest.bindsN fun _ _ _ _ _ _ us hl => match us, hl with | [_], _ => rfl
theorem bd__law_less (fx : Fx K mg ad fdv) : Binds K (fdv i__law_less) ["many", "deep"] [] := fx.d__law_less.bindsN fun _ _ _ _ _ _ us hl => match us, hl with | [_, _], _ => rfl
structure Oks (P : Program) (w : World) (K : PySem.W.Frag) (mg : Str → Option Value) (base : Heap) (ad : Nat → Addr) (fdv : Nat → FuncData) (k : Nat) : Prop where
  fits_whole : FnOk P w K mg base CX0 k (ad i_fits_whole) (fdv i_fits_whole) ["value", "low", "high"] (spF (fun i => some (ad i)) false frF T k K i_fits_whole 3)
  groupings_in : FnOk P w K mg base CX0 k (ad i_groupings_in) (fdv i_groupings_in) ["row"] (spF (fun i => some (ad i)) false frF T k K i_groupings_in 1)
  groupings_many : FnOk P w K mg base CX0 k (ad i_groupings_many) (fdv i_groupings_many) ["many"] (spF (fun i => some (ad i)) false frF T k K i_groupings_many 1)
  within_in : FnOk P w K mg base CX0 k (ad i_within_in) (fdv i_within_in) ["many", "deep"] (spF (fun i => some (ad i)) false frF T k K i_within_in 2)
  all_shapes : FnOk P w K mg base CX0 k (ad i_all_shapes) (fdv i_all_shapes) ["many"] (spF (fun i => some (ad i)) false frF T k K i_all_shapes 1)
  shapes_within : FnOk P w K mg base CX0 k (ad i_shapes_within) (fdv i_shapes_within) ["many", "deep"] (spF (fun i => some (ad i)) false frF T k K i_shapes_within 2)
  _law_cup : FnOk P w K mg base CX0 k (ad i__law_cup) (fdv i__law_cup) ["script"] (spF (fun i => some (ad i)) false frF T k K i__law_cup 1)
  _law_roll : FnOk P w K mg base CX0 k (ad i__law_roll) (fdv i__law_roll) ["cup", "many"] (spF (fun i => some (ad i)) false frF T k K i__law_roll 2)
  _law_same : FnOk P w K mg base CX0 k (ad i__law_same) (fdv i__law_same) ["told", "due"] (spF (fun i => some (ad i)) false frF T k K i__law_same 2)
  _law_groups : FnOk P w K mg base CX0 k (ad i__law_groups) (fdv i__law_groups) ["row"] (spF (fun i => some (ad i)) false frF T k K i__law_groups 1)
  _law_like : FnOk P w K mg base CX0 k (ad i__law_like) (fdv i__law_like) ["told", "due"] (spF (fun i => some (ad i)) false frF T k K i__law_like 2)
  _law_all_like : FnOk P w K mg base CX0 k (ad i__law_all_like) (fdv i__law_all_like) ["told", "due"] (spF (fun i => some (ad i)) false frF T k K i__law_all_like 2)
  _law_deepest : FnOk P w K mg base CX0 k (ad i__law_deepest) (fdv i__law_deepest) ["shape"] (spF (fun i => some (ad i)) false frF T k K i__law_deepest 1)
  _law_less : FnOk P w K mg base CX0 k (ad i__law_less) (fdv i__law_less) ["many", "deep"] (spF (fun i => some (ad i)) false frF T k K i__law_less 2)
theorem st_fits_whole {k : Nat} (fx : Fx K mg ad fdv) (ih : Oks P w K mg base ad fdv k) : FnOk P w K mg base CX0 (k + 1) (ad i_fits_whole) (fdv i_fits_whole) ["value", "low", "high"] (spF (fun i => some (ad i)) false frF T (k + 1) K i_fits_whole 3) :=
  fn_ok (N := ["value", "low", "high"]) fx.d_fits_whole sc_fits_whole (by decide) rfl fun cdv A outer s H E hr => ⟨_, (ss_cons (l1 := [0, 0, 0]) (s_ret (se_and (se_isi (t := .int) rfl fx.m_isinstance rfl fx.m_int PyProof.Rows.boot_int (se_var (i := 0) rfl (vis_of rfl) (by decide) (by decide))) (se_and (se_not (se_isi (t := .bool) rfl fx.m_isinstance rfl fx.m_bool PyProof.Rows.boot_bool (se_var (i := 0) rfl (vis_of rfl) (by decide) (by decide)))) (se_one (se_cmp2 rfl rfl bl_le op_le op_le ok_le ok_le (se_var (i := 1) rfl (vis_of rfl) (by decide) (by decide)) (se_var (i := 0) rfl (vis_of rfl) (by decide) (by decide)) (se_var (i := 2) rfl (vis_of rfl) (by decide) (by decide)) (by with_unfolding_all rfl))))) (by decide) (.inl rfl)) ss_nil)⟩
theorem st_groupings_in {k : Nat} (fx : Fx K mg ad fdv) (ih : Oks P w K mg base ad fdv k) : FnOk P w K mg base CX0 (k + 1) (ad i_groupings_in) (fdv i_groupings_in) ["row"] (spF (fun i => some (ad i)) false frF T (k + 1) K i_groupings_in 1) :=
  fn_ok (N := ["row", "found", "at", "left", "right"]) fx.d_groupings_in sc_groupings_in (by decide) rfl fun cdv A outer s H E hr => ⟨_, (ss_cons (l1 := [0, 0, 0, 0, 0]) (s_if (st_cmp bl_eq (op_eqA (room64 hr)) ok_eq (se_len rfl fx.m_len (se_var (i := 0) rfl (vis_of rfl) (by decide) (by decide))) (se_cst pe_int fun _ _ _ => rep_int) (nomark _)) (by decide) (ss_cons (l1 := [0, 0, 0, 0, 0]) (s_ret (se_lst (sa_cons (se_o2 (pe_ix (ix_rule (room1 hr)) (se_var (i := 0) rfl (vis_of rfl) (by decide) (by decide)) (se_cst pe_int fun _ _ _ => rep_int) (fun _ _ => rfl)) (ok_ix rfl)) sa_nil rfl) (by decide)) (by decide) (.inl rfl)) ss_nil) (ss_post (l1 := [0, 0, 0, 0, 0]) (by decide) ss_nil)) (ss_cons (l1 := [0, 1, 0, 0, 0]) (S1.post (s_own (i := 1) (se_lst sa_nil (by decide)) rfl (by decide) (by decide) sc_groupings_in.nd rfl (loc_of rfl) (fnn_of rfl)) rfl) (ss_cons (s_for (l := [0, 1, 0, 0, 0]) PassesOwn.never rfl (si_e (se_range2 rfl fx.m_range (se_cst pe_int fun _ _ _ => rep_int) (se_len rfl fx.m_len (se_var (i := 0) rfl (vis_of rfl) (by decide) (by decide))))) (by decide) (sg_nm (i := 2) sc_groupings_in.nd rfl (loc_of rfl) (fnn_of rfl)) (ss_post (l1 := [0, 1, 0, 0, 0]) (by decide) (ss_cons (l1 := [0, 1, 0, 0, 0]) (s_augL (i := 1) rfl (se_lc2 rfl sc_groupings_in.nd (si_e (se_call ih.groupings_in (fun _ _ _ h => h) hr rfl fx.g_groupings_in fx.d_groupings_in.kp (bd_groupings_in fx) (sa_cons (se_slB (se_var (i := 0) rfl (vis_of rfl) (by decide) (by decide)) (se_var (i := 2) rfl (vis_of rfl) (by decide) (by decide))) sa_nil rfl) rfl)) (blkOk_by (own := [(("left" : Str), 3), (("right" : Str), 4)]) rfl) rfl (fun _ _ _ _ _ => (sg_nm (i := 3) sc_groupings_in.nd rfl (loc_of rfl) (fnn_of rfl))) (fun _ _ _ _ _ => sts_nil) (fun _ _ _ _ _ => (si_e (se_call ih.groupings_in (fun _ _ _ h => h) hr rfl fx.g_groupings_in fx.d_groupings_in.kp (bd_groupings_in fx) (sa_cons (se_slA (se_var (i := 0) rfl (vis_of rfl) (by decide) (by decide)) (se_var (i := 2) rfl (vis_of rfl) (by decide) (by decide))) sa_nil rfl) rfl))) (fun _ _ _ _ _ => (sg_nm (i := 4) sc_groupings_in.nd rfl (loc_of rfl) (fnn_of rfl))) (fun _ _ _ _ _ => sts_nil) (fun _ _ _ _ _ => (se_tup (sa_cons (se_var (i := 3) rfl (vis_of rfl) (by decide) (by decide)) (sa_cons (se_var (i := 4) rfl (vis_of rfl) (by decide) (by decide)) sa_nil rfl) rfl) (by decide))) (by decide) (by decide)) (by decide) sc_groupings_in.nd rfl (loc_of rfl) (fnn_of rfl)) ss_nil))) (ss_dem (l1 := [0, 0, 0, 0, 0]) (by decide) (ss_cons (l1 := [0, 0, 0, 0, 0]) (s_ret (se_var (i := 1) rfl (vis_of rfl) (by decide) (by decide)) (by decide) (.inl rfl)) ss_nil)))))⟩
theorem st_groupings_many {k : Nat} (fx : Fx K mg ad fdv) (ih : Oks P w K mg base ad fdv k) : FnOk P w K mg base CX0 (k + 1) (ad i_groupings_many) (fdv i_groupings_many) ["many"] (spF (fun i => some (ad i)) false frF T (k + 1) K i_groupings_many 1) :=
  fn_ok (N := ["many", "found", "at"]) fx.d_groupings_many sc_groupings_many (by decide) rfl fun cdv A outer s H E hr => ⟨_, (ss_cons (l1 := [0, 0, 0]) (s_if (st_not (st_val (se_call ih.fits_whole (fun _ _ _ h => h) hr rfl fx.g_fits_whole fx.d_fits_whole.kp (bd_fits_whole fx) (sa_cons (se_var (i := 0) rfl (vis_of rfl) (by decide) (by decide)) (sa_cons (se_cst pe_int fun _ _ _ => rep_int) (sa_cons (se_cst (pe_glob (v := .int 10) rfl fx.c_LONG.choose_spec ⟨_, rfl⟩) fun _ _ _ => rep_int) sa_nil rfl) rfl) rfl) rfl) (fun _ => rfl))) (by decide) (ss_cons (l1 := [0, 0, 0]) (s_raise (fun _ _ _ h => h) rfl) ss_nil) (ss_post (l1 := [0, 0, 0]) (by decide) ss_nil)) (ss_cons (l1 := [0, 1, 0]) (S1.post (s_own (i := 1) (se_lst (sa_cons (se_cst pe_int fun _ _ _ => rep_int) (sa_cons (se_cst pe_int fun _ _ _ => rep_int) sa_nil rfl) rfl) (by decide)) rfl (by decide) (by decide) sc_groupings_many.nd rfl (loc_of rfl) (fnn_of rfl)) rfl) (ss_cons (s_while (l := [0, 1, 0]) PassesOwn.never (st_cmp bl_le op_le ok_le (se_len rfl fx.m_len (se_var (i := 1) rfl (vis_of rfl) (by decide) (by decide))) (se_var (i := 0) rfl (vis_of rfl) (by decide) (by decide)) (nomark _)) (by decide) (ss_post (l1 := [0, 1, 0]) (by decide) (ss_cons (l1 := [0, 1, 0]) (s_app (i := 1) rfl (se_sum rfl rfl fx.m_sum (se_lc1 rfl sc_groupings_many.nd (si_e (se_range2 rfl fx.m_range (se_cst pe_int fun _ _ _ => rep_int) (se_len rfl fx.m_len (se_var (i := 1) rfl (vis_of rfl) (by decide) (by decide))))) (blkOk_by (own := [(("at" : Str), 2)]) rfl) rfl (fun _ _ _ _ _ => (sg_nm (i := 2) sc_groupings_many.nd rfl (loc_of rfl) (fnn_of rfl))) (fun _ _ _ _ _ => sts_nil) (fun _ _ _ _ _ => (se_o2 (pe_op op_mulW' (se_o2 (pe_ix (ix_rule (room1 hr)) (se_var (i := 1) rfl (vis_of rfl) (by decide) (by decide)) (se_var (i := 2) rfl (vis_of rfl) (by decide) (by decide)) (fun _ _ => rfl)) (ok_ix rfl)) (se_o2 (pe_ix (ix_rule (room1 hr)) (se_var (i := 1) rfl (vis_of rfl) (by decide) (by decide)) (se_o2 (pe_op op_sub (se_len rfl fx.m_len (se_var (i := 1) rfl (vis_of rfl) (by decide) (by decide))) (se_var (i := 2) rfl (vis_of rfl) (by decide) (by decide))) ok_sub) (fun _ _ => rfl)) (ok_ix rfl))) ok_mul)) (by decide))) (by decide) rfl (vis_of rfl) (by decide) (by decide)) ss_nil))) (ss_cons (l1 := [0, 1, 0]) (s_ret (se_o2 (pe_ix (ix_rule (room1 hr)) (se_var (i := 1) rfl (vis_of rfl) (by decide) (by decide)) (se_var (i := 0) rfl (vis_of rfl) (by decide) (by decide)) (fun _ _ => rfl)) (ok_ix rfl)) (by decide) (.inl rfl)) ss_nil))))⟩
theorem st_within_in {k : Nat} (fx : Fx K mg ad fdv) (ih : Oks P w K mg base ad fdv k) : FnOk P w K mg base CX0 (k + 1) (ad i_within_in) (fdv i_within_in) ["many", "deep"] (spF (fun i => some (ad i)) false frF T (k + 1) K i_within_in 2) :=
  fn_ok (N := ["many", "deep", "found", "turn", "wider", "size", "left"]) fx.d_within_in sc_within_in (by decide) rfl fun cdv A outer s H E hr => ⟨_, (ss_cons (l1 := [0, 0, 0, 0, 0, 0, 0]) (S1.post (s_asg (se_o2 (pe_op op_addAll (se_lst (sa_cons (se_cst pe_int fun _ _ _ => rep_int) (sa_cons (se_cst pe_int fun _ _ _ => rep_int) sa_nil rfl) rfl) (by decide)) (se_o2 (pe_op op_mulW' (se_lst (sa_cons (se_cst pe_int fun _ _ _ => rep_int) sa_nil rfl) (by decide)) (se_o2 (pe_op op_sub (se_var (i := 0) rfl (vis_of rfl) (by decide) (by decide)) (se_cst pe_int fun _ _ _ => rep_int)) ok_sub)) ok_mul)) ok_add) (sg_nm (i := 2) sc_within_in.nd rfl (loc_of rfl) (fnn_of rfl)) (by decide)) rfl) (ss_cons (s_for (l := [0, 0, 0, 0, 0, 0, 0]) PassesOwn.never rfl (si_e (se_range1 rfl fx.m_range (se_var (i := 1) rfl (vis_of rfl) (by decide) (by decide)))) (by decide) (sg_nm (i := 3) sc_within_in.nd rfl (loc_of rfl) (fnn_of rfl)) (ss_post (l1 := [0, 0, 0, 0, 0, 0, 0]) (by decide) (ss_cons (l1 := [0, 0, 0, 0, 1, 0, 0]) (S1.post (s_own (i := 4) (se_lst (sa_cons (se_cst pe_int fun _ _ _ => rep_int) (sa_cons (se_cst pe_int fun _ _ _ => rep_int) sa_nil rfl) rfl) (by decide)) rfl (by decide) (by decide) sc_within_in.nd rfl (loc_of rfl) (fnn_of rfl)) rfl) (ss_cons (s_for (l := [0, 0, 0, 0, 1, 0, 0]) PassesOwn.never rfl (si_e (se_range2 rfl fx.m_range (se_cst pe_int fun _ _ _ => rep_int) (se_o2 (pe_op op_addAll (se_var (i := 0) rfl (vis_of rfl) (by decide) (by decide)) (se_cst pe_int fun _ _ _ => rep_int)) ok_add))) (by decide) (sg_nm (i := 5) sc_within_in.nd rfl (loc_of rfl) (fnn_of rfl)) (ss_post (l1 := [0, 0, 0, 0, 1, 0, 0]) (by decide) (ss_cons (l1 := [0, 0, 0, 0, 1, 0, 0]) (s_app (i := 4) rfl (se_sum rfl rfl fx.m_sum (se_lc1 rfl sc_within_in.nd (si_e (se_range2 rfl fx.m_range (se_cst pe_int fun _ _ _ => rep_int) (se_var (i := 5) rfl (vis_of rfl) (by decide) (by decide)))) (blkOk_by (own := [(("left" : Str), 6)]) rfl) rfl (fun _ _ _ _ _ => (sg_nm (i := 6) sc_within_in.nd rfl (loc_of rfl) (fnn_of rfl))) (fun _ _ _ _ _ => sts_nil) (fun _ _ _ _ _ => (se_o2 (pe_op op_mulW' (se_o2 (pe_ix (ix_rule (room1 hr)) (se_var (i := 2) rfl (vis_of rfl) (by decide) (by decide)) (se_var (i := 6) rfl (vis_of rfl) (by decide) (by decide)) (fun _ _ => rfl)) (ok_ix rfl)) (se_o2 (pe_ix (ix_rule (room1 hr)) (se_var (i := 2) rfl (vis_of rfl) (by decide) (by decide)) (se_o2 (pe_op op_sub (se_var (i := 5) rfl (vis_of rfl) (by decide) (by decide)) (se_var (i := 6) rfl (vis_of rfl) (by decide) (by decide))) ok_sub) (fun _ _ => rfl)) (ok_ix rfl))) ok_mul)) (by decide))) (by decide) rfl (vis_of rfl) (by decide) (by decide)) ss_nil))) (ss_dem (l1 := [0, 0, 0, 0, 0, 0, 0]) (by decide) (ss_cons (l1 := [0, 0, 0, 0, 0, 0, 0]) (S1.post (s_asg (se_var (i := 4) rfl (vis_of rfl) (by decide) (by decide)) (sg_nm (i := 2) sc_within_in.nd rfl (loc_of rfl) (fnn_of rfl)) (by decide)) rfl) ss_nil)))))) (ss_cons (l1 := [0, 0, 0, 0, 0, 0, 0]) (s_ret (se_var (i := 2) rfl (vis_of rfl) (by decide) (by decide)) (by decide) (.inl rfl)) ss_nil)))⟩
theorem st_all_shapes {k : Nat} (fx : Fx K mg ad fdv) (ih : Oks P w K mg base ad fdv k) : FnOk P w K mg base CX0 (k + 1) (ad i_all_shapes) (fdv i_all_shapes) ["many"] (spF (fun i => some (ad i)) false frF T (k + 1) K i_all_shapes 1) :=
  fn_ok (N := ["many"]) fx.d_all_shapes sc_all_shapes (by decide) rfl fun cdv A outer s H E hr => ⟨_, (ss_cons (l1 := [0]) (s_if (st_not (st_val (se_call ih.fits_whole (fun _ _ _ h => h) hr rfl fx.g_fits_whole fx.d_fits_whole.kp (bd_fits_whole fx) (sa_cons (se_var (i := 0) rfl (vis_of rfl) (by decide) (by decide)) (sa_cons (se_cst pe_int fun _ _ _ => rep_int) (sa_cons (se_cst (pe_glob (v := .int 7) rfl fx.c_GROUPED.choose_spec ⟨_, rfl⟩) fun _ _ _ => rep_int) sa_nil rfl) rfl) rfl) rfl) (fun _ => rfl))) (by decide) (ss_cons (l1 := [0]) (s_raise (fun _ _ _ h => h) rfl) ss_nil) (ss_post (l1 := [0]) (by decide) ss_nil)) (ss_cons (l1 := [0]) (s_ret (se_tuple rfl rfl fx.m_tuple (se_call ih.groupings_in (fun _ _ _ h => h) hr rfl fx.g_groupings_in fx.d_groupings_in.kp (bd_groupings_in fx) (sa_cons (se_o2 (pe_op op_mulW' (se_tup (sa_cons (se_cst pe_int fun _ _ _ => rep_int) sa_nil rfl) (by decide)) (se_var (i := 0) rfl (vis_of rfl) (by decide) (by decide))) ok_mul) sa_nil rfl) rfl)) (by decide) (.inl rfl)) ss_nil))⟩
theorem st_shapes_within {k : Nat} (fx : Fx K mg ad fdv) (ih : Oks P w K mg base ad fdv k) : FnOk P w K mg base CX0 (k + 1) (ad i_shapes_within) (fdv i_shapes_within) ["many", "deep"] (spF (fun i => some (ad i)) false frF T (k + 1) K i_shapes_within 2) :=
  fn_ok (N := ["many", "deep"]) fx.d_shapes_within sc_shapes_within (by decide) rfl fun cdv A outer s H E hr => ⟨_, (ss_cons (l1 := [0, 0]) (s_if (SW.st (sw_or (st_not (st_val (se_call ih.fits_whole (fun _ _ _ h => h) hr rfl fx.g_fits_whole fx.d_fits_whole.kp (bd_fits_whole fx) (sa_cons (se_var (i := 0) rfl (vis_of rfl) (by decide) (by decide)) (sa_cons (se_cst pe_int fun _ _ _ => rep_int) (sa_cons (se_cst (pe_glob (v := .int 10) rfl fx.c_LONG.choose_spec ⟨_, rfl⟩) fun _ _ _ => rep_int) sa_nil rfl) rfl) rfl) rfl) (fun _ => rfl))) (sw_or1 (st_not (st_val (se_call ih.fits_whole (fun _ _ _ h => h) hr rfl fx.g_fits_whole fx.d_fits_whole.kp (bd_fits_whole fx) (sa_cons (se_var (i := 1) rfl (vis_of rfl) (by decide) (by decide)) (sa_cons (se_cst pe_int fun _ _ _ => rep_int) (sa_cons (se_cst (pe_glob (v := .int 10) rfl fx.c_LONG.choose_spec ⟨_, rfl⟩) fun _ _ _ => rep_int) sa_nil rfl) rfl) rfl) rfl) (fun _ => rfl)))))) (by decide) (ss_cons (l1 := [0, 0]) (s_raise (fun _ _ _ h => h) rfl) ss_nil) (ss_post (l1 := [0, 0]) (by decide) ss_nil)) (ss_cons (l1 := [0, 0]) (s_ret (se_o2 (pe_ix (ix_rule (room1 hr)) (se_call ih.within_in (fun _ _ _ h => h) hr rfl fx.g_within_in fx.d_within_in.kp (bd_within_in fx) (sa_cons (se_var (i := 0) rfl (vis_of rfl) (by decide) (by decide)) (sa_cons (se_var (i := 1) rfl (vis_of rfl) (by decide) (by decide)) sa_nil rfl) rfl) rfl) (se_var (i := 0) rfl (vis_of rfl) (by decide) (by decide)) (fun _ _ => rfl)) (ok_ix rfl)) (by decide) (.inl rfl)) ss_nil))⟩
theorem st__law_cup {k : Nat} (fx : Fx K mg ad fdv) (ih : Oks P w K mg base ad fdv k) : FnOk P w K mg base CX0 (k + 1) (ad i__law_cup) (fdv i__law_cup) ["script"] (spF (fun i => some (ad i)) false frF T (k + 1) K i__law_cup 1) :=
  fn_ok (N := ["script", "cell"]) fx.d__law_cup sc__law_cup (by decide) rfl fun cdv A outer s H E hr => ⟨_, (ss_cons (l1 := [0, 0]) (S1.post (s_asg (se_abs rfl fx.m_abs (se_o2 (pe_ix (ix_rule (room1 hr)) (se_o2 (pe_op op_addAll (se_list rfl rfl fx.m_list (se_var (i := 0) rfl (vis_of rfl) (by decide) (by decide))) (se_lst (sa_cons (se_cst pe_int fun _ _ _ => rep_int) sa_nil rfl) (by decide))) ok_add) (se_cst pe_int fun _ _ _ => rep_int) (fun _ _ => rfl)) (ok_ix rfl))) (sg_nm (i := 1) sc__law_cup.nd rfl (loc_of rfl) (fnn_of rfl)) (by decide)) rfl) (ss_cons (l1 := [0, 0]) (s_ret (se_lst (sa_cons (se_ite (st_cmp bl_ge op_ge ok_ge (se_var (i := 1) rfl (vis_of rfl) (by decide) (by decide)) (se_o2 (pe_op op_pow (se_cst pe_int fun _ _ _ => rep_int) (se_cst pe_int fun _ _ _ => rep_int)) ok_pow) (nomark _)) (se_o2 (pe_op op_fdiv (se_var (i := 1) rfl (vis_of rfl) (by decide) (by decide)) (se_cst pe_int fun _ _ _ => rep_int)) ok_fdiv) (se_cst pe_int fun _ _ _ => rep_int)) (sa_cons (se_o2 (pe_op op_addAll (se_o2 (pe_op op_mod (se_int rfl fx.m_int (se_o2 (pe_op op_addAll (se_o2 (pe_op op_mulW' (se_var (i := 1) rfl (vis_of rfl) (by decide) (by decide)) (se_cst pe_int fun _ _ _ => rep_int)) ok_mul) (se_cst pe_int fun _ _ _ => rep_int)) ok_add)) (se_cst pe_int fun _ _ _ => rep_int)) ok_mod) (se_cst pe_int fun _ _ _ => rep_int)) ok_add) sa_nil rfl) rfl) (by decide)) (by decide) (.inr rfl)) ss_nil))⟩
theorem st__law_roll {k : Nat} (fx : Fx K mg ad fdv) (ih : Oks P w K mg base ad fdv k) : FnOk P w K mg base CX0 (k + 1) (ad i__law_roll) (fdv i__law_roll) ["cup", "many"] (spF (fun i => some (ad i)) false frF T (k + 1) K i__law_roll 2) :=
  fn_ok (N := ["cup", "many", "deep", "found"]) fx.d__law_roll sc__law_roll (by decide) rfl fun cdv A outer s H E hr => ⟨_, (ss_cons (l1 := [0, 0, 0, 0]) (s_if (st_cmp bl_gt op_gt ok_gt (se_o2 (pe_ix (ix_rule (room1 hr)) (se_var (i := 0) rfl (vis_of rfl) (by decide) (by decide)) (se_cst pe_int fun _ _ _ => rep_int) (fun _ _ => rfl)) (ok_ix rfl)) (se_cst pe_int fun _ _ _ => rep_int) (nomark _)) (by decide) (ss_cons (l1 := [0, 0, 0, 0]) (S1.post (s_asg (se_o2 (pe_op op_mod (se_int rfl fx.m_int (se_o2 (pe_ix (ix_rule (room1 hr)) (se_var (i := 0) rfl (vis_of rfl) (by decide) (by decide)) (se_cst pe_int fun _ _ _ => rep_int) (fun _ _ => rfl)) (ok_ix rfl))) (se_var (i := 1) rfl (vis_of rfl) (by decide) (by decide))) ok_mod) (sg_nm (i := 3) sc__law_roll.nd rfl (loc_of rfl) (fnn_of rfl)) (by decide)) rfl) (ss_cons (l1 := [0, 0, 0, 0]) (S1.post (s_setc (i := 0) (se_o2 (pe_op op_fdiv (se_o2 (pe_ix (ix_rule (room1 hr)) (se_var (i := 0) rfl (vis_of rfl) (by decide) (by decide)) (se_cst pe_int fun _ _ _ => rep_int) (fun _ _ => rfl)) (ok_ix rfl)) (se_var (i := 1) rfl (vis_of rfl) (by decide) (by decide))) ok_fdiv) (se_cst pe_int fun _ _ _ => rep_int) (by decide) (by decide) rfl (vis_of rfl) (by decide) (by decide)) rfl) (ss_cons (l1 := [0, 0, 0, 0]) (s_ret (se_var (i := 3) rfl (vis_of rfl) (by decide) (by decide)) (by decide) (.inl rfl)) ss_nil))) (ss_post (l1 := [0, 0, 0, 0]) (by decide) ss_nil)) (ss_cons (l1 := [0, 0, 0, 0]) (S1.post (s_setc (i := 0) (se_o2 (pe_op op_mod (se_int rfl fx.m_int (se_o2 (pe_op op_addAll (se_o2 (pe_op op_mulW' (se_o2 (pe_ix (ix_rule (room1 hr)) (se_var (i := 0) rfl (vis_of rfl) (by decide) (by decide)) (se_cst pe_int fun _ _ _ => rep_int) (fun _ _ => rfl)) (ok_ix rfl)) (se_cst pe_int fun _ _ _ => rep_int)) ok_mul) (se_cst pe_int fun _ _ _ => rep_int)) ok_add)) (se_cst pe_int fun _ _ _ => rep_int)) ok_mod) (se_cst pe_int fun _ _ _ => rep_int) (by decide) (by decide) rfl (vis_of rfl) (by decide) (by decide)) rfl) (ss_cons (l1 := [0, 0, 0, 0]) (S1.post (s_asg (se_o2 (pe_op op_mod (se_int rfl fx.m_int (se_o2 (pe_op op_mulW' (se_o2 (pe_ix (ix_rule (room1 hr)) (se_var (i := 0) rfl (vis_of rfl) (by decide) (by decide)) (se_cst pe_int fun _ _ _ => rep_int) (fun _ _ => rfl)) (ok_ix rfl)) (se_o2 (pe_op op_addAll (se_o2 (pe_ix (ix_rule (room1 hr)) (se_var (i := 0) rfl (vis_of rfl) (by decide) (by decide)) (se_cst pe_int fun _ _ _ => rep_int) (fun _ _ => rfl)) (ok_ix rfl)) (se_cst pe_int fun _ _ _ => rep_int)) ok_add)) ok_mul)) (se_cst pe_int fun _ _ _ => rep_int)) ok_mod) (sg_nm (i := 2) sc__law_roll.nd rfl (loc_of rfl) (fnn_of rfl)) (by decide)) rfl) (ss_cons (l1 := [0, 0, 0, 0]) (s_ret (se_o2 (pe_op op_mod (se_int rfl fx.m_int (se_o2 (pe_op op_fdiv (se_var (i := 2) rfl (vis_of rfl) (by decide) (by decide)) (se_cst pe_int fun _ _ _ => rep_int)) ok_fdiv)) (se_var (i := 1) rfl (vis_of rfl) (by decide) (by decide))) ok_mod) (by decide) (.inl rfl)) ss_nil))))⟩
theorem st__law_same {k : Nat} (fx : Fx K mg ad fdv) (ih : Oks P w K mg base ad fdv k) : FnOk P w K mg base CX0 (k + 1) (ad i__law_same) (fdv i__law_same) ["told", "due"] (spF (fun i => some (ad i)) false frF T (k + 1) K i__law_same 2) :=
  fn_ok (N := ["told", "due", "at"]) fx.d__law_same sc__law_same (by decide) rfl fun cdv A outer s H E hr => ⟨_, (ss_cons (l1 := [0, 0, 0]) (s_if (st_val (se_isi (t := .tuple) rfl fx.m_isinstance rfl fx.m_tuple PyProof.Rows.boot_tuple (se_var (i := 1) rfl (vis_of rfl) (by decide) (by decide))) (fun _ => rfl)) (by decide) (ss_cons (l1 := [0, 0, 0]) (s_if (SW.st (sw_or (st_not (st_val (se_isi (t := .tuple) rfl fx.m_isinstance rfl fx.m_tuple PyProof.Rows.boot_tuple (se_var (i := 0) rfl (vis_of rfl) (by decide) (by decide))) (fun _ => rfl))) (sw_or1 (st_cmp bl_ne (op_neA (room64 hr)) ok_ne (se_len rfl fx.m_len (se_var (i := 0) rfl (vis_of rfl) (by decide) (by decide))) (se_len rfl fx.m_len (se_var (i := 1) rfl (vis_of rfl) (by decide) (by decide))) (nomark _))))) (by decide) (ss_cons (l1 := [0, 0, 0]) (s_ret (se_cst pe_bl fun _ _ _ => rep_bl) (by decide) (.inl rfl)) ss_nil) (ss_post (l1 := [0, 0, 0]) (by decide) ss_nil)) (ss_cons (l1 := [0, 0, 0]) (s_ret (se_all rfl rfl fx.m_all (se_lc1 rfl sc__law_same.nd (si_e (se_range1 rfl fx.m_range (se_len rfl fx.m_len (se_var (i := 1) rfl (vis_of rfl) (by decide) (by decide))))) (blkOk_by (own := [(("at" : Str), 2)]) rfl) rfl (fun _ _ _ _ _ => (sg_nm (i := 2) sc__law_same.nd rfl (loc_of rfl) (fnn_of rfl))) (fun _ _ _ _ _ => sts_nil) (fun _ _ _ _ _ => (se_call ih._law_same (fun _ _ _ h => h) hr rfl fx.g__law_same fx.d__law_same.kp (bd__law_same fx) (sa_cons (se_o2 (pe_ix (ix_rule (room1 hr)) (se_var (i := 0) rfl (vis_of rfl) (by decide) (by decide)) (se_var (i := 2) rfl (vis_of rfl) (by decide) (by decide)) (fun _ _ => rfl)) (ok_ix rfl)) (sa_cons (se_o2 (pe_ix (ix_rule (room1 hr)) (se_var (i := 1) rfl (vis_of rfl) (by decide) (by decide)) (se_var (i := 2) rfl (vis_of rfl) (by decide) (by decide)) (fun _ _ => rfl)) (ok_ix rfl)) sa_nil rfl) rfl) rfl)) (by decide))) (by decide) (.inl rfl)) ss_nil)) (ss_post (l1 := [0, 0, 0]) (by decide) ss_nil)) (ss_cons (l1 := [0, 0, 0]) (s_if (st_cmp bl_is (is_rule (neg := false)) ok_is (se_var (i := 1) rfl (vis_of rfl) (by decide) (by decide)) (se_cst pe_non fun _ _ _ => rep_non) (nomark _)) (by decide) (ss_cons (l1 := [0, 0, 0]) (s_ret (se_cmp (is_rule (neg := false)) ok_is (se_var (i := 0) rfl (vis_of rfl) (by decide) (by decide)) (se_cst pe_non fun _ _ _ => rep_non) (nomark _)) (by decide) (.inl rfl)) ss_nil) (ss_post (l1 := [0, 0, 0]) (by decide) ss_nil)) (ss_cons (l1 := [0, 0, 0]) (s_if (st_val (se_isi (t := .bool) rfl fx.m_isinstance rfl fx.m_bool PyProof.Rows.boot_bool (se_var (i := 1) rfl (vis_of rfl) (by decide) (by decide))) (fun _ => rfl)) (by decide) (ss_cons (l1 := [0, 0, 0]) (s_ret (se_ite (st_val (se_var (i := 1) rfl (vis_of rfl) (by decide) (by decide)) (fun _ => rfl)) (se_cmp (is_rule (neg := false)) ok_is (se_var (i := 0) rfl (vis_of rfl) (by decide) (by decide)) (se_cst pe_bl fun _ _ _ => rep_bl) (nomark _)) (se_cmp (is_rule (neg := false)) ok_is (se_var (i := 0) rfl (vis_of rfl) (by decide) (by decide)) (se_cst pe_bl fun _ _ _ => rep_bl) (nomark _))) (by decide) (.inl rfl)) ss_nil) (ss_post (l1 := [0, 0, 0]) (by decide) ss_nil)) (ss_cons (l1 := [0, 0, 0]) (s_if (st_val (se_isi (t := .int) rfl fx.m_isinstance rfl fx.m_int PyProof.Rows.boot_int (se_var (i := 1) rfl (vis_of rfl) (by decide) (by decide))) (fun _ => rfl)) (by decide) (ss_cons (l1 := [0, 0, 0]) (s_ret (se_and (se_isi (t := .int) rfl fx.m_isinstance rfl fx.m_int PyProof.Rows.boot_int (se_var (i := 0) rfl (vis_of rfl) (by decide) (by decide))) (se_and (se_not (se_isi (t := .bool) rfl fx.m_isinstance rfl fx.m_bool PyProof.Rows.boot_bool (se_var (i := 0) rfl (vis_of rfl) (by decide) (by decide)))) (se_one (se_cmp (op_eqA (room64 hr)) ok_eq (se_int rfl fx.m_int (se_var (i := 0) rfl (vis_of rfl) (by decide) (by decide))) (se_var (i := 1) rfl (vis_of rfl) (by decide) (by decide)) (nomark _))))) (by decide) (.inl rfl)) ss_nil) (ss_post (l1 := [0, 0, 0]) (by decide) ss_nil)) (ss_cons (l1 := [0, 0, 0]) (s_ret (se_and (se_isi (t := .str) rfl fx.m_isinstance rfl fx.m_str PyProof.Rows.boot_str (se_var (i := 0) rfl (vis_of rfl) (by decide) (by decide))) (se_one (se_cmp (op_eqA (room64 hr)) ok_eq (se_str rfl fx.m_str (se_var (i := 0) rfl (vis_of rfl) (by decide) (by decide))) (se_var (i := 1) rfl (vis_of rfl) (by decide) (by decide)) (nomark _)))) (by decide) (.inl rfl)) ss_nil)))))⟩
theorem st__law_groups {k : Nat} (fx : Fx K mg ad fdv) (ih : Oks P w K mg base ad fdv k) : FnOk P w K mg base CX0 (k + 1) (ad i__law_groups) (fdv i__law_groups) ["row"] (spF (fun i => some (ad i)) false frF T (k + 1) K i__law_groups 1) :=
  fn_ok (N := ["row", "found", "at", "left", "right"]) fx.d__law_groups sc__law_groups (by decide) rfl fun cdv A outer s H E hr => ⟨_, (ss_cons (l1 := [0, 0, 0, 0, 0]) (s_if (st_cmp bl_eq (op_eqA (room64 hr)) ok_eq (se_len rfl fx.m_len (se_var (i := 0) rfl (vis_of rfl) (by decide) (by decide))) (se_cst pe_int fun _ _ _ => rep_int) (nomark _)) (by decide) (ss_cons (l1 := [0, 0, 0, 0, 0]) (s_ret (se_lst (sa_cons (se_o2 (pe_ix (ix_rule (room1 hr)) (se_var (i := 0) rfl (vis_of rfl) (by decide) (by decide)) (se_cst pe_int fun _ _ _ => rep_int) (fun _ _ => rfl)) (ok_ix rfl)) sa_nil rfl) (by decide)) (by decide) (.inl rfl)) ss_nil) (ss_post (l1 := [0, 0, 0, 0, 0]) (by decide) ss_nil)) (ss_cons (l1 := [0, 0, 0, 0, 0]) (S1.post (s_asg (se_lst sa_nil (by decide)) (sg_nm (i := 1) sc__law_groups.nd rfl (loc_of rfl) (fnn_of rfl)) (by decide)) rfl) (ss_cons (s_for (l := [0, 0, 0, 0, 0]) PassesOwn.never rfl (si_e (se_range2 rfl fx.m_range (se_cst pe_int fun _ _ _ => rep_int) (se_len rfl fx.m_len (se_var (i := 0) rfl (vis_of rfl) (by decide) (by decide))))) (by decide) (sg_nm (i := 2) sc__law_groups.nd rfl (loc_of rfl) (fnn_of rfl)) (ss_post (l1 := [0, 0, 0, 0, 0]) (by decide) (ss_cons (s_for (l := [0, 0, 0, 0, 0]) PassesOwn.never rfl (si_e (se_call ih._law_groups (fun _ _ _ h => h) hr rfl fx.g__law_groups fx.d__law_groups.kp (bd__law_groups fx) (sa_cons (se_slB (se_var (i := 0) rfl (vis_of rfl) (by decide) (by decide)) (se_var (i := 2) rfl (vis_of rfl) (by decide) (by decide))) sa_nil rfl) rfl)) (by decide) (sg_nm (i := 3) sc__law_groups.nd rfl (loc_of rfl) (fnn_of rfl)) (ss_post (l1 := [0, 0, 0, 0, 0]) (by decide) (ss_cons (l1 := [0, 0, 0, 0, 0]) (S1.post (s_asg (se_o2 (pe_op op_addAll (se_var (i := 1) rfl (vis_of rfl) (by decide) (by decide)) (se_lc1 rfl sc__law_groups.nd (si_e (se_call ih._law_groups (fun _ _ _ h => h) hr rfl fx.g__law_groups fx.d__law_groups.kp (bd__law_groups fx) (sa_cons (se_slA (se_var (i := 0) rfl (vis_of rfl) (by decide) (by decide)) (se_var (i := 2) rfl (vis_of rfl) (by decide) (by decide))) sa_nil rfl) rfl)) (blkOk_by (own := [(("right" : Str), 4)]) rfl) rfl (fun _ _ _ _ _ => (sg_nm (i := 4) sc__law_groups.nd rfl (loc_of rfl) (fnn_of rfl))) (fun _ _ _ _ _ => sts_nil) (fun _ _ _ _ _ => (se_tup (sa_cons (se_var (i := 3) rfl (vis_of rfl) (by decide) (by decide)) (sa_cons (se_var (i := 4) rfl (vis_of rfl) (by decide) (by decide)) sa_nil rfl) rfl) (by decide))) (by decide))) ok_add) (sg_nm (i := 1) sc__law_groups.nd rfl (loc_of rfl) (fnn_of rfl)) (by decide)) rfl) ss_nil))) ss_nil))) (ss_cons (l1 := [0, 0, 0, 0, 0]) (s_ret (se_var (i := 1) rfl (vis_of rfl) (by decide) (by decide)) (by decide) (.inl rfl)) ss_nil))))⟩
theorem st__law_like {k : Nat} (fx : Fx K mg ad fdv) (ih : Oks P w K mg base ad fdv k) : FnOk P w K mg base CX0 (k + 1) (ad i__law_like) (fdv i__law_like) ["told", "due"] (spF (fun i => some (ad i)) false frF T (k + 1) K i__law_like 2) :=
  fn_ok (N := ["told", "due"]) fx.d__law_like sc__law_like (by decide) rfl fun cdv A outer s H E hr => ⟨_, (ss_cons (l1 := [0, 0]) (s_if (st_val (se_isi (t := .tuple) rfl fx.m_isinstance rfl fx.m_tuple PyProof.Rows.boot_tuple (se_var (i := 1) rfl (vis_of rfl) (by decide) (by decide))) (fun _ => rfl)) (by decide) (ss_cons (l1 := [0, 0]) (s_ret (se_and (se_isi (t := .tuple) rfl fx.m_isinstance rfl fx.m_tuple PyProof.Rows.boot_tuple (se_var (i := 0) rfl (vis_of rfl) (by decide) (by decide))) (se_and (se_cmp (op_eqA (room64 hr)) ok_eq (se_len rfl fx.m_len (se_var (i := 0) rfl (vis_of rfl) (by decide) (by decide))) (se_cst pe_int fun _ _ _ => rep_int) (nomark _)) (se_and (se_call ih._law_like (fun _ _ _ h => h) hr rfl fx.g__law_like fx.d__law_like.kp (bd__law_like fx) (sa_cons (se_o2 (pe_ix (ix_rule (room1 hr)) (se_var (i := 0) rfl (vis_of rfl) (by decide) (by decide)) (se_cst pe_int fun _ _ _ => rep_int) (fun _ _ => rfl)) (ok_ix rfl)) (sa_cons (se_o2 (pe_ix (ix_rule (room1 hr)) (se_var (i := 1) rfl (vis_of rfl) (by decide) (by decide)) (se_cst pe_int fun _ _ _ => rep_int) (fun _ _ => rfl)) (ok_ix rfl)) sa_nil rfl) rfl) rfl) (se_one (se_call ih._law_like (fun _ _ _ h => h) hr rfl fx.g__law_like fx.d__law_like.kp (bd__law_like fx) (sa_cons (se_o2 (pe_ix (ix_rule (room1 hr)) (se_var (i := 0) rfl (vis_of rfl) (by decide) (by decide)) (se_cst pe_int fun _ _ _ => rep_int) (fun _ _ => rfl)) (ok_ix rfl)) (sa_cons (se_o2 (pe_ix (ix_rule (room1 hr)) (se_var (i := 1) rfl (vis_of rfl) (by decide) (by decide)) (se_cst pe_int fun _ _ _ => rep_int) (fun _ _ => rfl)) (ok_ix rfl)) sa_nil rfl) rfl) rfl))))) (by decide) (.inl rfl)) ss_nil) (ss_post (l1 := [0, 0]) (by decide) ss_nil)) (ss_cons (l1 := [0, 0]) (s_ret (se_call ih._law_same (fun _ _ _ h => h) hr rfl fx.g__law_same fx.d__law_same.kp (bd__law_same fx) (sa_cons (se_var (i := 0) rfl (vis_of rfl) (by decide) (by decide)) (sa_cons (se_var (i := 1) rfl (vis_of rfl) (by decide) (by decide)) sa_nil rfl) rfl) rfl) (by decide) (.inl rfl)) ss_nil))⟩
theorem st__law_all_like {k : Nat} (fx : Fx K mg ad fdv) (ih : Oks P w K mg base ad fdv k) : FnOk P w K mg base CX0 (k + 1) (ad i__law_all_like) (fdv i__law_all_like) ["told", "due"] (spF (fun i => some (ad i)) false frF T (k + 1) K i__law_all_like 2) :=
  fn_ok (N := ["told", "due", "at"]) fx.d__law_all_like sc__law_all_like (by decide) rfl fun cdv A outer s H E hr => ⟨_, (ss_cons (l1 := [0, 0, 0]) (s_ret (se_and (se_isi (t := .tuple) rfl fx.m_isinstance rfl fx.m_tuple PyProof.Rows.boot_tuple (se_var (i := 0) rfl (vis_of rfl) (by decide) (by decide))) (se_and (se_cmp (op_eqA (room64 hr)) ok_eq (se_len rfl fx.m_len (se_var (i := 0) rfl (vis_of rfl) (by decide) (by decide))) (se_len rfl fx.m_len (se_var (i := 1) rfl (vis_of rfl) (by decide) (by decide))) (nomark _)) (se_one (se_cmp (op_eqA (room64 hr)) ok_eq (se_lc1 rfl sc__law_all_like.nd (si_e (se_range1 rfl fx.m_range (se_len rfl fx.m_len (se_var (i := 1) rfl (vis_of rfl) (by decide) (by decide))))) (blkOk_by (own := [(("at" : Str), 2)]) rfl) rfl (fun _ _ _ _ _ => (sg_nm (i := 2) sc__law_all_like.nd rfl (loc_of rfl) (fnn_of rfl))) (fun _ _ _ _ _ => (sts_one (st_not (st_val (se_call ih._law_like (fun _ _ _ h => h) hr rfl fx.g__law_like fx.d__law_like.kp (bd__law_like fx) (sa_cons (se_o2 (pe_ix (ix_rule (room1 hr)) (se_var (i := 0) rfl (vis_of rfl) (by decide) (by decide)) (se_var (i := 2) rfl (vis_of rfl) (by decide) (by decide)) (fun _ _ => rfl)) (ok_ix rfl)) (sa_cons (se_o2 (pe_ix (ix_rule (room1 hr)) (se_var (i := 1) rfl (vis_of rfl) (by decide) (by decide)) (se_var (i := 2) rfl (vis_of rfl) (by decide) (by decide)) (fun _ _ => rfl)) (ok_ix rfl)) sa_nil rfl) rfl) rfl) (fun _ => rfl))))) (fun _ _ _ _ _ => (se_var (i := 2) rfl (vis_of rfl) (by decide) (by decide))) (by decide)) (se_lst sa_nil (by decide)) (nomark _))))) (by decide) (.inl rfl)) ss_nil)⟩
theorem st__law_deepest {k : Nat} (fx : Fx K mg ad fdv) (ih : Oks P w K mg base ad fdv k) : FnOk P w K mg base CX0 (k + 1) (ad i__law_deepest) (fdv i__law_deepest) ["shape"] (spF (fun i => some (ad i)) false frF T (k + 1) K i__law_deepest 1) :=
  fn_ok (N := ["shape"]) fx.d__law_deepest sc__law_deepest (by decide) rfl fun cdv A outer s H E hr => ⟨_, (ss_cons (l1 := [0]) (s_ret (se_ite (st_val (se_isi (t := .tuple) rfl fx.m_isinstance rfl fx.m_tuple PyProof.Rows.boot_tuple (se_var (i := 0) rfl (vis_of rfl) (by decide) (by decide))) (fun _ => rfl)) (se_o2 (pe_op op_addAll (se_cst pe_int fun _ _ _ => rep_int) (se_max2 rfl rfl fx.m_max (se_call ih._law_deepest (fun _ _ _ h => h) hr rfl fx.g__law_deepest fx.d__law_deepest.kp (bd__law_deepest fx) (sa_cons (se_o2 (pe_ix (ix_rule (room1 hr)) (se_var (i := 0) rfl (vis_of rfl) (by decide) (by decide)) (se_cst pe_int fun _ _ _ => rep_int) (fun _ _ => rfl)) (ok_ix rfl)) sa_nil rfl) rfl) (se_call ih._law_deepest (fun _ _ _ h => h) hr rfl fx.g__law_deepest fx.d__law_deepest.kp (bd__law_deepest fx) (sa_cons (se_o2 (pe_ix (ix_rule (room1 hr)) (se_var (i := 0) rfl (vis_of rfl) (by decide) (by decide)) (se_cst pe_int fun _ _ _ => rep_int) (fun _ _ => rfl)) (ok_ix rfl)) sa_nil rfl) rfl))) ok_add) (se_cst pe_int fun _ _ _ => rep_int)) (by decide) (.inl rfl)) ss_nil)⟩
theorem st__law_less {k : Nat} (fx : Fx K mg ad fdv) (ih : Oks P w K mg base ad fdv k) : FnOk P w K mg base CX0 (k + 1) (ad i__law_less) (fdv i__law_less) ["many", "deep"] (spF (fun i => some (ad i)) false frF T (k + 1) K i__law_less 2) :=
  fn_ok (N := ["many", "deep", "left"]) fx.d__law_less sc__law_less (by decide) rfl fun cdv A outer s H E hr => ⟨_, (ss_cons (l1 := [0, 0, 0]) (s_if (st_cmp bl_eq (op_eqA (room64 hr)) ok_eq (se_var (i := 0) rfl (vis_of rfl) (by decide) (by decide)) (se_cst pe_int fun _ _ _ => rep_int) (nomark _)) (by decide) (ss_cons (l1 := [0, 0, 0]) (s_ret (se_cst pe_int fun _ _ _ => rep_int) (by decide) (.inl rfl)) ss_nil) (ss_post (l1 := [0, 0, 0]) (by decide) ss_nil)) (ss_cons (l1 := [0, 0, 0]) (s_ret (se_ite (st_cmp bl_gt op_gt ok_gt (se_var (i := 1) rfl (vis_of rfl) (by decide) (by decide)) (se_cst pe_int fun _ _ _ => rep_int) (nomark _)) (se_sum rfl rfl fx.m_sum (se_lc1 rfl sc__law_less.nd (si_e (se_range2 rfl fx.m_range (se_cst pe_int fun _ _ _ => rep_int) (se_var (i := 0) rfl (vis_of rfl) (by decide) (by decide)))) (blkOk_by (own := [(("left" : Str), 2)]) rfl) rfl (fun _ _ _ _ _ => (sg_nm (i := 2) sc__law_less.nd rfl (loc_of rfl) (fnn_of rfl))) (fun _ _ _ _ _ => sts_nil) (fun _ _ _ _ _ => (se_o2 (pe_op op_mulW' (se_call ih._law_less (fun _ _ _ h => h) hr rfl fx.g__law_less fx.d__law_less.kp (bd__law_less fx) (sa_cons (se_var (i := 2) rfl (vis_of rfl) (by decide) (by decide)) (sa_cons (se_o2 (pe_op op_sub (se_var (i := 1) rfl (vis_of rfl) (by decide) (by decide)) (se_cst pe_int fun _ _ _ => rep_int)) ok_sub) sa_nil rfl) rfl) rfl) (se_call ih._law_less (fun _ _ _ h => h) hr rfl fx.g__law_less fx.d__law_less.kp (bd__law_less fx) (sa_cons (se_o2 (pe_op op_sub (se_var (i := 0) rfl (vis_of rfl) (by decide) (by decide)) (se_var (i := 2) rfl (vis_of rfl) (by decide) (by decide))) ok_sub) (sa_cons (se_o2 (pe_op op_sub (se_var (i := 1) rfl (vis_of rfl) (by decide) (by decide)) (se_cst pe_int fun _ _ _ => rep_int)) ok_sub) sa_nil rfl) rfl) rfl)) ok_mul)) (by decide))) (se_cst pe_int fun _ _ _ => rep_int)) (by decide) (.inl rfl)) ss_nil))⟩
theorem oks_zero : Oks P w K mg base ad fdv 0 := ⟨fn_zero, fn_zero, fn_zero, fn_zero, fn_zero, fn_zero, fn_zero, fn_zero, fn_zero, fn_zero, fn_zero, fn_zero, fn_zero, fn_zero⟩
theorem oks (fx : Fx K mg ad fdv) : ∀ k, Oks P w K mg base ad fdv k
  | 0 => oks_zero
  | k + 1 => have ih := oks fx k; ⟨st_fits_whole fx ih, st_groupings_in fx ih, st_groupings_many fx ih, st_within_in fx ih, st_all_shapes fx ih, st_shapes_within fx ih, st__law_cup fx ih, st__law_roll fx ih, st__law_same fx ih, st__law_groups fx ih, st__law_like fx ih, st__law_all_like fx ih, st__law_deepest fx ih, st__law_less fx ih⟩
theorem st_law {k : Nat} (hlaw : ∀ ns : List Int, ns.length ≤ 1000000 → ∃ κ, run T (k + 1) i_law [.scr ns] (0, 0) = .ok (.bl true) κ) (fx : Fx K mg ad fdv) : FnOk P w K mg base CX0 (k + 1) (ad i_law) (fdv i_law) ["script"] (spLaw K) := by
  have ih : Oks P w K mg base ad fdv k := oks fx k
  exact law_ok (N := ["script", "told", "many", "cup", "turn", "shapes", "deepest", "deep", "shape", "own"]) (fa := fun i => some (ad i)) (kt := false) (fr := frF) fx.d_law sc_law (by decide) rfl hlaw fun cdv A outer s H E hr => ⟨_, (ss_cons (l1 := [0, 0, 0, 0, 0, 0, 0, 0, 0, 0, 7]) (S1.post (s_asg (se_tup (sa_cons (se_call ih.all_shapes (fun _ _ _ h => h) hr rfl fx.g_all_shapes fx.d_all_shapes.kp (bd_all_shapes fx) (sa_cons (se_cst pe_int fun _ _ _ => rep_int) sa_nil rfl) rfl) (sa_cons (se_call ih.all_shapes (fun _ _ _ h => h) hr rfl fx.g_all_shapes fx.d_all_shapes.kp (bd_all_shapes fx) (sa_cons (se_cst pe_int fun _ _ _ => rep_int) sa_nil rfl) rfl) (sa_cons (se_tuple rfl rfl fx.m_tuple (se_lc1 rfl sc_law.nd (si_e (se_tup (sa_cons (se_cst pe_int fun _ _ _ => rep_int) (sa_cons (se_cst pe_int fun _ _ _ => rep_int) (sa_cons (se_cst pe_int fun _ _ _ => rep_int) (sa_cons (se_cst pe_int fun _ _ _ => rep_int) sa_nil rfl) rfl) rfl) rfl) (by decide))) (blkOk_by (own := [(("deep" : Str), 7)]) rfl) rfl (fun _ _ _ _ _ => (sg_nm (i := 7) sc_law.nd rfl (loc_of rfl) (fnn_of rfl))) (fun _ _ _ _ _ => sts_nil) (fun _ _ _ _ _ => (se_call ih.shapes_within (fun _ _ _ h => h) hr rfl fx.g_shapes_within fx.d_shapes_within.kp (bd_shapes_within fx) (sa_cons (se_cst pe_int fun _ _ _ => rep_int) (sa_cons (se_var (i := 7) rfl (vis_of rfl) (by decide) (by decide)) sa_nil rfl) rfl) rfl)) (by decide))) (sa_cons (se_call ih.shapes_within (fun _ _ _ h => h) hr rfl fx.g_shapes_within fx.d_shapes_within.kp (bd_shapes_within fx) (sa_cons (se_cst pe_int fun _ _ _ => rep_int) (sa_cons (se_cst pe_int fun _ _ _ => rep_int) sa_nil rfl) rfl) rfl) (sa_cons (se_call ih.shapes_within (fun _ _ _ h => h) hr rfl fx.g_shapes_within fx.d_shapes_within.kp (bd_shapes_within fx) (sa_cons (se_cst pe_int fun _ _ _ => rep_int) (sa_cons (se_cst pe_int fun _ _ _ => rep_int) sa_nil rfl) rfl) rfl) sa_nil rfl) rfl) rfl) rfl) rfl) (by decide)) (sg_nm (i := 1) sc_law.nd rfl (loc_of rfl) (fnn_of rfl)) (by decide)) rfl) (ss_cons (l1 := [0, 0, 0, 0, 0, 0, 0, 0, 0, 0, 7]) (s_if (st_not (st_val (se_call ih._law_same (fun _ _ _ h => h) hr rfl fx.g__law_same fx.d__law_same.kp (bd__law_same fx) (sa_cons (se_var (i := 1) rfl (vis_of rfl) (by decide) (by decide)) (sa_cons (se_tup (sa_cons (se_tup (sa_cons (se_cst pe_int fun _ _ _ => rep_int) sa_nil rfl) (by decide)) (sa_cons (se_tup (sa_cons (se_tup (sa_cons (se_cst pe_int fun _ _ _ => rep_int) (sa_cons (se_tup (sa_cons (se_cst pe_int fun _ _ _ => rep_int) (sa_cons (se_cst pe_int fun _ _ _ => rep_int) sa_nil rfl) rfl) (by decide)) sa_nil rfl) rfl) (by decide)) (sa_cons (se_tup (sa_cons (se_tup (sa_cons (se_cst pe_int fun _ _ _ => rep_int) (sa_cons (se_cst pe_int fun _ _ _ => rep_int) sa_nil rfl) rfl) (by decide)) (sa_cons (se_cst pe_int fun _ _ _ => rep_int) sa_nil rfl) rfl) (by decide)) sa_nil rfl) rfl) (by decide)) (sa_cons (se_tup (sa_cons (se_cst pe_int fun _ _ _ => rep_int) (sa_cons (se_cst pe_int fun _ _ _ => rep_int) (sa_cons (se_cst pe_int fun _ _ _ => rep_int) (sa_cons (se_cst pe_int fun _ _ _ => rep_int) sa_nil rfl) rfl) rfl) rfl) (by decide)) (sa_cons (se_cst pe_int fun _ _ _ => rep_int) (sa_cons (se_cst pe_int fun _ _ _ => rep_int) sa_nil rfl) rfl) rfl) rfl) rfl) (by decide)) sa_nil rfl) rfl) rfl) (fun _ => rfl))) (by decide) (ss_cons (l1 := [0, 0, 0, 0, 0, 0, 0, 0, 0, 0, 7]) (s_ret (se_cst pe_bl fun _ _ _ => rep_bl) (by decide) (.inl rfl)) ss_nil) (ss_post (l1 := [0, 0, 0, 0, 0, 0, 0, 0, 0, 0, 7]) (by decide) ss_nil)) (ss_cons (l1 := [0, 0, 0, 0, 0, 0, 0, 0, 0, 0, 7]) (s_if (st_cmp bl_ne (op_neA (room64 hr)) ok_ne (se_lst (sa_cons (se_call ih.shapes_within (fun _ _ _ h => h) hr rfl fx.g_shapes_within fx.d_shapes_within.kp (bd_shapes_within fx) (sa_cons (se_cst pe_int fun _ _ _ => rep_int) (sa_cons (se_cst pe_int fun _ _ _ => rep_int) sa_nil rfl) rfl) rfl) (sa_cons (se_call ih.shapes_within (fun _ _ _ h => h) hr rfl fx.g_shapes_within fx.d_shapes_within.kp (bd_shapes_within fx) (sa_cons (se_cst pe_int fun _ _ _ => rep_int) (sa_cons (se_cst pe_int fun _ _ _ => rep_int) sa_nil rfl) rfl) rfl) (sa_cons (se_call ih.shapes_within (fun _ _ _ h => h) hr rfl fx.g_shapes_within fx.d_shapes_within.kp (bd_shapes_within fx) (sa_cons (se_cst pe_int fun _ _ _ => rep_int) (sa_cons (se_cst pe_int fun _ _ _ => rep_int) sa_nil rfl) rfl) rfl) (sa_cons (se_call ih.shapes_within (fun _ _ _ h => h) hr rfl fx.g_shapes_within fx.d_shapes_within.kp (bd_shapes_within fx) (sa_cons (se_cst pe_int fun _ _ _ => rep_int) (sa_cons (se_cst pe_int fun _ _ _ => rep_int) sa_nil rfl) rfl) rfl) (sa_cons (se_call ih.shapes_within (fun _ _ _ h => h) hr rfl fx.g_shapes_within fx.d_shapes_within.kp (bd_shapes_within fx) (sa_cons (se_cst pe_int fun _ _ _ => rep_int) (sa_cons (se_cst pe_int fun _ _ _ => rep_int) sa_nil rfl) rfl) rfl) sa_nil rfl) rfl) rfl) rfl) rfl) (by decide)) (se_lst (sa_cons (se_cst pe_int fun _ _ _ => rep_int) (sa_cons (se_cst pe_int fun _ _ _ => rep_int) (sa_cons (se_cst pe_int fun _ _ _ => rep_int) (sa_cons (se_cst pe_int fun _ _ _ => rep_int) (sa_cons (se_cst pe_int fun _ _ _ => rep_int) sa_nil rfl) rfl) rfl) rfl) rfl) (by decide)) (nomark _)) (by decide) (ss_cons (l1 := [0, 0, 0, 0, 0, 0, 0, 0, 0, 0, 7]) (s_ret (se_cst pe_bl fun _ _ _ => rep_bl) (by decide) (.inl rfl)) ss_nil) (ss_post (l1 := [0, 0, 0, 0, 0, 0, 0, 0, 0, 0, 7]) (by decide) ss_nil)) (ss_cons (s_for (l := [0, 0, 0, 0, 0, 0, 0, 0, 0, 0, 7]) PassesOwn.never rfl (si_e (se_range2 rfl fx.m_range (se_cst pe_int fun _ _ _ => rep_int) (se_cst pe_int fun _ _ _ => rep_int))) (by decide) (sg_nm (i := 2) sc_law.nd rfl (loc_of rfl) (fnn_of rfl)) (ss_post (l1 := [0, 0, 0, 0, 0, 0, 0, 0, 0, 0, 7]) (by decide) (ss_cons (l1 := [0, 0, 0, 0, 0, 0, 0, 0, 0, 0, 7]) (S1.post (s_asg (se_call ih._law_groups (fun _ _ _ h => h) hr rfl fx.g__law_groups fx.d__law_groups.kp (bd__law_groups fx) (sa_cons (se_o2 (pe_op op_mulW' (se_tup (sa_cons (se_cst pe_int fun _ _ _ => rep_int) sa_nil rfl) (by decide)) (se_var (i := 2) rfl (vis_of rfl) (by decide) (by decide))) ok_mul) sa_nil rfl) rfl) (sg_nm (i := 5) sc_law.nd rfl (loc_of rfl) (fnn_of rfl)) (by decide)) rfl) (ss_cons (l1 := [0, 0, 0, 0, 0, 0, 0, 0, 0, 0, 7]) (s_if (st_not (st_val (se_call ih._law_all_like (fun _ _ _ h => h) hr rfl fx.g__law_all_like fx.d__law_all_like.kp (bd__law_all_like fx) (sa_cons (se_call ih.all_shapes (fun _ _ _ h => h) hr rfl fx.g_all_shapes fx.d_all_shapes.kp (bd_all_shapes fx) (sa_cons (se_var (i := 2) rfl (vis_of rfl) (by decide) (by decide)) sa_nil rfl) rfl) (sa_cons (se_var (i := 5) rfl (vis_of rfl) (by decide) (by decide)) sa_nil rfl) rfl) rfl) (fun _ => rfl))) (by decide) (ss_cons (l1 := [0, 0, 0, 0, 0, 0, 0, 0, 0, 0, 7]) (s_ret (se_cst pe_bl fun _ _ _ => rep_bl) (by decide) (.inl rfl)) ss_nil) (ss_post (l1 := [0, 0, 0, 0, 0, 0, 0, 0, 0, 0, 7]) (by decide) ss_nil)) (ss_cons (l1 := [0, 0, 0, 0, 0, 0, 0, 0, 0, 0, 7]) (S1.post (s_asgG (i := 6) (fun _ _ _ => imp_lc1 (by decide)) (ps_setLc (own := [(("shape" : Str), 8)]) rfl sc_law.nd (i := 6) rfl rfl (sw_true rfl rfl rfl (by decide +kernel)) (si_e (se_var (i := 5) rfl (vis_of rfl) (by decide) (by decide))) (blkOk_by rfl) (fun _ _ _ _ _ => (sg_nm (i := 8) sc_law.nd rfl (loc_of rfl) (fnn_of rfl))) (fun _ _ _ _ _ => sts_nil) (fun _ _ _ _ _ => (se_call ih._law_deepest (fun _ _ _ h => h) hr rfl fx.g__law_deepest fx.d__law_deepest.kp (bd__law_deepest fx) (sa_cons (se_var (i := 8) rfl (vis_of rfl) (by decide) (by decide)) sa_nil rfl) rfl))) (by decide)) rfl) (ss_cons (s_for (l := [0, 0, 0, 0, 0, 0, 0, 0, 0, 0, 7]) PassesOwn.never rfl (si_e (se_range1 rfl fx.m_range (se_cst pe_int fun _ _ _ => rep_int))) (by decide) (sg_nm (i := 7) sc_law.nd rfl (loc_of rfl) (fnn_of rfl)) (ss_post (l1 := [0, 0, 0, 0, 0, 0, 0, 0, 0, 0, 7]) (by decide) (ss_cons (l1 := [0, 0, 0, 0, 0, 0, 0, 0, 0, 0, 7]) (s_if (st_not (st_val (se_call ih._law_same (fun _ _ _ h => h) hr rfl fx.g__law_same fx.d__law_same.kp (bd__law_same fx) (sa_cons (se_call ih.shapes_within (fun _ _ _ h => h) hr rfl fx.g_shapes_within fx.d_shapes_within.kp (bd_shapes_within fx) (sa_cons (se_var (i := 2) rfl (vis_of rfl) (by decide) (by decide)) (sa_cons (se_var (i := 7) rfl (vis_of rfl) (by decide) (by decide)) sa_nil rfl) rfl) rfl) (sa_cons (se_len rfl fx.m_len (se_lc1 rfl sc_law.nd (si_e (se_var (i := 6) rfl (vis_of rfl) (by decide) (by decide))) (blkOk_by (own := [(("own" : Str), 9)]) rfl) rfl (fun _ _ _ _ _ => (sg_nm (i := 9) sc_law.nd rfl (loc_of rfl) (fnn_of rfl))) (fun _ _ _ _ _ => (sts_one (st_cmp bl_le op_le ok_le (se_var (i := 9) rfl (vis_of rfl) (by decide) (by decide)) (se_var (i := 7) rfl (vis_of rfl) (by decide) (by decide)) (nomark _)))) (fun _ _ _ _ _ => (se_var (i := 9) rfl (vis_of rfl) (by decide) (by decide))) (by decide))) sa_nil rfl) rfl) rfl) (fun _ => rfl))) (by decide) (ss_cons (l1 := [0, 0, 0, 0, 0, 0, 0, 0, 0, 0, 7]) (s_ret (se_cst pe_bl fun _ _ _ => rep_bl) (by decide) (.inl rfl)) ss_nil) (ss_post (l1 := [0, 0, 0, 0, 0, 0, 0, 0, 0, 0, 7]) (by decide) ss_nil)) ss_nil))) ss_nil)))))) (ss_cons (l1 := [0, 0, 0, 0, 0, 0, 0, 0, 0, 0, 0]) (S1.post (s_mkcup (i := 3) (n7 := 10) rfl rfl rfl (se_call ih._law_cup (fun _ _ _ h => h) hr rfl fx.g__law_cup fx.d__law_cup.kp (bd__law_cup fx) (sa_cons (se_var (i := 0) rfl (vis_of rfl) (by decide) (by decide)) sa_nil rfl) rfl) rfl (by decide) sc_law.nd rfl (loc_of rfl) (fnn_of rfl)) rfl) (ss_cons (s_for (l := [0, 0, 0, 0, 0, 0, 0, 0, 0, 0, 0]) PassesOwn.never rfl (si_e (se_range1 rfl fx.m_range (se_cst pe_int fun _ _ _ => rep_int))) (by decide) (sg_nm (i := 4) sc_law.nd rfl (loc_of rfl) (fnn_of rfl)) (ss_post (l1 := [0, 0, 0, 0, 0, 0, 0, 0, 0, 0, 0]) (by decide) (ss_cons (l1 := [0, 0, 0, 0, 0, 0, 0, 0, 0, 0, 0]) (S1.post (s_asg (se_tup (sa_cons (se_o2 (pe_op op_addAll (se_cst pe_int fun _ _ _ => rep_int) (se_call ih._law_roll (fun _ _ _ h => h) hr rfl fx.g__law_roll fx.d__law_roll.kp (bd__law_roll fx) (sa_cons (se_var (i := 3) rfl (vis_of rfl) (by decide) (by decide)) (sa_cons (se_cst pe_int fun _ _ _ => rep_int) sa_nil rfl) rfl) rfl)) ok_add) (sa_cons (se_call ih._law_roll (fun _ _ _ h => h) hr rfl fx.g__law_roll fx.d__law_roll.kp (bd__law_roll fx) (sa_cons (se_var (i := 3) rfl (vis_of rfl) (by decide) (by decide)) (sa_cons (se_cst pe_int fun _ _ _ => rep_int) sa_nil rfl) rfl) rfl) sa_nil rfl) rfl) (by decide)) (sg_t2 rfl (sgs_cons (sg_nm (i := 2) sc_law.nd rfl (loc_of rfl) (fnn_of rfl)) (sgs_cons (sg_nm (i := 7) sc_law.nd rfl (loc_of rfl) (fnn_of rfl)) sgs_nil))) (by decide)) rfl) (ss_cons (l1 := [0, 0, 0, 0, 0, 0, 0, 0, 0, 0, 0]) (s_if (st_not (st_val (se_call ih._law_same (fun _ _ _ h => h) hr rfl fx.g__law_same fx.d__law_same.kp (bd__law_same fx) (sa_cons (se_tup (sa_cons (se_call ih.shapes_within (fun _ _ _ h => h) hr rfl fx.g_shapes_within fx.d_shapes_within.kp (bd_shapes_within fx) (sa_cons (se_var (i := 2) rfl (vis_of rfl) (by decide) (by decide)) (sa_cons (se_var (i := 7) rfl (vis_of rfl) (by decide) (by decide)) sa_nil rfl) rfl) rfl) (sa_cons (se_call ih.shapes_within (fun _ _ _ h => h) hr rfl fx.g_shapes_within fx.d_shapes_within.kp (bd_shapes_within fx) (sa_cons (se_var (i := 2) rfl (vis_of rfl) (by decide) (by decide)) (sa_cons (se_var (i := 2) rfl (vis_of rfl) (by decide) (by decide)) sa_nil rfl) rfl) rfl) sa_nil rfl) rfl) (by decide)) (sa_cons (se_tup (sa_cons (se_call ih._law_less (fun _ _ _ h => h) hr rfl fx.g__law_less fx.d__law_less.kp (bd__law_less fx) (sa_cons (se_var (i := 2) rfl (vis_of rfl) (by decide) (by decide)) (sa_cons (se_var (i := 7) rfl (vis_of rfl) (by decide) (by decide)) sa_nil rfl) rfl) rfl) (sa_cons (se_call ih.groupings_many (fun _ _ _ h => h) hr rfl fx.g_groupings_many fx.d_groupings_many.kp (bd_groupings_many fx) (sa_cons (se_var (i := 2) rfl (vis_of rfl) (by decide) (by decide)) sa_nil rfl) rfl) sa_nil rfl) rfl) (by decide)) sa_nil rfl) rfl) rfl) (fun _ => rfl))) (by decide) (ss_cons (l1 := [0, 0, 0, 0, 0, 0, 0, 0, 0, 0, 0]) (s_ret (se_cst pe_bl fun _ _ _ => rep_bl) (by decide) (.inl rfl)) ss_nil) (ss_post (l1 := [0, 0, 0, 0, 0, 0, 0, 0, 0, 0, 0]) (by decide) ss_nil)) ss_nil)))) (ss_cons (l1 := [0, 0, 0, 0, 0, 0, 0, 0, 0, 0, 0]) (s_ret (se_cmp (op_eqA (room64 hr)) ok_eq (se_len rfl fx.m_len (se_call ih.all_shapes (fun _ _ _ h => h) hr rfl fx.g_all_shapes fx.d_all_shapes.kp (bd_all_shapes fx) (sa_cons (se_cst pe_int fun _ _ _ => rep_int) sa_nil rfl) rfl)) (se_cst pe_int fun _ _ _ => rep_int) (nomark _)) (by decide) (.inl rfl)) ss_nil)))))))⟩
end
end Hd
set_option Elab.async false
set_option linter.all false
set_option maxRecDepth 100000
set_option maxHeartbeats 0
namespace Hd
open PySem PySem.Spec PyProof.Rows L2 MP
def d_fits_whole : He.DefD := ⟨("fits_whole", none), "fits_whole", "fits_whole", defArgs (top 4), defBody (top 4), defScope (top 4), [], []⟩
def d_groupings_in : He.DefD := ⟨("groupings_in", none), "groupings_in", "groupings_in", defArgs (top 8), defBody (top 8), defScope (top 8), [], []⟩
def d_groupings_many : He.DefD := ⟨("groupings_many", none), "groupings_many", "groupings_many", defArgs (top 9), defBody (top 9), defScope (top 9), [], []⟩
def d_within_in : He.DefD := ⟨("within_in", none), "within_in", "within_in", defArgs (top 11), defBody (top 11), defScope (top 11), [], []⟩
def d_all_shapes : He.DefD := ⟨("all_shapes", none), "all_shapes", "all_shapes", defArgs (top 12), defBody (top 12), defScope (top 12), [], []⟩
def d_shapes_within : He.DefD := ⟨("shapes_within", none), "shapes_within", "shapes_within", defArgs (top 13), defBody (top 13), defScope (top 13), [], []⟩
def d__law_cup : He.DefD := ⟨("_law_cup", none), "_law_cup", "_law_cup", defArgs (top 15), defBody (top 15), defScope (top 15), [], []⟩
def d__law_roll : He.DefD := ⟨("_law_roll", none), "_law_roll", "_law_roll", defArgs (top 16), defBody (top 16), defScope (top 16), [], []⟩
def d__law_same : He.DefD := ⟨("_law_same", none), "_law_same", "_law_same", defArgs (top 17), defBody (top 17), defScope (top 17), [], []⟩
def d__law_groups : He.DefD := ⟨("_law_groups", none), "_law_groups", "_law_groups", defArgs (top 18), defBody (top 18), defScope (top 18), [], []⟩
def d__law_like : He.DefD := ⟨("_law_like", none), "_law_like", "_law_like", defArgs (top 20), defBody (top 20), defScope (top 20), [], []⟩
def d__law_all_like : He.DefD := ⟨("_law_all_like", none), "_law_all_like", "_law_all_like", defArgs (top 21), defBody (top 21), defScope (top 21), [], []⟩
def d__law_deepest : He.DefD := ⟨("_law_deepest", none), "_law_deepest", "_law_deepest", defArgs (top 22), defBody (top 22), defScope (top 22), [], []⟩
def d__law_less : He.DefD := ⟨("_law_less", none), "_law_less", "_law_less", defArgs (top 23), defBody (top 23), defScope (top 23), [], []⟩
def d_law : He.DefD := ⟨("law", none), "law", "law", defArgs (top 24), defBody (top 24), defScope (top 24), [], []⟩
def fn : List He.DefD := [d_fits_whole, d_groupings_in, d_groupings_many, d_within_in, d_all_shapes, d_shapes_within, d__law_cup, d__law_roll, d__law_same, d__law_groups, d__law_like, d__law_all_like, d__law_deepest, d__law_less, d_law]
def fa : List He.Fa := [.glo "fits_whole", .glo "groupings_in", .glo "groupings_many", .glo "within_in", .glo "all_shapes", .glo "shapes_within", .glo "_law_cup", .glo "_law_roll", .glo "_law_same", .glo "_law_groups", .glo "_law_like", .glo "_law_all_like", .glo "_law_deepest", .glo "_law_less", .glo "law", .int "GROUPED" 7, .int "LONG" 10, .free "abs", .free "all", .free "bool", .free "int", .free "isinstance", .free "len", .free "list", .free "max", .free "range", .free "str", .free "sum", .free "tuple"]
abbrev R : PySem.W.OpenRow := PySem.W.OpenLaw.row PySem.Challenge.rw_keptoftwo_k71_whole_shapes_in_order
abbrev hk : PySem.W.Hook := He.hookD 4 fa fn
def ob (s : PySem.W.SharedT) : He.AlD := He.obsDG 4 fa fn (HandSHeadRun.getT s)
theorem ob_eq (s : PySem.W.SharedT) : ob s = hk.obs s.abs := He.obsDG_eq (HandSHeadRun.getT_eq s)
def loose : List PySem.Str := (["KeepError", "InvalidNumber", "fits_whole", "LONG", "GROUPED", "groupings_in", "groupings_many", "within_in", "all_shapes", "shapes_within", "_law_cup", "_law_roll", "_law_same", "_law_groups", "_law_size", "_law_like", "_law_all_like", "_law_deepest", "_law_less"] : List PySem.Str)
theorem run (w : World) : HandSHeadRun.RunEq R (PySem.W.view R.prog [24]) hk ob 2000 loose w := by
  refine PySem.W.byRow2 "special-get-raises" (P := fun w => HandSHeadRun.RunEq R (PySem.W.view R.prog [24]) hk ob 2000 loose w) (fun w os => ?_) (fun w os => ?_) w
  · kernel_rfl
  · kernel_rfl
def adL (K : PySem.W.Frag) : List Addr := [He.ga K "fits_whole", He.ga K "groupings_in", He.ga K "groupings_many", He.ga K "within_in", He.ga K "all_shapes", He.ga K "shapes_within", He.ga K "_law_cup", He.ga K "_law_roll", He.ga K "_law_same", He.ga K "_law_groups", He.ga K "_law_like", He.ga K "_law_all_like", He.ga K "_law_deepest", He.ga K "_law_less", He.ga K "law"]
def loc : Nat → Nat
  | 112 => 0
  | 133 => 1
  | 134 => 2
  | 410 => 3
  | 7 => 4
  | 352 => 5
  | 444 => 6
  | 524 => 7
  | 529 => 8
  | 469 => 9
  | 491 => 10
  | 425 => 11
  | 447 => 12
  | 490 => 13
  | 569 => 14
  | _ => 1000
def adK (K : PySem.W.Frag) : Nat → Addr := fun i => (adL K).getD (loc i) 0
theorem facts {P : Program} {w : World} {K : PySem.W.Frag} {h : Heap} {mg : Str → Option Value} {f : Addr} (X : K.In h) (G : h.Ns mainGlobals mg) (hfa : mg ("law" : Str) = some (.ref f)) (c : He.SaysD fa fn K) (hlaw : ∀ ns : List Int, ns.length ≤ 1000000 → ∃ κ, MP.run T (30 + 1) i_law [.scr ns] (0, 0) = .ok (.bl true) κ) :
    ∃ fd : FuncData, (∀ (s : Shared) (v : Value), BindsTo s fd ⟨[v], []⟩ [("script", v)]) ∧ ∀ base : Heap, K.In base → base.Ns mainGlobals mg → FnOk P w K mg base CX0 (30 + 1) f fd ["script"] (spLaw K) := by
  obtain ⟨e_fits_whole, E_fits_whole⟩ := c.def_ 0 (d := d_fits_whole) rfl
  obtain ⟨e_groupings_in, E_groupings_in⟩ := c.def_ 1 (d := d_groupings_in) rfl
  obtain ⟨e_groupings_many, E_groupings_many⟩ := c.def_ 2 (d := d_groupings_many) rfl
  obtain ⟨e_within_in, E_within_in⟩ := c.def_ 3 (d := d_within_in) rfl
  obtain ⟨e_all_shapes, E_all_shapes⟩ := c.def_ 4 (d := d_all_shapes) rfl
  obtain ⟨e_shapes_within, E_shapes_within⟩ := c.def_ 5 (d := d_shapes_within) rfl
  obtain ⟨e__law_cup, E__law_cup⟩ := c.def_ 6 (d := d__law_cup) rfl
  obtain ⟨e__law_roll, E__law_roll⟩ := c.def_ 7 (d := d__law_roll) rfl
  obtain ⟨e__law_same, E__law_same⟩ := c.def_ 8 (d := d__law_same) rfl
  obtain ⟨e__law_groups, E__law_groups⟩ := c.def_ 9 (d := d__law_groups) rfl
  obtain ⟨e__law_like, E__law_like⟩ := c.def_ 10 (d := d__law_like) rfl
  obtain ⟨e__law_all_like, E__law_all_like⟩ := c.def_ 11 (d := d__law_all_like) rfl
  obtain ⟨e__law_deepest, E__law_deepest⟩ := c.def_ 12 (d := d__law_deepest) rfl
  obtain ⟨e__law_less, E__law_less⟩ := c.def_ 13 (d := d__law_less) rfl
  obtain ⟨e_law, E_law⟩ := c.def_ 14 (d := d_law) rfl
  have e := hfa.symm.trans (He.glo_ok X G (c.fact 14 (f := .glo "law") rfl))
  cases e
  have b := FunD.bindsA (ps := ["script"]) E_law fun _ _ _ _ _ _ us hl => match us, hl with | [_], _ => rfl
  have fx : Fx K mg (adK K) (fun i => [e_fits_whole, e_groupings_in, e_groupings_many, e_within_in, e_all_shapes, e_shapes_within, e__law_cup, e__law_roll, e__law_same, e__law_groups, e__law_like, e__law_all_like, e__law_deepest, e__law_less, e_law].getD (loc i) e_law) := ⟨(He.glo_ok X G (c.fact 0 (f := .glo "fits_whole") rfl)), E_fits_whole, (He.glo_ok X G (c.fact 1 (f := .glo "groupings_in") rfl)), E_groupings_in, (He.glo_ok X G (c.fact 2 (f := .glo "groupings_many") rfl)), E_groupings_many, (He.glo_ok X G (c.fact 3 (f := .glo "within_in") rfl)), E_within_in, (He.glo_ok X G (c.fact 4 (f := .glo "all_shapes") rfl)), E_all_shapes, (He.glo_ok X G (c.fact 5 (f := .glo "shapes_within") rfl)), E_shapes_within, (He.glo_ok X G (c.fact 6 (f := .glo "_law_cup") rfl)), E__law_cup, (He.glo_ok X G (c.fact 7 (f := .glo "_law_roll") rfl)), E__law_roll, (He.glo_ok X G (c.fact 8 (f := .glo "_law_same") rfl)), E__law_same, (He.glo_ok X G (c.fact 9 (f := .glo "_law_groups") rfl)), E__law_groups, (He.glo_ok X G (c.fact 10 (f := .glo "_law_like") rfl)), E__law_like, (He.glo_ok X G (c.fact 11 (f := .glo "_law_all_like") rfl)), E__law_all_like, (He.glo_ok X G (c.fact 12 (f := .glo "_law_deepest") rfl)), E__law_deepest, (He.glo_ok X G (c.fact 13 (f := .glo "_law_less") rfl)), E__law_less, E_law, (He.int_ok X G (c.fact 15 (f := .int "GROUPED" 7) rfl)), (He.int_ok X G (c.fact 16 (f := .int "LONG" 10) rfl)), (He.free_ok X G (c.fact 17 (f := .free "abs") rfl)), (He.free_ok X G (c.fact 18 (f := .free "all") rfl)), (He.free_ok X G (c.fact 19 (f := .free "bool") rfl)), (He.free_ok X G (c.fact 20 (f := .free "int") rfl)), (He.free_ok X G (c.fact 21 (f := .free "isinstance") rfl)), (He.free_ok X G (c.fact 22 (f := .free "len") rfl)), (He.free_ok X G (c.fact 23 (f := .free "list") rfl)), (He.free_ok X G (c.fact 24 (f := .free "max") rfl)), (He.free_ok X G (c.fact 25 (f := .free "range") rfl)), (He.free_ok X G (c.fact 26 (f := .free "str") rfl)), (He.free_ok X G (c.fact 27 (f := .free "sum") rfl)), (He.free_ok X G (c.fact 28 (f := .free "tuple") rfl))⟩
  exact ⟨e_law, fun s v => b s [v] rfl, fun base _ _ => st_law hlaw fx⟩
end Hd
open PySem PySem.W PySem.Calls PyProof.Rows
theorem PySem.Challenge.cw_keptoftwo_k71_whole_shapes_in_order_holds : PySem.Challenge.rw_keptoftwo_k71_whole_shapes_in_order.Holds := by
  w_on; o_law
  refine HandSHeadRun.head_any (r := OpenLaw.row PySem.Challenge.rw_keptoftwo_k71_whole_shapes_in_order) (q := view (OpenLaw.row PySem.Challenge.rw_keptoftwo_k71_whole_shapes_in_order).prog [24]) (H := Hd.hk) (ob := Hd.ob) (M := 2000) (loose := Hd.loose) (d := HandSHeadRun.topDef (OpenLaw.row PySem.Challenge.rw_keptoftwo_k71_whole_shapes_in_order).prog 24) (kwd := []) Hd.ob_eq
    (by kernel_rfl) (fun s => by kernel_rfl) Hd.run (by kernel_rfl) (by kernel_rfl) (by kernel_rfl) (by rfl) (by first | assumption | decide +kernel) (by decide +kernel) ⟨rfl, rfl, rfl, rfl, rfl, by decide +kernel⟩ ?hw ?hc
  case hw => w_witness2
  case hc =>
    refine L2.walk_ofE (l := PySem.Challenge.rw_keptoftwo_k71_whole_shapes_in_order) (n := 63) (k := 30 + 1) (x := "script") (CX := L2.CX0) rfl (by decide) (by kernel_rfl) ⟨rfl, by decide, by decide⟩ ?F (fun _ _ _ _ z => z)
    intro w mg fa h Y G hmg0
    obtain ⟨K, KX, c⟩ := Y
    have hmg : mg ("law" : PySem.Str) = some (.ref fa) := by
      have e : (HandSHeadRun.topDef (OpenLaw.row PySem.Challenge.rw_keptoftwo_k71_whole_shapes_in_order).prog 24).name = ("law" : PySem.Str) := by kernel_rfl
      rw [← e]
      exact hmg0
    obtain ⟨fd, hb, hF⟩ := Hd.facts (P := (PySem.Challenge.rw_keptoftwo_k71_whole_shapes_in_order).prog) (w := w) KX G hmg c Hd.hlaw
    exact ⟨K, fd, MP.spLaw K, KX, hb, fun H a ns hl ho hS => ⟨a, ns, rfl, by omega, MP.scr_of ho hS, fun _ => rfl⟩, hF⟩
