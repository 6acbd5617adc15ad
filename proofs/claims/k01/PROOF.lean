import PyProof.Rows.All
import Wide.All
import OpenK.AllK
import Wide.FinOn
import HandS.Zip
import KE.GoesMore
import HandS.Base
import HandS.Call
import HandS.List
import HandS.Words
import HandS.Exc
import HandS.ExcOwn
import HandS.WordsExc
import KE.KExcSuper
import KE.KExcMake
import HandS.TryMany
import HandS.ExcField
import HandS.ExcIs
import HandS.TupAny
import HandS.IsInst
import HandS.Conv
import HandS.SortInts
import HandS.Wide
import HandS.Flow
import HandS.TupMul
import HandS.Deep
import HandS.SetFor
import HandS.Strs
import HandS.Style
import HandS.RaiseMore
import PyProof.Rows.StrJoinMade
import HandS.Star
import HandS.TryOnly
import HandS.Walk
import HandS.Defaults
import HandS.HeadHook2
import HandS.EndBits
import KE.KStateDown
import HandS.Head0
import HandS.Head1
import HandS.Head2
import HandS.HeadEnd
import PySem.Challenge.RW_whomheeds_k01_what_councils_and_roads_ar
set_option Elab.async false
set_option linter.all false
section
/-! PlEv: a small language of expressions and statements over plain data, its evaluator. -/
namespace PL
open PySem
abbrev D := PyData
/-- a value with its ownership depth: 0 shared (frozen); k + 1: a list (dict) that nobody else holds, its items owned k deep -/
abbrev KD := Nat × D
abbrev Env := List (Option KD)

structure Exn where
  c : Nat
  f : Option D

inductive Ty | int | bool | str | list | tuple
  deriving DecidableEq

inductive Op
  | neg | not | len | abs | int | bool | list | tuple | sum | max | min | all | any | sorted | isN | notN | isi (ts : List Ty) | str
  | add | sub | mul | fdiv | mod | pow | eq | ne | lt | le | gt | ge | isin | notin | ix | max2 | min2 | index | join | split | get1 | get2
  | sl | sla | slb | slab | rev | dictZip | dictOf | listRange1 | listRange2 | tupRange1 | tupRange2 | sortedRange1 | sortedSet | lenSet | listZip | tupleZip | tupEnum | listItems | listValues | sortedItems | sumRange1
  deriving DecidableEq

inductive Ik | seq | range1 | range2 | enum | zip | items | values
  deriving DecidableEq

inductive Pat | v (i : Nat) | nil | cons (p ps : Pat)

inductive KeyOp | sorted | min

inductive E
  | nil | cons (e es : E) | star (e es : E)
  | cst (d : D) | var (i : Nat) | bor (i : Nat) | mov (i : Nat) | glb (x : Nat)
  | op (o : Op) (es : E) | and (a b : E) | or (a b : E) | ite (c a b : E)
  | chain (o1 o2 : Op) (a b c : E) | cut (a b c : E)
  | tup (es : E) | lst (m : Nat) (es : E) | dnew (m : Nat) | dct (es : E)
  | call (f : Nat) (es : E) | callk (f np : Nat) (perm : List Nat) (es : E)
  | comp (m : Nat) (e : E) (p : Pat) (it c : E)
  | comp2 (e : E) (p : Pat) (it c : E) (p2 : Pat) (it2 c2 : E)
  | dcomp (k v : E) (p : Pat) (it : E)
  | pop (i : Nat) | popat (i : Nat) (e : E)
  | iter (k : Ik) (es : E)
  | keyed (o : KeyOp) (i : Nat) (body e : E)

inductive HP | str (x : Str) | fld (f : Str) | isi (base : String)
structure Hd where
  c : Nat
  slot : Option Nat
  dest : Option Nat
  isList : Bool
  ps : List HP

inductive S
  | skip | seq (a b : S) | ret (e : E) | retN | set (i : Nat) (e : E) | asg (p : Pat) (e : E) | par (ps : Pat) (es : E)
  | ite (c : E) (a b : S) | for_ (p : Pat) (it : E) (b : S) | while_ (c : E) (b : S) | brk | cnt
  | expr (e : E) | append (i : Nat) (e : E) | extend (i : Nat) (e : E) | setix (i : Nat) (ix e : E) | appendix (i : Nat) (ix e : E) | appendsd (i : Nat) (k d e : E)
  | raise (c : Nat) (es : E) | try_ (b : S) (hs : List Hd)

structure FnDef where
  pm : List Nat
  ns : Nat
  body : S
structure ClsDef where
  base : String
  fld : Option Str

/-! ### data -/
/-- what no rule serves yet: only for trying -/
def beyond : Bool := false
def seqOf : D → Option (List D)
  | .list xs => some xs
  | .tuple xs => some xs
  | _ => none
def isListD : D → Bool
  | .list _ => true
  | _ => false
def truth : D → Bool
  | .none => false
  | .bool b => b
  | .int i => i != 0
  | .str x => x.length != 0
  | .list xs => !xs.isEmpty
  | .tuple xs => !xs.isEmpty
  | .dict kvs => !kvs.isEmpty
def okD (d : D) : Bool := d.canLay0 && decide (d.depth ≤ 64)
def ints? : List D → Option (List Int)
  | [] => some []
  | .int i :: r => (ints? r).map (i :: ·)
  | _ => none
def bools? : List D → Option (List Bool)
  | [] => some []
  | .bool b :: r => (bools? r).map (b :: ·)
  | _ => none
def strs? : List D → Option (List Str)
  | [] => some []
  | .str b :: r => (strs? r).map (b :: ·)
  | _ => none
mutual
/-- one < other: numbers, texts, tuples of such -/
def ltD : D → D → Option Bool
  | .int a, .int b => some (decide (a < b))
  | .str a, .str b => some (decide (a.cps.toList < b.cps.toList))
  | .tuple xs, .tuple ys => ltL xs ys
  | .list xs, .list ys => ltL xs ys
  | _, _ => none
def ltL : List D → List D → Option Bool
  | [], [] => some false
  | [], _ :: _ => some true
  | _ :: _, [] => some false
  | x :: xs, y :: ys => if okD x && okD y then (if PyData.eqv x y then ltL xs ys else ltD x y) else none
end
def insD (x : D) : List D → Option (List D)
  | [] => some [x]
  | y :: ys => (ltD x y).bind fun b => if b then some (x :: y :: ys) else (insD x ys).map (y :: ·)
/-- stable: from the right end each is put in front of those not less -/
def insL (x : D) : List D → Option (List D)
  | [] => some [x]
  | y :: ys => (ltD y x).bind fun b => if b then (insL x ys).map (y :: ·) else some (x :: y :: ys)
def sortD : List D → Option (List D)
  | [] => some []
  | x :: xs => (sortD xs).bind (insL x)
def inD (x : D) : List D → Bool
  | [] => false
  | y :: ys => PyData.eqv y x || inD x ys
def dedupD : List D → List D
  | [] => []
  | x :: xs => if inD x (dedupD xs) then dedupD xs else x :: dedupD xs
def ixAt {α : Type} (xs : List α) (i : Int) : Option α :=
  if 0 ≤ i then xs[i.toNat]? else if -(xs.length : Int) ≤ i then xs[(i + xs.length).toNat]? else none
def ixPos (n : Nat) (i : Int) : Option Nat := if 0 ≤ i then (if i < n then some i.toNat else none) else if -(n : Int) ≤ i then some (i + n).toNat else none
def clip (n d : Nat) : Option Int → Nat
  | none => d
  | some v => if v < 0 then (v + (n : Int)).toNat else min v.toNat n
def cutD (xs : List D) (lo hi : Option Int) : List D := (xs.drop (clip xs.length 0 lo)).take (clip xs.length xs.length hi - clip xs.length 0 lo)
def cutOf (d : D) (lo hi : Option Int) : Option D := match d with
  | .list xs => some (.list (cutD xs lo hi))
  | .tuple xs => some (.tuple (cutD xs lo hi))
  | .str x => if beyond then some (.str ⟨((x.cps.toList.drop (clip x.length 0 lo)).take (clip x.length x.length hi - clip x.length 0 lo)).toArray⟩) else none
  | _ => none
def maxLen : Nat := 16777216
def rangeD (a b : Int) : List D := (List.range (b - a).toNat).map fun (i : Nat) => .int (a + i)
def lookD (k : D) : List (D × D) → Option D
  | [] => none
  | (a, v) :: r => if PyData.eqv a k then some v else lookD k r
def putD (k v : D) : List (D × D) → List (D × D)
  | [] => [(k, v)]
  | (a, w) :: r => if PyData.eqv a k then (a, v) :: r else (a, w) :: putD k v r
def pairOf : D → Option (D × D)
  | .tuple [a, b] => some (a, b)
  | _ => none
def pairsOf : List D → Option (List (D × D))
  | [] => some []
  | x :: xs => (pairOf x).bind fun p => (pairsOf xs).map (p :: ·)
def dictOfPairs (ps : List (D × D)) : List (D × D) := ps.foldl (fun acc p => putD p.1 p.2 acc) []
def zipD : List D → List D → List D
  | x :: xs, y :: ys => .tuple [x, y] :: zipD xs ys
  | _, _ => []
def enumD (i : Nat) : List D → List D
  | [] => []
  | x :: xs => .tuple [.int i, x] :: enumD (i + 1) xs
def isTy : Ty → D → Bool
  | .int, .int _ => true
  | .int, .bool _ => true
  | .bool, .bool _ => true
  | .str, .str _ => true
  | .list, .list _ => true
  | .tuple, .tuple _ => true
  | _, _ => false
def mulOk (i j : Int) : Bool := decide (i.natAbs.log2 + j.natAbs.log2 < 100000000)
def divOk (j : Int) : Bool := decide (j ≠ 0) && decide (j.natAbs.log2 < 9000)
def powOk (i j : Int) : Bool := decide (0 ≤ j) && decide (j ≤ 1000000) && decide (i.natAbs < 2 ^ 64)
def szOk (n : Nat) : Bool := decide (n ≤ maxLen)
def firstIx (x : D) : List D → Option Nat
  | [] => none
  | y :: ys => if PyData.eqv y x then some 0 else (firstIx x ys).map (· + 1)
def bestInt (f : Int → Int → Bool) : List Int → Option Int
  | [] => none
  | [x] => some x
  | x :: xs => (bestInt f xs).map fun m => if f m x then m else x
def minD : List D → Option D
  | [] => none
  | [x] => some x
  | x :: xs => (minD xs).bind fun m => (ltD m x).map fun b => if b then m else x
def maxD : List D → Option D
  | [] => none
  | [x] => some x
  | x :: xs => (maxD xs).bind fun m => (ltD x m).map fun b => if b then m else x
def lexI : List Int → List Int → Bool
  | [], [] => false
  | [], _ :: _ => true
  | _ :: _, [] => false
  | x :: xs, y :: ys => if x = y then lexI xs ys else decide (x < y)
def insI (x : Int) : List Int → List Int
  | [] => [x]
  | y :: ys => if y < x then y :: insI x ys else x :: y :: ys
def isort : List Int → List Int
  | [] => []
  | x :: xs => insI x (isort xs)
/-- ascending, each once -/
def insU (x : Int) : List Int → List Int
  | [] => [x]
  | y :: ys => if y < x then y :: insU x ys else if y = x then y :: ys else x :: y :: ys
def usort : List Int → List Int
  | [] => []
  | x :: xs => insU x (usort xs)
/-- a list (a tuple: only for trying) -/
def lstOf : D → Option (List D)
  | .list xs => some xs
  | .tuple xs => if beyond then some xs else none
  | _ => none
def sSorted (xs : List D) : Option (List D) := match ints? xs with
  | some ns => some ((isort ns).map .int)
  | none => if beyond then sortD xs else none
def sUsort (xs : List D) : Option (List D) := match ints? xs with
  | some ns => if decide (ns.length ≤ 4000) && decide ((usort ns).length < 64) then some ((usort ns).map .int) else none
  | none => if beyond && xs.all okD then sortD (dedupD xs) else none
def maxI : List Int → Option Int
  | [] => none
  | x :: xs => some (xs.foldl (fun m y => if y > m then y else m) x)
def minI : List Int → Option Int
  | [] => none
  | x :: xs => some (xs.foldl (fun m y => if y < m then y else m) x)
def sMax (xs : List D) : Option D := match ints? xs with
  | some ns => (maxI ns).map .int
  | none => if beyond then maxD xs else none
def sMin (xs : List D) : Option D := match ints? xs with
  | some ns => (minI ns).map .int
  | none => if beyond then minD xs else none
def sLt (a b : D) : Option Bool := match a, b with
  | .int i, .int j => some (decide (i < j))
  | .tuple xs, .tuple ys => (match ints? xs, ints? ys with
    | some ns, some ms => some (lexI ns ms)
    | _, _ => if beyond then ltL xs ys else none)
  | .str x, .str y => some (decide (x.cps.toList < y.cps.toList))
  | _, _ => if beyond then ltD a b else none
def sGt (a b : D) : Option Bool := match a, b with
  | .int i, .int j => some (decide (j < i))
  | _, _ => if beyond then sLt b a else none
def joinS (sep : Str) (xs : List Str) : Str := Str.join sep xs
def splitS (sep x : List Nat) : List (List Nat) := match sep with
  | [c] => (x.foldr (fun a (acc : List (List Nat)) => if a = c then [] :: acc else match acc with
      | [] => [[a]]
      | h :: t => (a :: h) :: t) [[]])
  | _ => [x]
def isInt : D → Bool
  | .int _ => true
  | _ => false

/-! each op by itself -/
def sNeg : D → Option D
  | .int i => some (.int (-i))
  | _ => none
def sLen : D → Option D
  | .str x => some (.int x.length)
  | .dict kvs => some (.int kvs.length)
  | .list xs => some (.int xs.length)
  | .tuple xs => some (.int xs.length)
  | _ => none
def sAbs : D → Option D
  | .int i => some (.int (if i < 0 then -i else i))
  | _ => none
def sInt : D → Option D
  | .int i => some (.int i)
  | .bool b => some (.int (if b then 1 else 0))
  | _ => none
def sIsN : D → Bool
  | .none => true
  | _ => false
def sStr : D → Option D
  | .int i => if i.natAbs.log2 < 1920 then some (.str (toString i)) else none
  | .str x => some (.str x)
  | _ => none
def sAdd : D → D → Option D
  | .int i, .int j => some (.int (i + j))
  | .list xs, .list ys => if szOk (xs.length + ys.length) then some (.list (xs ++ ys)) else none
  | .tuple xs, .tuple ys => if szOk (xs.length + ys.length) then some (.tuple (xs ++ ys)) else none
  | .str x, .str y => if szOk (x.length + y.length) then some (.str (x ++ y)) else none
  | _, _ => none
def sSub : D → D → Option D
  | .int i, .int j => some (.int (i - j))
  | _, _ => none
def sMul : D → D → Option D
  | .int i, .int j => if mulOk i j then some (.int (i * j)) else none
  | .list xs, .int j => if szOk (xs.length * j.toNat) && decide (j < 2 ^ 62) && decide (-(2 ^ 62) < j) then some (.list (List.replicate j.toNat xs).flatten) else none
  | .tuple xs, .int j => if (!xs.isEmpty && decide (2 ≤ j) && decide (j ≤ 1000) && decide (xs.length ≤ 1000)) || beyond then some (.tuple (List.replicate j.toNat xs).flatten) else none
  | _, _ => none
def sFdiv : D → D → Option D
  | .int i, .int j => if divOk j then some (.int (i.fdiv j)) else none
  | _, _ => none
def sMod : D → D → Option D
  | .int i, .int j => if j ≠ 0 then some (.int (i.fmod j)) else none
  | _, _ => none
def sPow : D → D → Option D
  | .int i, .int j => if powOk i j then some (.int (i ^ j.toNat)) else none
  | _, _ => none
def sEq (a b : D) : Option Bool := if okD a && okD b then some (PyData.eqv a b) else none
def sLe : D → D → Option D
  | .int a, .int b => some (.bool (decide (a ≤ b)))
  | _, _ => none
def sIn (a : D) : D → Option Bool
  | .dict kvs => if okD a then some (lookD a kvs).isSome else none
  | .list xs => if okD a && xs.all okD then some (inD a xs) else none
  | .tuple xs => if okD a && xs.all okD then some (inD a xs) else none
  | _ => none
def sIx : D → D → Option D
  | .dict kvs, k => if okD k then lookD k kvs else none
  | .list xs, .int i => ixAt xs i
  | .tuple xs, .int i => ixAt xs i
  | _, _ => none
def sMax2 : D → D → Option D
  | .int i, .int j => some (.int (if j > i then j else i))
  | _, _ => none
def sMin2 : D → D → Option D
  | .int i, .int j => some (.int (if j < i then j else i))
  | _, _ => none
def sIndex (d x : D) : Option D := (seqOf d).bind fun xs => if okD x && xs.all okD then (firstIx x xs).map fun (n : Nat) => .int n else none
def sJoin : D → D → Option D
  | .str sep, d => (seqOf d).bind fun xs => (strs? xs).map fun ss => .str (joinS sep ss)
  | _, _ => none
def sSplit : D → D → Option D
  | .str x, .str sep => some (.list ((splitS sep.cps.toList x.cps.toList).map fun w => .str ⟨w.toArray⟩))
  | _, _ => none
def sGet (v : D) : D → D → Option D
  | .dict kvs, k => if okD k then some ((lookD k kvs).getD v) else none
  | _, _ => none
def sCut (d : D) : Option D → Option D → Option D
  | none, none => cutOf d none none
  | some (.int i), none => cutOf d (some i) none
  | none, some (.int j) => cutOf d none (some j)
  | some (.int i), some (.int j) => cutOf d (some i) (some j)
  | _, _ => none
def sRev : D → Option D
  | .list xs => some (.list xs.reverse)
  | .tuple xs => some (.tuple xs.reverse)
  | _ => none
def sDictZip (a b : D) : Option D := (seqOf a).bind fun xs => (seqOf b).bind fun ys => if xs.all okD then some (.dict (dictOfPairs (xs.zip ys))) else none
def sDictOf (d : D) : Option D := (seqOf d).bind fun xs => (pairsOf xs).map fun ps => .dict (dictOfPairs ps)
def rng1 : D → Option (List D)
  | .int n => if szOk n.toNat && decide (-(2 ^ 62) ≤ n) then some (rangeD 0 n) else none
  | _ => none
def rng2 : D → D → Option (List D)
  | .int a, .int b => if szOk (b - a).toNat && (decide (-(2 ^ 62) ≤ a) && decide (a < 2 ^ 62) && decide (-(2 ^ 62) ≤ b) && decide (b < 2 ^ 62)) then some (rangeD a b) else none
  | _, _ => none
def sItems : D → Option (List D)
  | .dict kvs => some (kvs.map fun p => .tuple [p.1, p.2])
  | _ => none
def sValues : D → Option (List D)
  | .dict kvs => some (kvs.map (·.2))
  | _ => none
def sZip (a b : D) : Option (List D) := (seqOf a).bind fun xs => (seqOf b).map fun ys => zipD xs ys

def sem1 (o : Op) (d : D) : Option D := match o with
  | .neg => sNeg d
  | .not => some (.bool (!truth d))
  | .len => sLen d
  | .abs => sAbs d
  | .int => sInt d
  | .bool => some (.bool (truth d))
  | .list => (seqOf d).map .list
  | .tuple => (seqOf d).map .tuple
  | .sum => (lstOf d).bind fun xs => (ints? xs).map fun ns => .int ns.sum
  | .max => (lstOf d).bind sMax
  | .min => (lstOf d).bind sMin
  | .all => (lstOf d).bind fun xs => (bools? xs).map fun bs => .bool (bs.all id)
  | .any => (lstOf d).bind fun xs => (bools? xs).map fun bs => .bool (bs.any id)
  | .sorted => (lstOf d).bind fun xs => (sSorted xs).map .list
  | .sortedSet => (seqOf d).bind fun xs => (sUsort xs).map .list
  | .lenSet => (seqOf d).bind fun xs => (sUsort xs).map fun ys => .int ys.length
  | .isN => some (.bool (sIsN d))
  | .notN => some (.bool (!sIsN d))
  | .isi ts => some (.bool (ts.any fun t => isTy t d))
  | .str => sStr d
  | .sl => sCut d none none
  | .rev => sRev d
  | .dictOf => sDictOf d
  | .listRange1 => (rng1 d).map .list
  | .tupRange1 => (rng1 d).map .tuple
  | .sortedRange1 => (rng1 d).map .list
  | .sumRange1 => (rng1 d).bind fun xs => (ints? xs).map fun ns => .int ns.sum
  | .tupEnum => (seqOf d).map fun xs => .tuple (enumD 0 xs)
  | .listItems => (sItems d).map .list
  | .listValues => (sValues d).map .list
  | .sortedItems => (sItems d).bind fun xs => (sortD xs).map .list
  | _ => none
def sem2 (o : Op) (a b : D) : Option D := match o with
  | .add => sAdd a b
  | .sub => sSub a b
  | .mul => sMul a b
  | .fdiv => sFdiv a b
  | .mod => sMod a b
  | .pow => sPow a b
  | .eq => (sEq a b).map .bool
  | .ne => (sEq a b).map fun c => .bool (!c)
  | .lt => (sLt a b).map .bool
  | .gt => (sGt a b).map .bool
  | .le => sLe a b
  | .ge => sLe b a
  | .isin => (sIn a b).map .bool
  | .notin => (sIn a b).map fun c => .bool (!c)
  | .ix => sIx a b
  | .max2 => sMax2 a b
  | .min2 => sMin2 a b
  | .index => sIndex a b
  | .join => sJoin a b
  | .split => sSplit a b
  | .get1 => sGet .none a b
  | .sla => sCut a (some b) none
  | .slb => sCut a none (some b)
  | .dictZip => sDictZip a b
  | .listRange2 => (rng2 a b).map .list
  | .tupRange2 => (rng2 a b).map .tuple
  | .listZip => (sZip a b).map .list
  | .tupleZip => (sZip a b).map .tuple
  | _ => none
def sem3 (o : Op) (a b c : D) : Option D := match o with
  | .get2 => sGet c a b
  | .slab => sCut a (some b) (some c)
  | _ => none
def semOp (o : Op) : List D → Option D
  | [a] => sem1 o a
  | [a, b] => sem2 o a b
  | [a, b, c] => sem3 o a b c
  | _ => none

/-- ops whose result, if it is a list (dict), is a new one -/
def freshOp : Op → Bool
  | .list | .sorted | .sortedSet | .add | .mul | .sl | .sla | .slb | .slab | .rev | .dictZip | .dictOf | .listRange1 | .listRange2 | .sortedRange1 | .listZip | .listItems | .listValues | .sortedItems | .split => true
  | _ => false

/-! ### the evaluator -/
inductive Item | val (kd : KD) | slot (i : Nat)
inductive R (α : Type) | ok (a : α) (env : Env) | exc (x : Exn) (env : Env) | bad (m : String)
def R.bind {α β : Type} (r : R α) (f : α → Env → R β) : R β := match r with
  | .ok a env => f a env
  | .exc x env => .exc x env
  | .bad m => .bad m
inductive Flow | nx | rt (kd : KD) | bk | ct
inductive CR | ok (kd : KD) (outs : List (Option KD)) | exc (x : Exn) (outs : List (Option KD)) | bad (m : String)

def getS (env : Env) (i : Nat) : Option KD := (env[i]?).join
def setS (env : Env) (i : Nat) (kd : KD) : Env := env.set i (some kd)
def freezeS (env : Env) (i : Nat) : Env := match getS env i with
  | some (_, d) => env.set i (some (0, d))
  | none => env
def lowerS (env : Env) (i k : Nat) : Env := match getS env i with
  | some (j, d) => env.set i (some (min j k, d))
  | none => env
def itemKD (env : Env) : Item → Option KD
  | .val kd => some kd
  | .slot i => getS env i
def itemsKD (env : Env) : List Item → Option (List KD)
  | [] => some []
  | x :: xs => (itemKD env x).bind fun kd => (itemsKD env xs).map (kd :: ·)
/-- the slots that an op has looked into share their items with its result -/
def lowerItems (env : Env) : List Item → Env
  | [] => env
  | .val _ :: xs => lowerItems env xs
  | .slot i :: xs => lowerItems (lowerS env i 1) xs
def slotsOf : List Item → List Nat
  | [] => []
  | .val _ :: xs => slotsOf xs
  | .slot i :: xs => i :: slotsOf xs

def oneKD (m : String) (r : R (List Item)) (f : KD → Env → R (List Item)) : R (List Item) := r.bind fun xs env => match xs with
  | [.val kd] => f kd env
  | _ => .bad m
def opR (o : Op) (xs : List Item) (env : Env) : R (List Item) := match itemsKD env xs with
  | some kds => (match semOp o (kds.map (·.2)) with
    | some d => .ok [.val (if freshOp o then 1 else 0, d)] (lowerItems env xs)
    | none => .bad "op")
  | none => .bad "op: a slot without a value"
def minK : List KD → Nat
  | [] => 9
  | (k, _) :: r => min k (minK r)
def valsKD : List Item → Option (List KD)
  | [] => some []
  | .val kd :: xs => (valsKD xs).map (kd :: ·)
  | .slot _ :: _ => none
def mkTup (xs : List Item) (env : Env) : R (List Item) := match valsKD xs with
  | some kds => if szOk kds.length then .ok [.val (0, .tuple (kds.map (·.2)))] env else .bad "size"
  | none => .bad "display"
/-- a new list, its items owned m deep -/
def mkLst (m : Nat) (xs : List Item) (env : Env) : R (List Item) := match valsKD xs with
  | some kds => if szOk kds.length && kds.all (fun kd => decide (m ≤ kd.1)) then .ok [.val (m + 1, .list (kds.map (·.2)))] env else .bad "size"
  | none => .bad "display"
mutual
def bindPat : Pat → D → Env → Option Env
  | .v i, d, env => if i < env.length then some (env.set i (some (0, d))) else none
  | .nil, d, env => (seqOf d).bind fun xs => (match xs with
    | [] => some env
    | _ :: _ => none)
  | .cons p ps, d, env => (seqOf d).bind fun xs => (match xs with
    | d :: ds => (bindPat p d env).bind fun env1 => bindPats ps ds env1
    | [] => none)
def bindPats : Pat → List D → Env → Option Env
  | .nil, [], env => some env
  | .cons p ps, d :: ds, env => (bindPat p d env).bind fun env1 => bindPats ps ds env1
  | _, _, _ => none
end
theorem bindPat_nil {d : D} {env : Env} : bindPat .nil d env = (seqOf d).bind fun xs => bindPats .nil xs env := by
  simp only [bindPat]
  congr 1
  funext xs
  cases xs <;> simp [bindPats]
theorem bindPat_cons {p ps : Pat} {d : D} {env : Env} : bindPat (.cons p ps) d env = (seqOf d).bind fun xs => bindPats (.cons p ps) xs env := by
  simp only [bindPat]
  congr 1
  funext xs
  cases xs <;> simp [bindPats]
def slotsP : Pat → List Nat
  | .v i => [i]
  | .nil => []
  | .cons p ps => slotsP p ++ slotsP ps
def wipeE (env : Env) : List Nat → Env
  | [] => env
  | i :: is => (wipeE env is).set i none
def backE (env0 env : Env) : List Nat → Env
  | [] => env
  | i :: is => (backE env0 env is).set i ((env0[i]?).join)
def freezeAll (env : Env) : List Nat → Env
  | [] => env
  | i :: is => freezeAll (freezeS env i) is

def iterSeq : D → Option (List D)
  | .str x => some (x.cps.toList.map fun c => .str ⟨#[c]⟩)
  | .dict kvs => if beyond then some (kvs.map (·.1)) else none
  | .list xs => some xs
  | .tuple xs => some xs
  | _ => none
def iterOf (k : Ik) : List D → Option (List D)
  | [a] => (match k with
    | .seq => iterSeq a
    | .range1 => rng1 a
    | .enum => (seqOf a).map (enumD 0)
    | .items => if beyond then sItems a else none
    | .values => if beyond then sValues a else none
    | _ => none)
  | [a, b] => (match k with
    | .range2 => rng2 a b
    | .zip => if isListD a == isListD b || beyond then sZip a b else none
    | _ => none)
  | _ => none
def ksD (xs : List Item) : Option (List D) := match xs with
  | [] => some []
  | .val (_, d) :: r => (ksD r).map (d :: ·)
  | .slot _ :: _ => none

def testR (cond : Option (Env → R (List Item))) (env : Env) : R Bool := match cond with
  | none => .ok true env
  | some c => (match c env with
    | .ok [.val (_, b)] env1 => .ok (truth b) env1
    | .ok _ _ => .bad "test"
    | .exc _ _ => .bad "comp raises"
    | .bad m => .bad m)
def compLoop (m : Nat) (p : Pat) (cond : Option (Env → R (List Item))) (elt : Env → R (List Item)) : List D → List D → Env → R (List D)
  | [], acc, env => .ok acc env
  | d :: ds, acc, env => match bindPat p d env with
    | none => .bad "comp pattern"
    | some env1 => match testR cond env1 with
      | .ok true env2 => (match elt env2 with
        | .ok [.val (k, v)] env3 => if m ≤ k then compLoop m p cond elt ds (acc ++ [v]) (wipeE env3 (slotsP p)) else .bad "comp element mode"
        | .ok _ _ => .bad "comp element"
        | .exc _ _ => .bad "comp raises"
        | .bad m => .bad m)
      | .ok false env2 => compLoop m p cond elt ds acc (wipeE env2 (slotsP p))
      | .exc _ _ => .bad "comp raises"
      | .bad m => .bad m
/-- within a comprehension nothing may raise -/
def R.calm {α β : Type} (r : R α) (f : α → Env → R β) : R β := match r with
  | .ok a env => f a env
  | .exc _ _ => .bad "comp raises"
  | .bad m => .bad m
/-- the inner for's turns -/
def innerLoop (p : Pat) (cond : Option (Env → R (List Item))) (elt : Env → R (List Item)) : List D → List D → Env → R (List D)
  | [], acc, env => .ok acc env
  | d :: ds, acc, env => match bindPat p d env with
    | none => .bad "comp pattern"
    | some env1 => (testR cond env1).calm fun b env2 => if b then (elt env2).calm fun xs env3 => (match xs with
        | [.val (_, v)] => if acc.length < maxLen then innerLoop p cond elt ds (acc ++ [v]) (wipeE env3 (slotsP p)) else .bad "comp size"
        | _ => .bad "comp element") else innerLoop p cond elt ds acc (wipeE env2 (slotsP p))
/-- the outer for's turns; vs: the block's slots -/
def comp2Loop (vs : List Nat) (p : Pat) (turn : List D → Env → R (List D)) : List D → List D → Env → R (List D)
  | [], acc, env => .ok acc env
  | d :: ds, acc, env => match bindPat p d env with
    | none => .bad "comp2 pattern"
    | some env1 => (turn acc env1).calm fun acc1 env2 => comp2Loop vs p turn ds acc1 (wipeE env2 vs)
def comp2Turn (p2 : Pat) (cond : Option (Env → R (List Item))) (it2 : Env → R (List Item)) (cond2 : Option (Env → R (List Item))) (elt : Env → R (List Item)) (acc : List D) (env3 : Env) : R (List D) :=
  (testR cond env3).calm fun b env4 => if b then (it2 env4).calm fun ys env5 => (match ksD ys with
    | none => .bad "comp2 iter2"
    | some ds2 => innerLoop p2 cond2 elt ds2 acc (wipeE env5 (slotsP p2))) else .ok acc env4
def dcompLoop (p : Pat) (kv : Env → R (List Item)) : List D → List (D × D) → Env → R (List (D × D))
  | [], acc, env => .ok acc env
  | d :: ds, acc, env => match bindPat p d env with
    | none => .bad "dcomp pattern"
    | some env1 => match kv env1 with
      | .ok [.val (_, k), .val (_, v)] env2 => if okD k then dcompLoop p kv ds (putD k v acc) env2 else .bad "dcomp key"
      | .ok _ _ => .bad "dcomp"
      | .exc _ _ => .bad "comp raises"
      | .bad m => .bad m
def keysLoop (i : Nat) (body : Env → R (List Item)) : List D → Env → Option (List D)
  | [], _ => some []
  | d :: ds, env => match body (env.set i (some (0, d))) with
    | .ok [.val (_, k)] _ => (keysLoop i body ds env).map (k :: ·)
    | _ => none
def insKey (k x : D) : List (D × D) → Option (List (D × D))
  | [] => some [(k, x)]
  | (k', y) :: r => (ltD k' k).bind fun b => if b then (insKey k x r).map ((k', y) :: ·) else some ((k, x) :: (k', y) :: r)
def sortKeys : List (D × D) → Option (List (D × D))
  | [] => some []
  | (k, x) :: r => (sortKeys r).bind (insKey k x)
def minKey : List (D × D) → Option (D × D)
  | [] => none
  | [p] => some p
  | p :: r => (minKey r).bind fun m => (ltD m.1 p.1).map fun b => if b then m else p

abbrev CallF := Nat → List KD → CR
/-- what a def's parameter at j is given -/
def argsFor : List Nat → List KD → Option (List KD)
  | [], [] => some []
  | 0 :: ms, (_, d) :: r => (argsFor ms r).map ((0, d) :: ·)
  | (m + 1) :: ms, (k, d) :: r => if m < k then (argsFor ms r).map ((k, d) :: ·) else none
  | _, _ => none
/-- behind a call the slots that were handed in to be changed -/
def outsTo (env : Env) : List Nat → List Item → List (Option KD) → Option Env
  | [], [], _ => some env
  | 0 :: ms, .val _ :: xs, _ :: os => outsTo env ms xs os
  | (_ + 1) :: ms, .val _ :: xs, _ :: os => outsTo env ms xs os
  | (_ + 1) :: ms, .slot i :: xs, some kd :: os => outsTo (env.set i (some kd)) ms xs os
  | _, _, _ => none
def callR (fns : Nat → Option FnDef) (call : CallF) (f : Nat) (xs : List Item) (env : Env) : R (List Item) := match fns f with
  | none => .bad "no such def"
  | some fd => match itemsKD env xs with
    | none => .bad "call: a slot without a value"
    | some kds => match argsFor fd.pm kds with
      | none => .bad "call"
      | some args => if (slotsOf xs).Nodup then (match call f args with
          | .ok kd outs => (match outsTo env fd.pm xs outs with
            | some env1 => .ok [.val kd] env1
            | none => .bad "call")
          | .exc x outs => (match outsTo env fd.pm xs outs with
            | some env1 => .exc x env1
            | none => .bad "call")
          | .bad m => .bad m) else .bad "call: one slot twice"
def permL {α : Type} (xs : List α) (perm : List Nat) : List α := (List.range perm.length).filterMap fun j => (perm.findIdx? (· == j)).bind fun i => xs[i]?

def condOf (c : E) (f : Env → R (List Item)) : Option (Env → R (List Item)) := match c with
  | .nil => none
  | _ => some f
def compR (m : Nat) (p : Pat) (cond : Option (Env → R (List Item))) (elt : Env → R (List Item)) (it : R (List Item)) : R (List Item) := it.bind fun xs env1 => match ksD xs with
  | none => .bad "comp iter"
  | some ds => (compLoop m p cond elt ds [] (wipeE (freezeAll env1 (slotsP p)) (slotsP p))).bind fun vs env3 => .ok [.val (m + 1, .list vs)] (backE (freezeAll env1 (slotsP p)) env3 (slotsP p))
def comp2R (p p2 : Pat) (cond : Option (Env → R (List Item))) (it2 : Env → R (List Item)) (cond2 : Option (Env → R (List Item))) (elt : Env → R (List Item)) (it : R (List Item)) : R (List Item) := it.bind fun xs env1 => match ksD xs with
  | none => .bad "comp2 iter"
  | some ds => (comp2Loop (slotsP p ++ slotsP p2) p (comp2Turn p2 cond it2 cond2 elt) ds [] (wipeE (freezeAll env1 (slotsP p ++ slotsP p2)) (slotsP p ++ slotsP p2))).bind fun vs env3 =>
    .ok [.val (1, .list vs)] (backE (freezeAll env1 (slotsP p ++ slotsP p2)) env3 (slotsP p ++ slotsP p2))
def dcompR (p : Pat) (k v : Env → R (List Item)) (it : R (List Item)) : R (List Item) := it.bind fun xs env1 => match ksD xs with
  | none => .bad "dcomp iter"
  | some ds => (dcompLoop p (fun env3 => (k env3).bind fun a env4 => (v env4).bind fun b env5 => .ok (a ++ b) env5) ds [] (wipeE (freezeAll env1 (slotsP p)) (slotsP p))).bind fun kvs env3 => .ok [.val (1, .dict kvs)] (backE (freezeAll env1 (slotsP p)) env3 (slotsP p))
def popR (i : Nat) (env : Env) : R (List Item) := match getS env i with
  | some (_ + 1, .list xs) => (match xs.getLast? with
    | some d => .ok [.val (0, d)] (env.set i (some (1, .list xs.dropLast)))
    | none => .bad "pop")
  | _ => .bad "pop"
def popatR (i : Nat) (kd : KD) (env1 : Env) : R (List Item) := match getS env1 i, kd.2 with
  | some (_ + 1, .list xs), .int j => (match ixPos xs.length j with
    | some n => (match xs[n]? with
      | some d => .ok [.val (0, d)] (env1.set i (some (1, .list (xs.eraseIdx n))))
      | none => .bad "popat")
    | none => .bad "popat")
  | _, _ => .bad "popat"
def keyedR (o : KeyOp) (i : Nat) (body : Env → R (List Item)) (r : R (List Item)) : R (List Item) := oneKD "keyed" r fun kd env1 => match seqOf kd.2 with
  | none => .bad "keyed"
  | some ds => match keysLoop i body ds env1 with
    | none => .bad "keys"
    | some ks => (match o with
      | .sorted => (match sortKeys (ks.zip ds) with
        | some r => .ok [.val (1, .list (r.map (·.2)))] env1
        | none => .bad "sort keys")
      | .min => (match minKey (ks.zip ds) with
        | some r => .ok [.val (0, r.2)] env1
        | none => .bad "min keys"))

section
variable (fns : Nat → Option FnDef) (glb : Nat → Option D) (call : CallF)
def ev : E → Env → R (List Item)
  | .nil, env => .ok [] env
  | .cons e es, env => (ev e env).bind fun xs env1 => (ev es env1).bind fun ys env2 => .ok (xs ++ ys) env2
  | .star e es, env => (ev e env).bind fun xs env1 => match xs with
    | [.val (_, d)] => (match seqOf d with
      | some ds => (ev es env1).bind fun ys env2 => .ok (ds.map (fun d => Item.val (0, d)) ++ ys) env2
      | none => .bad "star")
    | _ => .bad "star"
  | .cst d, env => .ok [.val (0, d)] env
  | .var i, env => match getS env i with
    | some (_, d) => .ok [.val (0, d)] (freezeS env i)
    | none => .bad "var"
  | .mov i, env => match getS env i with
    | some (k, d) => .ok [.val (k, d)] (env.set i none)
    | none => .bad "mov"
  | .bor i, env => match getS env i with
    | some _ => .ok [.slot i] env
    | none => .bad "bor"
  | .glb x, env => match glb x with
    | some d => .ok [.val (0, d)] env
    | none => .bad "glb"
  | .op o es, env => (ev es env).bind fun xs env1 => opR o xs env1
  | .and a b, env => oneKD "and" (ev a env) fun kd env1 => if truth kd.2 then ev b env1 else .ok [.val kd] env1
  | .or a b, env => oneKD "or" (ev a env) fun kd env1 => if truth kd.2 then .ok [.val kd] env1 else ev b env1
  | .ite c a b, env => oneKD "ite" (ev c env) fun kd env1 => if truth kd.2 then ev a env1 else ev b env1
  | .chain o1 o2 a b c, env => oneKD "chain" (ev a env) fun ka env1 => oneKD "chain" (ev b env1) fun kb env2 => match semOp o1 [ka.2, kb.2] with
    | some (.bool true) => oneKD "chain" (ev c env2) fun kc env3 => (match semOp o2 [kb.2, kc.2] with
      | some r => .ok [.val (0, r)] env3
      | none => .bad "chain")
    | some (.bool false) => .ok [.val (0, .bool false)] env2
    | _ => .bad "chain"
  | .cut a b c, env => (ev a env).bind fun xs env1 => oneKD "cut" (ev b env1) fun kb env2 => match kb.2 with
    | .int _ => (ev c env2).bind fun zs env3 => opR .slab (xs ++ (.val kb :: zs)) env3
    | _ => .bad "cut"
  | .tup es, env => (ev es env).bind fun xs env1 => mkTup xs env1
  | .lst m es, env => (ev es env).bind fun xs env1 => mkLst m xs env1
  | .dnew m, env => .ok [.val (m + 1, .dict [])] env
  | .dct es, env => (ev es env).bind fun xs env1 => match xs with
    | [.val (_, k), .val (_, v)] => if okD k then .ok [.val (1, .dict [(k, v)])] env1 else .bad "dct"
    | _ => .bad "dct"
  | .call f es, env => (ev es env).bind fun xs env1 => callR fns call f xs env1
  | .callk f _ perm es, env => (ev es env).bind fun xs env1 => callR fns call f (permL xs perm) env1
  | .comp m e p it c, env => compR m p (condOf c (ev c)) (ev e) (ev it env)
  | .comp2 e p it c p2 it2 c2, env => comp2R p p2 (condOf c (ev c)) (ev it2) (condOf c2 (ev c2)) (ev e) (ev it env)
  | .dcomp k v p it, env => dcompR p (ev k) (ev v) (ev it env)
  | .pop i, env => popR i env
  | .popat i e, env => match getS env i with
    | some (_, .list _) => oneKD "popat" (ev e env) (popatR i)
    | _ => .bad "popat of what"
  | .iter k es, env => (ev es env).bind fun xs env1 => match ksD xs with
    | none => .bad "iter"
    | some ds => (match iterOf k ds with
      | some vs => .ok (vs.map fun v => Item.val (0, v)) env1
      | none => .bad "iter of")
  | .keyed o i body e, env => keyedR o i (ev body) (ev e env)

def forLoop (p : Pat) (body : Env → R Flow) : List D → Env → R Flow
  | [], env => .ok .nx env
  | d :: ds, env => match bindPat p d env with
    | none => .bad "for pattern"
    | some env1 => match body env1 with
      | .ok .nx env2 => forLoop p body ds env2
      | .ok .ct env2 => forLoop p body ds env2
      | .ok .bk env2 => .ok .nx env2
      | .ok (.rt kd) env2 => .ok (.rt kd) env2
      | .exc x env2 => .exc x env2
      | .bad m => .bad m
def whileLoop (test : Env → R (List Item)) (body : Env → R Flow) : Nat → Env → R Flow
  | 0, _ => .bad "while"
  | n + 1, env => match test env with
    | .ok [.val (_, b)] env1 => if truth b then (match body env1 with
        | .ok .nx env2 => whileLoop test body n env2
        | .ok .ct env2 => whileLoop test body n env2
        | .ok .bk env2 => .ok .nx env2
        | .ok (.rt kd) env2 => .ok (.rt kd) env2
        | .exc x env2 => .exc x env2
        | .bad m => .bad m) else .ok .nx env1
    | .ok _ _ => .bad "while test"
    | .exc x env1 => .exc x env1
    | .bad m => .bad m
def turns : Nat := 1000000000000
def oneS (r : R (List Item)) (f : KD → Env → R Flow) : R Flow := r.bind fun xs env => match xs with
  | [.val kd] => f kd env
  | _ => .bad "one"
def parSet : Pat → List Item → Env → Option Env
  | .nil, [], env => some env
  | .cons (.v i) ps, .val kd :: xs, env => if i < env.length then parSet ps xs (env.set i (some kd)) else none
  | .cons p ps, .val (_, d) :: xs, env => (bindPat p d env).bind fun env1 => parSet ps xs env1
  | _, _, _ => none
def hpD (cls : Nat → Option ClsDef) (x : Exn) : HP → Option D
  | .str s => some (.str s)
  | .fld f => (cls x.c).bind fun c => if c.fld = some f then x.f else none
  | .isi b => (cls x.c).map fun c => .bool (c.base == b)
def hpsD (cls : Nat → Option ClsDef) (x : Exn) : List HP → Option (List D)
  | [] => some []
  | h :: hs => (hpD cls x h).bind fun d => (hpsD cls x hs).map (d :: ·)
def kdOf (b : Bool) (ds : List D) : Option KD := if b then some (1, .list ds) else (match ds with
  | [d] => some (0, d)
  | _ => none)
def slotIn (env : Env) : Option Nat → Bool
  | some i => decide (i < env.length)
  | none => true
def unbindS (env : Env) : Option Nat → Env
  | some i => env.set i none
  | none => env
def handle (cls : Nat → Option ClsDef) (x : Exn) (env : Env) : List Hd → R Flow
  | [] => .exc x env
  | h :: hs => if h.c = x.c then (if slotIn env h.slot && slotIn env h.dest then (match hpsD cls x h.ps with
      | none => .bad "handler"
      | some ds => (match kdOf h.isList ds with
        | none => .bad "handler"
        | some kd => (match h.dest with
          | some j => .ok .nx ((unbindS env h.slot).set j (some kd))
          | none => .ok (.rt kd) (unbindS env h.slot)))) else .bad "handler slot") else handle cls x env hs
variable (cls : Nat → Option ClsDef) (lk : List Nat)
def free (i : Nat) : Bool := lk.getD i 0 == 0
def evS : S → Env → R Flow
  | .skip, env => .ok .nx env
  | .seq a b, env => (evS a env).bind fun f env1 => match f with
    | .nx => evS b env1
    | f => .ok f env1
  | .ret e, env => oneS (ev fns glb call e env) fun kd env1 => .ok (.rt kd) env1
  | .retN, env => .ok (.rt (0, .none)) env
  | .set i e, env => oneS (ev fns glb call e env) fun kd env1 => if free lk i && decide (i < env1.length) then .ok .nx (env1.set i (some kd)) else .bad "set of a slot that is handed in"
  | .asg p e, env => oneS (ev fns glb call e env) fun kd env1 => if (slotsP p).all (free lk) then (match bindPat p kd.2 env1 with
    | some env2 => .ok .nx env2
    | none => .bad "asg") else .bad "asg locked"
  | .par ps es, env => (ev fns glb call es env).bind fun xs env1 => if (slotsP ps).all (free lk) then (match parSet ps xs env1 with
    | some env2 => .ok .nx env2
    | none => .bad "par") else .bad "par locked"
  | .ite c a b, env => oneS (ev fns glb call c env) fun kd env1 => if truth kd.2 then evS a env1 else evS b env1
  | .for_ p it b, env => (ev fns glb call it env).bind fun xs env1 => match ksD xs with
    | some ds => if (slotsP p).all (free lk) then forLoop p (evS b) ds env1 else .bad "for locked"
    | none => .bad "for iter"
  | .while_ c b, env => whileLoop (ev fns glb call c) (evS b) turns env
  | .brk, env => .ok .bk env
  | .cnt, env => .ok .ct env
  | .expr e, env => oneS (ev fns glb call e env) fun _ env1 => .ok .nx env1
  | .append i e, env => match getS env i with
    | some (_, .list _) => (oneS (ev fns glb call e env) fun kd env1 => match getS env1 i with
      | some (k + 1, .list xs) => if xs.length < maxLen then .ok .nx (env1.set i (some (1 + min k kd.1, .list (xs ++ [kd.2])))) else .bad "append"
      | _ => .bad "append")
    | _ => .bad "append to what"
  | .extend i e, env => (ev fns glb call e env).bind fun xs env1 => match itemsKD env1 xs with
    | some [(_, .list ys)] => (match getS env1 i with
      | some (k + 1, .list zs) => if zs.length + ys.length ≤ maxLen then .ok .nx ((lowerItems env1 xs).set i (some (1, .list (zs ++ ys)))) else .bad "extend"
      | _ => .bad "extend")
    | _ => .bad "extend what"
  | .setix i ix e, env => oneS (ev fns glb call e env) fun kd env1 => match getS env1 i with
    | none => .bad "setix of what"
    | some _ => oneS (ev fns glb call ix env1) fun kx env2 => match getS env2 i with
      | some (k + 1, .list xs) => (match kx.2 with
        | .int j => (match ixPos xs.length j with
          | some n => .ok .nx (env2.set i (some (1 + min k kd.1, .list (xs.set n kd.2))))
          | none => .bad "setix")
        | _ => .bad "setix")
      | some (k + 1, .dict kvs) => if beyond && okD kx.2 then .ok .nx (env2.set i (some (1 + min k kd.1, .dict (putD kx.2 kd.2 kvs)))) else .bad "setix"
      | _ => .bad "setix"
  | .appendix i ix e, env => oneS (ev fns glb call ix env) fun kx env1 => oneS (ev fns glb call e env1) fun kd env2 => match getS env2 i with
    | some (k + 2, .list xs) => (match kx.2 with
      | .int j => (match ixPos xs.length j with
        | some n => (match xs[n]? with
          | some (.list ys) => if ys.length < maxLen then .ok .nx (env2.set i (some (2 + min k kd.1, .list (xs.set n (.list (ys ++ [kd.2])))))) else .bad "appendix"
          | _ => .bad "appendix")
        | none => .bad "appendix")
      | _ => .bad "appendix")
    | _ => .bad "appendix"
  | .appendsd i k d e, env => oneS (ev fns glb call k env) fun kk env1 => oneS (ev fns glb call d env1) fun kdf env2 => oneS (ev fns glb call e env2) fun kd env3 => match getS env3 i with
    | some (m + 2, .dict kvs) => if okD kk.2 then (match (lookD kk.2 kvs).getD kdf.2 with
        | .list ys => .ok .nx (env3.set i (some (2 + min m kd.1, .dict (putD kk.2 (.list (ys ++ [kd.2])) kvs))))
        | _ => .bad "appendsd") else .bad "appendsd"
    | _ => .bad "appendsd"
  | .raise c es, env => (ev fns glb call es env).bind fun xs env1 => match xs with
    | [] => .exc ⟨c, none⟩ env1
    | [.val (_, d)] => .exc ⟨c, some d⟩ env1
    | _ => .bad "raise"
  | .try_ b hs, env => match evS b env with
    | .ok f env1 => .ok f env1
    | .exc x env1 => handle cls x env1 hs
    | .bad m => .bad m
end
def startE (fd : FnDef) (args : List KD) : Env := args.map some ++ List.replicate (fd.ns - args.length) none
/-- what the handed-in slots hold behind a call -/
def maskO : List Nat → Env → List (Option KD)
  | [], _ => []
  | _ :: ms, [] => none :: maskO ms []
  | 0 :: ms, _ :: os => none :: maskO ms os
  | (_ + 1) :: ms, o :: os => o :: maskO ms os
def run (fns : Nat → Option FnDef) (glb : Nat → Option D) (cls : Nat → Option ClsDef) (call : CallF) (fd : FnDef) (args : List KD) : CR :=
  if args.length = fd.pm.length then (match evS fns glb call cls fd.pm fd.body (startE fd args) with
    | .ok (.rt kd) env => .ok kd (maskO fd.pm env)
    | .ok .nx env => .ok (0, .none) (maskO fd.pm env)
    | .ok _ _ => .bad "loose break"
    | .exc x env => .exc x (maskO fd.pm env)
    | .bad m => .bad m) else .bad "arity"
def callN (fns : Nat → Option FnDef) (glb : Nat → Option D) (cls : Nat → Option ClsDef) : Nat → CallF
  | 0, _, _ => .bad "depth"
  | n + 1, f, args => match fns f with
    | some fd => run fns glb cls (callN fns glb cls n) fd args
    | none => .bad "no such def"
end PL
end

section
set_option maxRecDepth 100000
/-! PlEn: enumerate over a tuple, over a list or a tuple. -/
namespace PL
open PySem PySem.Spec PyProof.Rows L2 Sem
open AutoSeq1 (wpAny_loadPart')

set_option maxHeartbeats 1000000 in
theorem en_new {v : Value} {o : Obj} {G : Heap → Prop} (B : Begins v o G) :
    Meets (Builtin.«enumerate.__new__» ⟨[.type "enumerate", v], []⟩) (fun _ R s => G s.heap ∧
      R (.ok (.ret (.ref (s.heap.push o).objs.size)))
        { s with heap := (s.heap.push o).push { cls := .type "enumerate", data := .fields #[.none, .bool false, .ref s.heap.objs.size, rawInt 0, .none, .none] } }) :=
  .of_wp fun prog w A R s h => by
    obtain ⟨hp, g, d, tk, os⟩ := s
    obtain ⟨g1, h⟩ := h
    have hsub := sub_enumerate
    have q1 : ∀ {A' : Around} {E Q : Value → Shared → Prop}, Q (.ref hp.objs.size) ⟨hp.push o, g, d, tk, os⟩ →
        wpAny (model prog w) A' (pyIter v) Q E ⟨hp, g, d, tk, os⟩ := fun q => B.iter prog w _ _ _ _ g1 q
    wp_walk using q1
    refine wpAny_stack_any fun st => wpAny_pure ?_
    split
    · rename_i c _ _ _ _ _
      cases (c == Value.type "enumerate") <;> (wp_walk using q1; exact ⟨_, rfl, h⟩)
    · wp_walk using q1
      exact ⟨_, rfl, h⟩
section
variable {prog : Program} {w : World} {A : Around} {E : Value → Shared → Prop} {s : Shared}
theorem en_call {v : Value} {o : Obj} {G : Heap → Prop} {Q : Value → Shared → Prop} (B : Begins v o G) (g1 : G s.heap)
    (h : ∀ h', IsEnum h' (s.heap.objs.size + 1) s.heap.objs.size 0 .none → h'.get? s.heap.objs.size = some o →
      (∀ b u, s.heap.get? b = some u → h'.get? b = some u) → Q (.ref (s.heap.objs.size + 1)) { s with heap := h' }) :
    wpAny (model prog w) A (call (.type "enumerate") [v]) Q E s := by
  refine callType_new F.called_enumerate (by decide) (F.typeCall_enumerate_1 _) (F.newCall_enumerate_1 _)
    (fun ob => F.args_object_init_2 ob _) F.entry_enumerate_new (en_new B) ⟨g1, ?_⟩
  have hz : (s.heap.push o).objs.size = s.heap.objs.size + 1 := Heap.size_push ..
  show _ ∧ _
  rw [hz]
  have he := Heap.get?_push_size (s.heap.push o)
    (o := { cls := .type "enumerate", data := .fields #[.none, .bool false, .ref s.heap.objs.size, rawInt 0, .none, .none] }) rfl
  rw [hz] at he
  refine ⟨⟨_, he, rfl⟩, h _ he (Heap.get?_push_of_some _ (Heap.get?_push_size _ B.free))
    fun b u x => Heap.get?_push_of_some _ (Heap.get?_push_of_some _ x)⟩
end
/-- the tuple at a as it stands at each turn, each item in a new pair -/
def IteT (K : PySem.W.Frag) (a : Addr) : It :=
  ⟨fun i H => ∃ (xs : List V) (x : V), SqT K H a xs ∧ xs[i]? = some x,
   fun i H v H' => ∃ T x, v = .ref T ∧ H T = none ∧ H' = upd H T (.tup [.int (i : Nat), x]) ∧ ∀ xs, SqT K H a xs → xs[i]? = some x,
   fun i H => ∃ xs : List V, SqT K H a xs ∧ xs.length ≤ i⟩
theorem turn_enumT {P : Program} {w : World} {K : PySem.W.Frag} {elts : List Expr} {kk : Nat} {tpos : Pos} {a e it : Addr} (hai : a ≠ it) (hea : e ≠ a) :
    Turn P w K (.Tuple elts kk tpos) (IteT K a) [e, it] e (fun i h => (∃ old, IsEnum h e it ((i : Nat) : Int) old) ∧ h.IsTupleIter it a i ∧ e ≠ it) where
  mem := by simp
  obj := fun i h st b hb => by
    obtain ⟨⟨old, he⟩, ⟨o, ho, hc, hd⟩, _⟩ := st
    have e' : b = e ∨ b = it := by simpa using hb
    rcases e' with z | z
    · rw [z]; exact ⟨_, he, fun v q => nomatch q⟩
    · rw [z]; exact ⟨o, ho, fun v q => by rw [hd] at q; cases q⟩
  keep := fun i h h' st k =>
    let ⟨⟨old, he⟩, hi, hne⟩ := st
    ⟨⟨old, k e (by simp) _ he⟩, hi.at fun o q => k it (by simp) o q, hne⟩
  item := by
    intro X hP hw hK hc i pins s σ H E I hf st hg
    subst hP hw hK
    obtain ⟨⟨old, he⟩, hit, hne⟩ := st
    obtain ⟨xs, x, hq, hx⟩ := hg
    obtain ⟨its, rv, p, hz⟩ := I.tuple hq
    obtain ⟨u, hu, ru⟩ := rv.get hx
    have hel : e < s.heap.objs.size := Heap.lt_size he
    have hil : it < s.heap.objs.size := by
      obtain ⟨_, q, _⟩ := hit
      exact Heap.lt_size q
    have hl : i < its.toArray.size := by
      have := (List.getElem?_eq_some_iff.mp hu).1
      simpa using this
    have hne2 : e ∉ [it, a] := by simp [hne, hea]
    refine wpAny_pyNext_enum_itemD (D := Draws.tuple (prog := X.prog) (w := X.w) (A := X.A.in1) (I.ok.hd hc) it a hai its.toArray) he ⟨hit, p⟩ hl hne hne2
      fun x' h' tk hp ho hit' hT hsz hk => ?_
    have ex : x' = u := by
      have hp : its.toArray[i]? = some x' := hp
      have hu' : its.toArray[i]? = some u := by simpa using hu
      rw [hu'] at hp
      exact (Option.some.inj hp).symm
    subst ex
    refine ⟨_, rfl, wpAny_letOwnedTupleGo_enum (s := { s with heap := h', toks := tk + 1 }) ho fun h'' he' sb => ?_⟩
    have hT2 := (sb.2 _ (Nat.ne_of_gt hel)).trans hT
    have new : ObjOk X.prog X.w (upd H s.heap.objs.size (.tup [.int (i : Nat), x])) h'' s.heap.objs.size (.tup [.int (i : Nat), x]) :=
      ⟨by show 2 ≤ sizeLine; decide, [.int i tk, x'], .cons ⟨_, rfl⟩ (.cons ru .nil), ⟨_, hT2, rfl, _, rfl⟩⟩
    have I1 : Inv X pins σ (upd H s.heap.objs.size (.tup [.int (i : Nat), x])) { s with heap := h'', toks := tk + 1 } :=
      I.turnedNew (ch := [e, it]) (fun b ob hb q =>
        (sb.2 b (fun z => hb (by simp [z]))).trans (hk b ob (fun z => hb (by simp [z])) (fun z => hb (by simp [z])) q)) hf (Nat.le_refl _) new
    refine ⟨.ref s.heap.objs.size, _, I1, rfl, ⟨_, x, rfl, I.hok.fresh (Nat.le_refl _), rfl, fun ys hy => by rw [I.tuple_inj hy hq]; exact hx⟩,
      ⟨⟨x', ?_⟩, hit'.1.at fun o q => (sb.2 it (Ne.symm hne)).trans q, hne⟩, fun b hb => ?_⟩
    · rw [show ((i + 1 : Nat) : Int) = (i : Int) + 1 by omega]
      exact he'
    · have hb' : b < s.heap.objs.size := by
        rcases (by simpa using hb : b = e ∨ b = it) with z | z <;> rw [z]
        · exact hel
        · exact hil
      rw [upd_ne (Nat.ne_of_lt hb')]
      exact (hf b hb).1
  done := by
    intro X hP hw hK hc i pins s σ H E I hf st hg
    subst hP hw hK
    obtain ⟨⟨old, he⟩, hit, hne⟩ := st
    obtain ⟨xs, hq, hx⟩ := hg
    obtain ⟨its, rv, p, hz⟩ := I.tuple hq
    obtain ⟨f0, f1, f2, f3, f4, f5⟩ := hf it (by simp)
    have hl := rv.length
    have hh := I.ok.hd hc
    have D : Draws X.prog X.w X.A.in1 it [it, a] i (fun _ _ => True) (fun j h => j = i ∧ h.IsTupleIter it a j ∧ h.IsTuple a its.toArray) :=
      { live := fun _ _ st => let ⟨o, ho, _⟩ := st.2.1; ⟨o, ho⟩
        frame := fun _ _ _ st hk => ⟨st.1, st.2.1.at fun o e => hk it (by simp) o e, st.2.2.at fun o e => hk a (by simp) o e⟩
        item := fun j s Q E hj st hQ => absurd st.1 (Nat.ne_of_lt hj)
        done := fun s Q E st hE => wpAny_nextOf_tuple_end (A := X.A.in1) hh st.2.1 st.2.2 (by simp; omega) hE }
    exact wpAny_pyNext_enum_endD D he ⟨rfl, hit, p⟩ fun h' eb => ⟨rfl, I.turned (t' := s.toks) (fun b o hb q => eb b o hb q) f0 f1 f3 f4 f5⟩
  self := fun A i s Q E st h => let ⟨⟨_, he⟩, _⟩ := st; wpAny_pyIter_enum he h
def iEnumA (K : PySem.W.Frag) (ta : TA) : TI := fun σ H R => ta σ H fun vs H1 => ∃ a xs, vs = [.ref a] ∧ ((SqL K H1 a xs ∧ R (Ite K a) H1) ∨ (SqT K H1 a xs ∧ R (IteT K a) H1))
theorem pi_enumA {X : Cx} {e : Expr} {ta : TA} {p pos tpos : Pos} {elts : List Expr} {kk : Nat} (hg : Gl X "enumerate") (hm : X.mg "enumerate" = none) (ha : PA X [e] ta)
    (hs : starEach [e] X.env = [(false, eval e X.env)]) : PI X (.Tuple elts kk tpos) (.Call (.Name "enumerate" p) [e] [] pos) (iEnumA X.K ta) := by
  refine ⟨fun pins s σ H R I h => ?_⟩
  refine Call_ (ld_blt I hg hm boot_enumerate (PyProof.Rows.callWith_type1 (thn (ha.run pos pins s σ H _ I h) fun us s1 ⟨vs, H1, I1, r1, q1⟩ => ?_) hs rfl))
  obtain ⟨a, xs, ex, q⟩ := q1
  subst ex
  cases r1 with
  | cons r rr =>
    cases rr
    cases r
    have fr : ∀ b ∈ [s1.heap.objs.size + 1, s1.heap.objs.size], FpOk X pins H1 b := fun b hb => by
      have hle : s1.heap.objs.size ≤ b := by
        rcases (by simpa using hb : b = s1.heap.objs.size + 1 ∨ b = s1.heap.objs.size) with z | z <;> rw [z]
        · exact Nat.le_add_right _ _
        · exact Nat.le_refl _
      exact I1.fpOk hle (I1.hok.fresh hle)
    rcases q with ⟨hq, q⟩ | ⟨hq, q⟩
    · obtain ⟨its, rv, p', hz⟩ := I1.list hq
      refine call_enumerate_list p'.isList fun h' he hit hsz hk => wpAny_pyIter_enum he ?_
      exact ⟨_, _, _, _, H1, rfl, I1.kept (t' := s1.toks) hk, turn_enum a _ _, ⟨⟨.none, he⟩, hit, Nat.succ_ne_self _⟩, fr, q⟩
    · obtain ⟨its, rv, p', hz⟩ := I1.tuple hq
      have hal : a < s1.heap.objs.size := by
        obtain ⟨_, z, _⟩ := p'
        exact Heap.lt_size z
      refine en_call (begins_tuple a its.toArray) p' fun h' he hit hk => wpAny_pyIter_enum he ?_
      exact ⟨_, _, _, _, H1, rfl, I1.kept (t' := s1.toks) hk, turn_enumT (Nat.ne_of_lt hal) (Nat.ne_of_gt (Nat.lt_succ_of_lt hal)), ⟨⟨.none, he⟩, ⟨_, hit, rfl, rfl⟩, Nat.succ_ne_self _⟩, fr, q⟩
end PL
end

section
set_option maxRecDepth 100000
/-! PlRel: plain data in the abstract heap: what is frozen, what is owned. -/
namespace PL
open PySem PySem.Spec PyProof.Rows L2

/-- a list that is read: of the heap, of the written part -/
def SqP (K : PySem.W.Frag) (F : Hp) (a : Addr) (xs : List V) : Prop :=
  Rd F a (.lst xs) ∨ ∃ (its : Array Value) (n : Nat), K.lookup a = some { cls := .type "list", data := .seq its n } ∧ its.size ≤ sizeLine ∧ Vals xs its.toList
theorem SqP.mono {K : PySem.W.Frag} {F G : Hp} {a : Addr} {xs : List V} (e : ∀ b o, F b = some o → G b = some o) (h : SqP K F a xs) : SqP K G a xs := by
  rcases h with (h | ⟨o, h⟩) | h
  · exact .inl (.inl (e _ _ h))
  · exact .inl (.inr ⟨o, e _ _ h⟩)
  · exact .inr h
theorem SqP.sql {K : PySem.W.Frag} {F : Hp} {a : Addr} {xs : List V} (h : SqP K F a xs) : SqL K F a xs := by
  rcases h with h | ⟨its, n, h1, h2, h3⟩
  · exact .inl h
  · exact .inr ⟨_, its, n, h1, rfl, rfl, rfl, h2, h3⟩
mutual
/-- v is the datum d in the frozen heap F -/
inductive Rp (K : PySem.W.Frag) (F : Hp) : V → D → Prop
  | non : Rp K F .non .none
  | bl (b : Bool) : Rp K F (.bl b) (.bool b)
  | int (i : Int) : Rp K F (.int i) (.int i)
  | str (x : Str) (h : x.length ≤ sizeLine) : Rp K F (.str x) (.str x)
  | lst {a : Addr} {xs : List V} {ds : List D} : SqP K F a xs → xs.length ≤ sizeLine → RpL K F xs ds → Rp K F (.ref a) (.list ds)
  | tup {a : Addr} {xs : List V} {ds : List D} : SqT K F a xs → xs.length ≤ sizeLine → RpL K F xs ds → Rp K F (.ref a) (.tuple ds)
inductive RpL (K : PySem.W.Frag) (F : Hp) : List V → List D → Prop
  | nil : RpL K F [] []
  | cons {v : V} {vs : List V} {d : D} {ds : List D} : Rp K F v d → RpL K F vs ds → RpL K F (v :: vs) (d :: ds)
end
variable {K : PySem.W.Frag} {F F' H H' : Hp}

theorem sqT_mono {a : Addr} {xs : List V} (e : Same F F') (h : SqT K F a xs) : SqT K F' a xs := by
  rcases h with (h | ⟨o, h⟩) | h
  · exact .inl (.inl (e _ _ h))
  · exact .inl (.inr ⟨o, e _ _ h⟩)
  · exact .inr h
theorem rd_mono {a : Addr} {u : HO} (e : Same F F') : Rd F a u → Rd F' a u
  | .inl h => .inl (e _ _ h)
  | .inr ⟨o, h⟩ => .inr ⟨o, e _ _ h⟩
mutual
theorem Rp.mono (e : Same F F') : ∀ {d : D} {v : V}, Rp K F v d → Rp K F' v d
  | .none, _, h => by cases h; exact .non
  | .bool _, _, h => by cases h; exact .bl _
  | .int _, _, h => by cases h; exact .int _
  | .str _, _, h => by
    cases h with
    | str x h => exact .str _ h
  | .list ds, _, h => by
    cases h with
    | lst h1 h2 h3 => exact .lst (h1.mono e) h2 (RpL.mono e h3)
  | .tuple ds, _, h => by
    cases h with
    | tup h1 h2 h3 => exact .tup (sqT_mono e h1) h2 (RpL.mono e h3)
  | .dict _, _, h => by cases h
theorem RpL.mono (e : Same F F') : ∀ {ds : List D} {vs : List V}, RpL K F vs ds → RpL K F' vs ds
  | [], _, h => by cases h; exact .nil
  | d :: ds, _, h => by
    cases h with
    | cons h1 h2 => exact .cons (Rp.mono e h1) (RpL.mono e h2)
end
theorem RpL.length : ∀ {vs : List V} {ds : List D}, RpL K F vs ds → vs.length = ds.length
  | _, _, .nil => rfl
  | _, _, .cons _ t => congrArg (· + 1) (RpL.length t)
theorem RpL.append : ∀ {vs ws : List V} {ds es : List D}, RpL K F vs ds → RpL K F ws es → RpL K F (vs ++ ws) (ds ++ es)
  | _, _, _, _, .nil, h => h
  | _, _, _, _, .cons a t, h => .cons a (RpL.append t h)
theorem RpL.get : ∀ {vs : List V} {ds : List D} {i : Nat} {d : D}, RpL K F vs ds → ds[i]? = some d → ∃ v, vs[i]? = some v ∧ Rp K F v d
  | _, _, _, _, .nil, e => by simp at e
  | _, _, 0, _, .cons r _, e => by simp at e; subst e; exact ⟨_, rfl, r⟩
  | _, _, i + 1, d, .cons _ t, e => by
    obtain ⟨u, h1, h2⟩ := RpL.get (i := i) (d := d) t (by simpa using e)
    exact ⟨u, by simpa using h1, h2⟩
theorem RpL.getV : ∀ {vs : List V} {ds : List D} {i : Nat} {v : V}, RpL K F vs ds → vs[i]? = some v → ∃ d, ds[i]? = some d ∧ Rp K F v d
  | _, _, _, _, .nil, e => by simp at e
  | _, _, 0, _, .cons r _, e => by simp at e; subst e; exact ⟨_, rfl, r⟩
  | _, _, i + 1, d, .cons _ t, e => by
    obtain ⟨u, h1, h2⟩ := RpL.getV (i := i) (v := d) t (by simpa using e)
    exact ⟨u, by simpa using h1, h2⟩
theorem RpL.take : ∀ {vs : List V} {ds : List D} (n : Nat), RpL K F vs ds → RpL K F (vs.take n) (ds.take n)
  | _, _, 0, _ => .nil
  | _, _, _ + 1, .nil => .nil
  | _, _, n + 1, .cons r t => .cons r (RpL.take n t)
theorem RpL.drop : ∀ {vs : List V} {ds : List D} (n : Nat), RpL K F vs ds → RpL K F (vs.drop n) (ds.drop n)
  | _, _, 0, r => r
  | _, _, _ + 1, .nil => .nil
  | _, _, n + 1, .cons _ t => RpL.drop n t
theorem RpL.reverse : ∀ {vs : List V} {ds : List D}, RpL K F vs ds → RpL K F vs.reverse ds.reverse
  | _, _, .nil => .nil
  | _, _, .cons r t => by rw [List.reverse_cons, List.reverse_cons]; exact (RpL.reverse t).append (.cons r .nil)

/-! ### owned things -/
/-- item by item, the footprints one after another -/
inductive Al (P : V → D → List Addr → Prop) : List V → List D → List Addr → Prop
  | nil : Al P [] [] []
  | cons {v : V} {vs : List V} {d : D} {ds : List D} {S T : List Addr} : P v d S → Al P vs ds T → Al P (v :: vs) (d :: ds) (S ++ T)
/-- v is d, owned k deep; S: the addresses that it owns -/
def Rl (K : PySem.W.Frag) (F H : Hp) : Nat → V → D → List Addr → Prop
  | 0, v, d, S => Rp K F v d ∧ S = []
  | k + 1, v, d, S => (isListD d = false ∧ Rp K F v d ∧ S = []) ∨
      ∃ a vs ds S', v = .ref a ∧ d = .list ds ∧ H a = some (.lst vs) ∧ vs.length ≤ sizeLine ∧ Al (Rl K F H k) vs ds S' ∧ S = a :: S'
theorem Al.imp {P Q : V → D → List Addr → Prop} : ∀ {vs : List V} {ds : List D} {S : List Addr}, Al P vs ds S → (∀ v d T, (∀ a ∈ T, a ∈ S) → P v d T → Q v d T) → Al Q vs ds S
  | _, _, _, .nil, _ => .nil
  | _, _, _, .cons h t, f => .cons (f _ _ _ (fun a ha => List.mem_append_left _ ha) h) (Al.imp t fun v d T s p => f v d T (fun a ha => List.mem_append_right _ (s a ha)) p)
theorem Al.length {P : V → D → List Addr → Prop} : ∀ {vs : List V} {ds : List D} {S : List Addr}, Al P vs ds S → vs.length = ds.length
  | _, _, _, .nil => rfl
  | _, _, _, .cons _ t => congrArg (· + 1) (Al.length t)
theorem Al.append {P : V → D → List Addr → Prop} : ∀ {vs ws : List V} {ds es : List D} {S T : List Addr}, Al P vs ds S → Al P ws es T → Al P (vs ++ ws) (ds ++ es) (S ++ T)
  | _, _, _, _, _, _, .nil, h => h
  | _, _, _, _, _, _, .cons a t, h => by rw [List.append_assoc]; exact .cons a (Al.append t h)
theorem Rl.mono (e : Same F F') : ∀ {k : Nat} {v : V} {d : D} {S : List Addr}, Rl K F H k v d S → Rl K F' H k v d S
  | 0, _, _, _, ⟨h, e'⟩ => ⟨h.mono e, e'⟩
  | k + 1, _, _, _, .inl ⟨n, h, e'⟩ => .inl ⟨n, h.mono e, e'⟩
  | k + 1, _, _, _, .inr ⟨a, vs, ds, S', h1, h2, h3, h4, h5, h6⟩ => .inr ⟨a, vs, ds, S', h1, h2, h3, h4, h5.imp fun _ _ _ _ p => Rl.mono e p, h6⟩
/-- the owned part is untouched -/
theorem Rl.heap : ∀ {k : Nat} {v : V} {d : D} {S : List Addr}, Rl K F H k v d S → (∀ a ∈ S, H' a = H a) → Rl K F H' k v d S
  | 0, _, _, _, h, _ => h
  | k + 1, _, _, _, .inl h, _ => .inl h
  | k + 1, _, _, _, .inr ⟨a, vs, ds, S', h1, h2, h3, h4, h5, h6⟩, hh => by
    subst h6
    exact .inr ⟨a, vs, ds, S', h1, h2, by rw [hh a List.mem_cons_self]; exact h3, h4, h5.imp fun _ _ T s p => Rl.heap p fun b hb => hh b (List.mem_cons_of_mem _ (s b hb)), rfl⟩
theorem Rl.there : ∀ {k : Nat} {v : V} {d : D} {S : List Addr}, Rl K F H k v d S → ∀ a ∈ S, ∃ vs, H a = some (.lst vs)
  | 0, _, _, _, ⟨_, e⟩, a, ha => by subst e; cases ha
  | k + 1, _, _, _, .inl ⟨_, _, e⟩, a, ha => by subst e; cases ha
  | k + 1, _, _, _, .inr ⟨b, vs, ds, S', h1, h2, h3, h4, h5, h6⟩, a, ha => by
    subst h6
    rcases List.mem_cons.mp ha with rfl | ha
    · exact ⟨_, h3⟩
    · have all : ∀ {vs : List V} {ds : List D} {S : List Addr}, Al (Rl K F H k) vs ds S → ∀ a ∈ S, ∃ vs, H a = some (.lst vs) := by
        intro vs ds S h
        induction h with
        | nil => intro a ha; cases ha
        | cons p _ ih =>
          intro a ha
          rcases List.mem_append.mp ha with ha | ha
          · exact Rl.there p a ha
          · exact ih a ha
      exact all h5 a ha
/-- all that is owned is frozen -/
theorem Rl.melt : ∀ {k : Nat} {v : V} {d : D} {S : List Addr}, Rl K F H k v d S → Same F F' → (∀ a ∈ S, F' a = H a) → Rp K F' v d
  | 0, _, _, _, ⟨h, _⟩, s, _ => h.mono s
  | k + 1, _, _, _, .inl ⟨_, h, _⟩, s, _ => h.mono s
  | k + 1, _, _, _, .inr ⟨a, vs, ds, S', h1, h2, h3, h4, h5, h6⟩, s, f => by
    subst h1 h2 h6
    have all : ∀ {vs : List V} {ds : List D} {S : List Addr}, Al (Rl K F H k) vs ds S → (∀ a ∈ S, F' a = H a) → RpL K F' vs ds := by
      intro vs ds S h
      induction h with
      | nil => intro _; exact .nil
      | cons p _ ih => exact fun f => .cons (Rl.melt p s fun a ha => f a (List.mem_append_left _ ha)) (ih fun a ha => f a (List.mem_append_right _ ha))
    exact .lst (.inl (.inl ((f a List.mem_cons_self).trans h3))) h4 (all h5 fun b hb => f b (List.mem_cons_of_mem _ hb))
theorem perm_mid {α : Type} (a b c d : List α) : ((a ++ c) ++ (b ++ d)).Perm ((a ++ b) ++ (c ++ d)) := by
  rw [List.append_assoc, List.append_assoc]
  refine List.Perm.append_left a ?_
  rw [← List.append_assoc, ← List.append_assoc]
  exact List.Perm.append_right d List.perm_append_comm
/-- give up some of what is owned: it is frozen from then on -/
theorem Rl.lower : ∀ {k j : Nat} {v : V} {d : D} {S : List Addr}, j ≤ k → Rl K F H k v d S →
    ∃ A S', (A ++ S').Perm S ∧ ∀ F' : Hp, Same F F' → (∀ a ∈ A, F' a = H a) → Rl K F' H j v d S'
  | k, 0, v, d, S, _, h => ⟨S, [], by simp, fun F' s f => ⟨h.melt s f, rfl⟩⟩
  | 0, j + 1, _, _, _, hj, _ => by omega
  | k + 1, j + 1, v, d, S, _, .inl ⟨n, h, e⟩ => ⟨[], S, List.Perm.refl _, fun F' s _ => .inl ⟨n, h.mono s, e⟩⟩
  | k + 1, j + 1, v, d, S, hj, .inr ⟨a, vs, ds, S', h1, h2, h3, h4, h5, h6⟩ => by
    have all : ∀ {vs : List V} {ds : List D} {S : List Addr}, Al (Rl K F H k) vs ds S → ∃ A S', (A ++ S').Perm S ∧ ∀ F' : Hp, Same F F' → (∀ a ∈ A, F' a = H a) → Al (Rl K F' H j) vs ds S' := by
      intro vs ds S h
      induction h with
      | nil => exact ⟨[], [], List.Perm.refl _, fun _ _ _ => .nil⟩
      | cons p _ ih =>
        obtain ⟨A1, S1, q1, w1⟩ := Rl.lower (Nat.le_of_succ_le_succ hj) p
        obtain ⟨A2, S2, q2, w2⟩ := ih
        exact ⟨A1 ++ A2, S1 ++ S2, (perm_mid A1 S1 A2 S2).trans (q1.append q2), fun F' s f => .cons (w1 F' s fun a ha => f a (List.mem_append_left _ ha)) (w2 F' s fun a ha => f a (List.mem_append_right _ ha))⟩
    obtain ⟨A, S1, q, w⟩ := all h5
    subst h6
    refine ⟨A, a :: S1, List.perm_middle.trans (q.cons a), fun F' s f => .inr ⟨a, vs, ds, S1, h1, h2, h3, h4, w F' s f, rfl⟩⟩

/-! ### the state's algebra -/
abbrev It := V × KD
/-- items with their footprints -/
inductive Ft (K : PySem.W.Frag) (F H : Hp) : List It → List Addr → Prop
  | nil : Ft K F H [] []
  | cons {v : V} {k : Nat} {d : D} {I : List It} {S T : List Addr} : Rl K F H k v d S → Ft K F H I T → Ft K F H ((v, (k, d)) :: I) (S ++ T)
theorem Ft.imp {F F' H H' : Hp} : ∀ {I : List It} {S : List Addr}, Ft K F H I S → (∀ k v d T, (∀ a ∈ T, a ∈ S) → Rl K F H k v d T → Rl K F' H' k v d T) → Ft K F' H' I S
  | _, _, .nil, _ => .nil
  | _, _, .cons h t, f => .cons (f _ _ _ _ (fun a ha => List.mem_append_left _ ha) h) (Ft.imp t fun k v d T s p => f k v d T (fun a ha => List.mem_append_right _ (s a ha)) p)
theorem Ft.append : ∀ {I J : List It} {S T : List Addr}, Ft K F H I S → Ft K F H J T → Ft K F H (I ++ J) (S ++ T)
  | _, _, _, _, .nil, h => h
  | _, _, _, _, .cons a t, h => by rw [List.append_assoc]; exact .cons a (Ft.append t h)
theorem Ft.split : ∀ {I J : List It} {S : List Addr}, Ft K F H (I ++ J) S → ∃ S1 S2, S = S1 ++ S2 ∧ Ft K F H I S1 ∧ Ft K F H J S2
  | [], _, S, h => ⟨[], S, rfl, .nil, h⟩
  | x :: I, J, S, h => by
    cases h with
    | cons p t =>
      obtain ⟨S1, S2, e, h1, h2⟩ := Ft.split t
      subst e
      exact ⟨_, S2, (List.append_assoc _ _ _).symm, .cons p h1, h2⟩
theorem Ft.perm {I J : List It} (p : I.Perm J) : ∀ {S : List Addr}, Ft K F H I S → ∃ T, Ft K F H J T ∧ S.Perm T := by
  induction p with
  | nil => intro S h; exact ⟨S, h, List.Perm.refl _⟩
  | cons x _ ih =>
    intro S h
    cases h with
    | cons r t =>
      obtain ⟨T, h1, h2⟩ := ih t
      exact ⟨_, .cons r h1, h2.append_left _⟩
  | swap x y l =>
    intro S h
    cases h with
    | cons r t =>
      cases t with
      | cons r2 t2 =>
        refine ⟨_, .cons r2 (.cons r t2), ?_⟩
        rw [← List.append_assoc, ← List.append_assoc]
        exact List.Perm.append_right _ List.perm_append_comm
  | trans _ _ ih1 ih2 =>
    intro S h
    obtain ⟨T, h1, h2⟩ := ih1 h
    obtain ⟨U, h3, h4⟩ := ih2 h1
    exact ⟨U, h3, h2.trans h4⟩
theorem Ft.there {I : List It} {S : List Addr} (h : Ft K F H I S) : ∀ a ∈ S, ∃ vs, H a = some (.lst vs) := by
  induction h with
  | nil => intro a ha; cases ha
  | cons p _ ih =>
    intro a ha
    rcases List.mem_append.mp ha with ha | ha
    · exact Rl.there p a ha
    · exact ih a ha

/-- F is frozen, A are held open, the items I are in order: nothing is owned twice -/
def Ok (K : PySem.W.Frag) (F H : Hp) (A : List Addr) (I : List It) : Prop :=
  ∃ S, Ft K F H I S ∧ (A ++ S).Nodup ∧ (∀ a ∈ A ++ S, F a = none ∧ H a ≠ none) ∧ Same F H
variable {A B : List Addr} {I J : List It}
theorem Ok.same (h : Ok K F H A I) : Same F H := let ⟨_, _, _, _, s⟩ := h; s
theorem Ok.fnone (h : Ok K F H A I) {p : Addr} (hp : H p = none) : F p = none := h.same.free hp
theorem Ok.perm (h : Ok K F H A I) (p : I.Perm J) : Ok K F H A J := by
  obtain ⟨S, h1, h2, h3, h4⟩ := h
  obtain ⟨T, t1, t2⟩ := h1.perm p
  exact ⟨T, t1, (t2.append_left A).nodup_iff.mp h2, fun a ha => h3 a ((t2.append_left A).mem_iff.mpr ha), h4⟩
theorem Ok.permA (h : Ok K F H A I) (p : A.Perm B) : Ok K F H B I := by
  obtain ⟨S, h1, h2, h3, h4⟩ := h
  exact ⟨S, h1, (p.append_right S).nodup_iff.mp h2, fun a ha => h3 a ((p.append_right S).mem_iff.mpr ha), h4⟩
theorem Ok.dropL (h : Ok K F H A (I ++ J)) : Ok K F H A J := by
  obtain ⟨S, h1, h2, h3, h4⟩ := h
  obtain ⟨S1, S2, e, t1, t2⟩ := h1.split
  subst e
  have sub : ∀ a, a ∈ A ++ S2 → a ∈ A ++ (S1 ++ S2) := fun a ha => by
    rcases List.mem_append.mp ha with ha | ha
    · exact List.mem_append_left _ ha
    · exact List.mem_append_right _ (List.mem_append_right _ ha)
  refine ⟨S2, t2, h2.sublist (List.Sublist.append_left (List.sublist_append_right S1 S2) A), fun a ha => h3 a (sub a ha), h4⟩
theorem Ok.drop {x : It} (h : Ok K F H A (x :: I)) : Ok K F H A I := Ok.dropL (I := [x]) h
theorem Ok.dropR (h : Ok K F H A (I ++ J)) : Ok K F H A I := (h.perm List.perm_append_comm).dropL
/-- a hole is forgotten -/
theorem Ok.dropA {a : Addr} (h : Ok K F H (a :: A) I) : Ok K F H A I := by
  obtain ⟨S, h1, h2, h3, h4⟩ := h
  exact ⟨S, h1, (List.nodup_cons.mp h2).2, fun b hb => h3 b (List.mem_cons_of_mem _ hb), h4⟩
/-- a frozen item -/
theorem Ok.rp {v : V} {d : D} (h : Ok K F H A ((v, (0, d)) :: I)) : Rp K F v d := by
  obtain ⟨S, h1, _⟩ := h
  cases h1 with
  | cons p t => exact p.1
theorem Ok.addRp {v : V} {d : D} (h : Ok K F H A I) (r : Rp K F v d) : Ok K F H A ((v, (0, d)) :: I) := by
  obtain ⟨S, h1, h2, h3, h4⟩ := h
  exact ⟨[] ++ S, .cons ⟨r, rfl⟩ h1, h2, h3, h4⟩
theorem Ok.addFlat {v : V} {d : D} (k : Nat) (h : Ok K F H A I) (r : Rp K F v d) (n : isListD d = false) : Ok K F H A ((v, (k, d)) :: I) := by
  obtain ⟨S, h1, h2, h3, h4⟩ := h
  cases k with
  | zero => exact ⟨[] ++ S, .cons ⟨r, rfl⟩ h1, h2, h3, h4⟩
  | succ k => exact ⟨[] ++ S, .cons (.inl ⟨n, r, rfl⟩) h1, h2, h3, h4⟩
/-- an item is given up to depth j -/
theorem Ok.lower {v : V} {k j : Nat} {d : D} (h : Ok K F H A ((v, (k, d)) :: I)) (hj : j ≤ k) : ∃ F', Same F F' ∧ Ok K F' H A ((v, (j, d)) :: I) := by
  obtain ⟨S, h1, h2, h3, h4⟩ := h
  cases h1 with
  | @cons _ _ _ _ S1 S2 p t =>
    obtain ⟨B, S', q, w⟩ := Rl.lower hj p
    have hB : ∀ a ∈ B, F a = none ∧ a ∉ A ∧ a ∉ S' ∧ a ∉ S2 := fun a ha => by
      have hS : a ∈ S1 := q.mem_iff.mp (List.mem_append_left _ ha)
      obtain ⟨n1, n2, n3⟩ := List.nodup_append.mp h2
      obtain ⟨m1, m2, m3⟩ := List.nodup_append.mp n2
      refine ⟨(h3 a (List.mem_append_right _ (List.mem_append_left _ hS))).1, fun hA => n3 a hA a (List.mem_append_left _ hS) rfl, fun h' => ?_, fun h' => m3 a hS a h' rfl⟩
      exact (List.nodup_append.mp (q.nodup_iff.mpr m1)).2.2 a ha a h' rfl
    let F' : Hp := fun b => if b ∈ B then H b else F b
    have f1 : Same F F' := fun b o e => by
      show (if b ∈ B then H b else F b) = some o
      by_cases hb : b ∈ B
      · rw [(hB b hb).1] at e; cases e
      · rw [if_neg hb]; exact e
    have f2 : ∀ a ∈ B, F' a = H a := fun a ha => if_pos ha
    have f3 : ∀ a, a ∉ B → F' a = F a := fun a ha => if_neg ha
    refine ⟨F', f1, S' ++ S2, .cons (w F' f1 f2) (t.imp fun k v d T _ r => r.mono f1), ?_, fun a ha => ?_, fun b o e => ?_⟩
    · refine List.Nodup.sublist ?_ ((show (A ++ ((B ++ S') ++ S2)).Perm (A ++ (S1 ++ S2)) from (q.append_right S2).append_left A).nodup_iff.mpr h2)
      exact List.Sublist.append_left (List.Sublist.append_right (List.sublist_append_right B S') S2) A
    · have nb : a ∉ B := fun hb => by
        rcases List.mem_append.mp ha with ha | ha
        · exact (hB a hb).2.1 ha
        · rcases List.mem_append.mp ha with ha | ha
          · exact (hB a hb).2.2.1 ha
          · exact (hB a hb).2.2.2 ha
      rw [f3 a nb]
      refine h3 a ?_
      rcases List.mem_append.mp ha with ha | ha
      · exact List.mem_append_left _ ha
      · rcases List.mem_append.mp ha with ha | ha
        · exact List.mem_append_right _ (List.mem_append_left _ (q.mem_iff.mp (List.mem_append_right _ ha)))
        · exact List.mem_append_right _ (List.mem_append_right _ ha)
    · by_cases hb : b ∈ B
      · rw [f2 b hb] at e; exact e
      · rw [f3 b hb] at e; exact h4 b o e
/-- a new object, held open -/
theorem Ok.alloc {p : Addr} {o : HO} (h : Ok K F H A I) (hp : H p = none) : Ok K F (upd H p o) (p :: A) I := by
  obtain ⟨S, h1, h2, h3, h4⟩ := h
  have np : p ∉ A ++ S := fun hm => (h3 p hm).2 hp
  have keep : ∀ b, b ∈ A ++ S → upd H p o b = H b := fun b hb => upd_ne fun e => np (e ▸ hb)
  refine ⟨S, h1.imp fun k v d T s r => r.heap fun a ha => keep a (List.mem_append_right _ (s a ha)), List.nodup_cons.mpr ⟨np, h2⟩, fun a ha => ?_, fun b x e => ?_⟩
  · rcases List.mem_cons.mp (show a ∈ p :: (A ++ S) from ha) with rfl | ha
    · exact ⟨h4.free hp, by rw [upd_same]; exact fun z => nomatch z⟩
    · rw [keep a ha]; exact h3 a ha
  · have nb : b ≠ p := ne_of_none (h4 b x e) hp
    rw [upd_ne nb]; exact h4 b x e
/-- the object in a hole is changed -/
theorem Ok.fill {p : Addr} {o : HO} (h : Ok K F H (p :: A) I) : Ok K F (upd H p o) (p :: A) I := by
  obtain ⟨S, h1, h2, h3, h4⟩ := h
  have h2' := List.nodup_cons.mp (show (p :: (A ++ S)).Nodup from h2)
  have keep : ∀ b, b ∈ A ++ S → upd H p o b = H b := fun b hb => upd_ne fun e => h2'.1 (e ▸ hb)
  have fp : F p = none := (h3 p List.mem_cons_self).1
  refine ⟨S, h1.imp fun k v d T s r => r.heap fun a ha => keep a (List.mem_append_right _ (s a ha)), h2, fun a ha => ?_, fun b x e => ?_⟩
  · rcases List.mem_cons.mp (show a ∈ p :: (A ++ S) from ha) with rfl | ha
    · exact ⟨fp, by rw [upd_same]; exact fun z => nomatch z⟩
    · rw [keep a ha]; exact h3 a (List.mem_cons_of_mem _ ha)
  · have nb : b ≠ p := ne_of_none e fp
    rw [upd_ne nb]; exact h4 b x e
/-- children, as items -/
def kidsI (k : Nat) : List V → List D → List It
  | v :: vs, d :: ds => (v, (k, d)) :: kidsI k vs ds
  | _, _ => []
theorem ft_kids {k : Nat} : ∀ {vs : List V} {ds : List D} {S : List Addr}, Al (Rl K F H k) vs ds S → Ft K F H (kidsI k vs ds) S
  | _, _, _, .nil => .nil
  | _, _, _, .cons p t => .cons p (ft_kids t)
theorem kids_ft {k : Nat} : ∀ {vs : List V} {ds : List D} {S : List Addr}, vs.length = ds.length → Ft K F H (kidsI k vs ds) S → Al (Rl K F H k) vs ds S
  | [], [], _, _, h => by cases h; exact .nil
  | v :: vs, d :: ds, _, hl, h => by
    cases h with
    | cons p t => exact .cons p (kids_ft (by simpa using hl) t)
  | [], _ :: _, _, hl, _ => by cases hl
  | _ :: _, [], _, hl, _ => by cases hl
/-- an owned list is opened: it is a hole, its items stand beside it -/
theorem Ok.opn {v : V} {k : Nat} {ds : List D} (h : Ok K F H A ((v, (k + 1, .list ds)) :: I)) :
    ∃ a vs, v = .ref a ∧ H a = some (.lst vs) ∧ vs.length ≤ sizeLine ∧ vs.length = ds.length ∧ Ok K F H (a :: A) (kidsI k vs ds ++ I) := by
  obtain ⟨S, h1, h2, h3, h4⟩ := h
  cases h1 with
  | @cons _ _ _ _ S1 S2 p t =>
    rcases p with ⟨n, _⟩ | ⟨a, vs, ds', S', e1, e2, e3, e4, e5, e6⟩
    · cases n
    · cases e2
      subst e6
      have pm : (A ++ (a :: S' ++ S2)).Perm (a :: A ++ (S' ++ S2)) := List.perm_middle
      exact ⟨a, vs, e1, e3, e4, e5.length, S' ++ S2, (ft_kids e5).append t, pm.nodup_iff.mp h2, fun b hb => h3 b (pm.mem_iff.mpr hb), h4⟩
/-- a hole with a list in it, its items owned k deep, is closed -/
theorem Ok.cls {a : Addr} {k : Nat} {vs : List V} {ds : List D} (h : Ok K F H (a :: A) (kidsI k vs ds ++ I)) (ha : H a = some (.lst vs)) (hz : vs.length ≤ sizeLine) (hl : vs.length = ds.length) :
    Ok K F H A ((.ref a, (k + 1, .list ds)) :: I) := by
  obtain ⟨S, h1, h2, h3, h4⟩ := h
  obtain ⟨S1, S2, e, t1, t2⟩ := h1.split
  subst e
  have pm : (A ++ (a :: S1 ++ S2)).Perm (a :: A ++ (S1 ++ S2)) := List.perm_middle
  exact ⟨a :: S1 ++ S2, .cons (.inr ⟨a, vs, ds, S1, rfl, rfl, ha, hz, kids_ft hl t1, rfl⟩) t2, pm.nodup_iff.mpr h2, fun b hb => h3 b (pm.mem_iff.mp hb), h4⟩
/-- a hole is frozen -/
theorem Ok.ice {a : Addr} {o : HO} (h : Ok K F H (a :: A) I) (ha : H a = some o) : Same F (upd F a o) ∧ Ok K (upd F a o) H A I := by
  obtain ⟨S, h1, h2, h3, h4⟩ := h
  have h2' := List.nodup_cons.mp (show (a :: (A ++ S)).Nodup from h2)
  have fa : F a = none := (h3 a List.mem_cons_self).1
  have s1 : Same F (upd F a o) := fun b x e => by rw [upd_ne (ne_of_none e fa)]; exact e
  refine ⟨s1, S, h1.imp fun k v d T _ r => r.mono s1, h2'.2, fun b hb => ?_, fun b x e => ?_⟩
  · have nb : b ≠ a := fun e => h2'.1 (e ▸ hb)
    rw [upd_ne nb]; exact h3 b (List.mem_cons_of_mem _ hb)
  · by_cases hb : b = a
    · subst hb; rw [upd_same] at e; rw [ha]; exact e
    · rw [upd_ne hb] at e; exact h4 b x e
/-- frozen kids -/
theorem kids_rp : ∀ {vs : List V} {ds : List D}, vs.length = ds.length → Ok K F H A (kidsI 0 vs ds ++ I) → RpL K F vs ds
  | [], [], _, _ => .nil
  | v :: vs, d :: ds, hl, h => .cons h.rp (kids_rp (by simpa using hl) h.drop)
  | [], _ :: _, hl, _ => by cases hl
  | _ :: _, [], hl, _ => by cases hl
theorem kids_add : ∀ {vs : List V} {ds : List D}, RpL K F vs ds → Ok K F H A I → Ok K F H A (kidsI 0 vs ds ++ I)
  | _, _, .nil, h => h
  | _, _, .cons r t, h => (kids_add t h).addRp r
theorem kidsI_append {k : Nat} : ∀ {vs ws : List V} {ds es : List D}, vs.length = ds.length → kidsI k (vs ++ ws) (ds ++ es) = kidsI k vs ds ++ kidsI k ws es
  | [], _, [], _, _ => rfl
  | v :: vs, _, d :: ds, _, hl => by
    show (v, (k, d)) :: kidsI k (vs ++ _) (ds ++ _) = (v, (k, d)) :: (kidsI k vs ds ++ _)
    rw [kidsI_append (by simpa using hl)]
  | [], _, _ :: _, _, hl => by cases hl
  | _ :: _, _, [], _, hl => by cases hl
/-- kids are given up to depth j -/
theorem Ok.lowerKids {k j : Nat} (hj : j ≤ k) : ∀ {vs : List V} {ds : List D} {F : Hp} {I : List It}, Ok K F H A (kidsI k vs ds ++ I) → ∃ F', Same F F' ∧ Ok K F' H A (kidsI j vs ds ++ I)
  | [], _, F, _, h => ⟨F, Same.refl F, h⟩
  | _ :: _, [], F, _, h => ⟨F, Same.refl F, h⟩
  | v :: vs, d :: ds, F, I, h => by
    obtain ⟨F1, s1, h1⟩ := Ok.lower (show Ok K F H A ((v, (k, d)) :: (kidsI k vs ds ++ I)) from h) hj
    have h2 : Ok K F1 H A (kidsI k vs ds ++ ((v, (j, d)) :: I)) := h1.perm List.perm_middle.symm
    obtain ⟨F2, s2, h3⟩ := Ok.lowerKids hj h2
    exact ⟨F2, s1.trans s2, h3.perm List.perm_middle⟩
end PL
end

section
set_option maxRecDepth 100000
/-! PlIn: the slots of a frame and the evaluator's environment; what a step gives. -/
namespace PL
open PySem PySem.Spec PyProof.Rows L2
variable {K : PySem.W.Frag} {F F' H H' : Hp}

/-- the slots' values, as items -/
inductive SI : L2.St → Env → List It → Prop
  | nil : SI [] [] []
  | emp {x : Option V} {σ : L2.St} {env : Env} {I : List It} : SI σ env I → SI (x :: σ) (none :: env) I
  | has {v : V} {kd : KD} {σ : L2.St} {env : Env} {I : List It} : SI σ env I → SI (some v :: σ) (some kd :: env) ((v, kd) :: I)
theorem SI.len {σ : L2.St} {env : Env} {I : List It} (h : SI σ env I) : σ.length = env.length := by
  induction h with
  | nil => rfl
  | emp _ ih => simp [ih]
  | has _ ih => simp [ih]
theorem SI.at {σ : L2.St} {env : Env} {I : List It} (h : SI σ env I) : ∀ (i : Nat) (kd : KD), env[i]? = some (some kd) →
    ∃ v I1 I2, σ[i]? = some (some v) ∧ I = I1 ++ (v, kd) :: I2 ∧ (∀ kd', SI σ (env.set i (some kd')) (I1 ++ (v, kd') :: I2)) ∧ SI σ (env.set i none) (I1 ++ I2) := by
  induction h with
  | nil => intro i kd e; simp at e
  | @emp x σ env I h ih =>
    intro i kd e
    cases i with
    | zero => simp at e
    | succ i =>
      obtain ⟨v, I1, I2, e1, e2, f, g⟩ := ih i kd (by simpa using e)
      exact ⟨v, I1, I2, by simpa using e1, e2, fun kd' => .emp (f kd'), .emp g⟩
  | @has v kd0 σ env I h ih =>
    intro i kd e
    cases i with
    | zero =>
      have e' : kd0 = kd := by simpa using e
      subst e'
      exact ⟨v, [], I, rfl, rfl, fun kd' => .has h, .emp h⟩
    | succ i =>
      obtain ⟨v', I1, I2, e1, e2, f, g⟩ := ih i kd (by simpa using e)
      subst e2
      exact ⟨v', (v, kd0) :: I1, I2, by simpa using e1, rfl, fun kd' => .has (f kd'), .has g⟩
/-- any slot is stored to -/
theorem SI.put {σ : L2.St} {env : Env} {I : List It} (h : SI σ env I) : ∀ (i : Nat), i < env.length →
    ∃ I1 M I2, I = I1 ++ M ++ I2 ∧ (∀ v kd, SI (σ.set i (some v)) (env.set i (some kd)) (I1 ++ (v, kd) :: I2)) ∧ (∀ x, SI (σ.set i x) (env.set i none) (I1 ++ I2)) ∧ SI σ (env.set i none) (I1 ++ I2) := by
  induction h with
  | nil => intro i hi; simp at hi
  | @emp x σ env I h ih =>
    intro i hi
    cases i with
    | zero => exact ⟨[], [], I, rfl, fun v kd => .has h, fun x => .emp h, .emp h⟩
    | succ i =>
      obtain ⟨I1, M, I2, e, f, g, g2⟩ := ih i (by simpa using hi)
      exact ⟨I1, M, I2, e, fun v kd => .emp (f v kd), fun x => .emp (g x), .emp g2⟩
  | @has v0 kd0 σ env I h ih =>
    intro i hi
    cases i with
    | zero => exact ⟨[], [(v0, kd0)], I, rfl, fun v kd => .has h, fun x => .emp h, .emp h⟩
    | succ i =>
      obtain ⟨I1, M, I2, e, f, g, g2⟩ := ih i (by simpa using hi)
      subst e
      exact ⟨(v0, kd0) :: I1, M, I2, rfl, fun v kd => .has (f v kd), fun x => .has (g x), .has g2⟩

/-- the state: slots and environment, the frozen heap, holes, further items; the locked slots stand -/
def In (K : PySem.W.Frag) (L : List (Nat × V)) (F : Hp) (env : Env) (σ : L2.St) (H : Hp) (A : List Addr) (T : List It) : Prop :=
  ∃ I, SI σ env I ∧ Ok K F H A (I ++ T) ∧ ∀ p ∈ L, σ[p.1]? = some (some p.2)
variable {L : List (Nat × V)} {env : Env} {σ : L2.St} {A : List Addr} {T T' : List It}
theorem In.same (h : In K L F env σ H A T) : Same F H := let ⟨_, _, o, _⟩ := h; o.same
theorem In.len (h : In K L F env σ H A T) : σ.length = env.length := let ⟨_, s, _, _⟩ := h; s.len
theorem In.perm (h : In K L F env σ H A T) (p : T.Perm T') : In K L F env σ H A T' :=
  let ⟨I, s, o, l⟩ := h; ⟨I, s, o.perm (p.append_left I), l⟩
theorem In.dropT {U : List It} (h : In K L F env σ H A (U ++ T)) : In K L F env σ H A T := by
  obtain ⟨I, s, o, l⟩ := h
  refine ⟨I, s, Ok.dropL (I := U) (o.perm ?_), l⟩
  rw [← List.append_assoc, ← List.append_assoc]
  exact List.Perm.append_right T List.perm_append_comm
theorem In.drop1 {x : It} (h : In K L F env σ H A (x :: T)) : In K L F env σ H A T := In.dropT (U := [x]) h
/-- what holds of every state in order holds here -/
theorem In.ext {U : List It} (h : In K L F env σ H A T) (f : ∀ I, Ok K F H A I → Ok K F' H' A (U ++ I)) : In K L F' env σ H' A (U ++ T) := by
  obtain ⟨I, s, o, l⟩ := h
  refine ⟨I, s, (f _ o).perm ?_, l⟩
  rw [← List.append_assoc, ← List.append_assoc]
  exact List.Perm.append_right T List.perm_append_comm
theorem In.ext1 {U V' : List It} (h : In K L F env σ H A (U ++ T)) (f : ∀ I, Ok K F H A (U ++ I) → Ok K F' H' A (V' ++ I)) : In K L F' env σ H' A (V' ++ T) := by
  obtain ⟨I, s, o, l⟩ := h
  have p : ∀ U : List It, (I ++ (U ++ T)).Perm (U ++ (I ++ T)) := fun U => by
    rw [← List.append_assoc, ← List.append_assoc]
    exact List.Perm.append_right T List.perm_append_comm
  exact ⟨I, s, (f _ (o.perm (p U))).perm (p V').symm, l⟩
theorem getS_some {i : Nat} {kd : KD} (h : getS env i = some kd) : env[i]? = some (some kd) := by
  unfold getS at h
  cases e : env[i]? with
  | none => rw [e] at h; cases h
  | some x => rw [e] at h; rw [show x = some kd from h]
theorem getS_lt {i : Nat} {kd : KD} (h : getS env i = some kd) : i < env.length := (List.getElem?_eq_some_iff.mp (getS_some h)).1
/-- a slot's item, taken out and put back -/
theorem In.pick {i : Nat} {kd : KD} (h : In K L F env σ H A T) (e : getS env i = some kd) :
    ∃ v J, σ[i]? = some (some v) ∧ Ok K F H A ((v, kd) :: (J ++ T)) ∧
      (∀ (F' H' : Hp) (A' : List Addr) (T' : List It) (kd' : KD), Ok K F' H' A' ((v, kd') :: (J ++ T')) → In K L F' (env.set i (some kd')) σ H' A' T') ∧
      (∀ (F' H' : Hp) (A' : List Addr) (T' : List It), Ok K F' H' A' (J ++ T') → In K L F' (env.set i none) σ H' A' T') := by
  obtain ⟨I, s, o, l⟩ := h
  obtain ⟨v, I1, I2, e1, e2, f, g⟩ := s.at i kd (getS_some e)
  subst e2
  have p : ∀ (kd' : KD) (T' : List It), ((I1 ++ (v, kd') :: I2) ++ T').Perm ((v, kd') :: ((I1 ++ I2) ++ T')) := fun kd' T' => by
    exact List.Perm.append_right T' List.perm_middle
  refine ⟨v, I1 ++ I2, e1, o.perm (p kd T), fun F' H' A' T' kd' o' => ⟨_, f kd', o'.perm (p kd' T').symm, l⟩, fun F' H' A' T' o' => ⟨_, g, o', l⟩⟩
theorem In.var {i : Nat} {kd : KD} (h : In K L F env σ H A T) (e : getS env i = some kd) : ∃ v, σ[i]? = some (some v) := let ⟨v, _, h, _⟩ := h.pick e; ⟨v, h⟩
/-- a slot is lowered -/
theorem In.lowerS {i k : Nat} (h : In K L F env σ H A T) : ∃ F', Same F F' ∧ In K L F' (PL.lowerS env i k) σ H A T := by
  unfold PL.lowerS
  cases e : getS env i with
  | none => exact ⟨F, Same.refl F, h⟩
  | some kd =>
    obtain ⟨j, d⟩ := kd
    obtain ⟨v, J, e1, o, f, _⟩ := h.pick e
    obtain ⟨F', s, o'⟩ := o.lower (Nat.min_le_left j k)
    exact ⟨F', s, f _ _ _ _ _ o'⟩
theorem In.freezeS {i : Nat} (h : In K L F env σ H A T) : ∃ F', Same F F' ∧ In K L F' (PL.freezeS env i) σ H A T := by
  unfold PL.freezeS
  cases e : getS env i with
  | none => exact ⟨F, Same.refl F, h⟩
  | some kd =>
    obtain ⟨j, d⟩ := kd
    obtain ⟨v, J, e1, o, f, _⟩ := h.pick e
    obtain ⟨F', s, o'⟩ := o.lower (Nat.zero_le j)
    exact ⟨F', s, f _ _ _ _ _ o'⟩
theorem In.freezeAll : ∀ {is : List Nat} {F : Hp} {env : Env}, In K L F env σ H A T → ∃ F', Same F F' ∧ In K L F' (PL.freezeAll env is) σ H A T
  | [], F, env, h => ⟨F, Same.refl F, h⟩
  | i :: is, F, env, h => by
    obtain ⟨F1, s1, h1⟩ := h.freezeS (i := i)
    obtain ⟨F2, s2, h2⟩ := In.freezeAll (is := is) h1
    exact ⟨F2, s1.trans s2, h2⟩
/-- a value is stored -/
theorem In.put {i : Nat} {v : V} {kd : KD} (h : In K L F env σ H A ((v, kd) :: T)) (hi : i < env.length) (hl : ∀ p ∈ L, p.1 ≠ i) : In K L F (env.set i (some kd)) (σ.set i (some v)) H A T := by
  obtain ⟨I, s, o, l⟩ := h
  obtain ⟨I1, M, I2, e, f, _⟩ := s.put i hi
  subst e
  refine ⟨_, f v kd, ?_, fun p hp => by rw [List.getElem?_set_ne (Ne.symm (hl p hp))]; exact l p hp⟩
  refine Ok.dropL (I := M) (o.perm ?_)
  -- ((I1 ++ M ++ I2) ++ x :: T) ~ M ++ ((I1 ++ x :: I2) ++ T)
  have p1 : ((I1 ++ M ++ I2) ++ (v, kd) :: T).Perm ((v, kd) :: ((I1 ++ M ++ I2) ++ T)) := List.perm_middle
  have p2 : ((v, kd) :: ((I1 ++ M ++ I2) ++ T)).Perm (M ++ ((v, kd) :: (I1 ++ I2) ++ T)) := by
    have q : (I1 ++ M ++ I2).Perm (M ++ (I1 ++ I2)) := by
      rw [← List.append_assoc]
      exact List.Perm.append_right I2 List.perm_append_comm
    have q2 : ((v, kd) :: ((I1 ++ M ++ I2) ++ T)).Perm ((v, kd) :: ((M ++ (I1 ++ I2)) ++ T)) := (q.append_right T).cons _
    refine q2.trans ?_
    rw [List.append_assoc]
    exact List.perm_middle.symm
  have p3 : (M ++ ((v, kd) :: (I1 ++ I2) ++ T)).Perm (M ++ ((I1 ++ (v, kd) :: I2) ++ T)) := (List.perm_middle.symm.append_right T).append_left M
  exact p1.trans (p2.trans p3)
/-- a slot is forgotten -/
theorem In.unset {i : Nat} {x : Option V} (h : In K L F env σ H A T) (hi : i < env.length) (hl : ∀ p ∈ L, p.1 ≠ i) : In K L F (env.set i none) (σ.set i x) H A T := by
  obtain ⟨I, s, o, l⟩ := h
  obtain ⟨I1, M, I2, e, _, g, _⟩ := s.put i hi
  subst e
  refine ⟨_, g x, ?_, fun p hp => by rw [List.getElem?_set_ne (Ne.symm (hl p hp))]; exact l p hp⟩
  refine Ok.dropL (I := M) (o.perm ?_)
  rw [List.append_assoc, List.append_assoc, List.append_assoc, ← List.append_assoc, ← List.append_assoc M]
  exact List.Perm.append_right _ List.perm_append_comm
theorem In.forget {i : Nat} (h : In K L F env σ H A T) (hi : i < env.length) : In K L F (env.set i none) σ H A T := by
  obtain ⟨I, s, o, l⟩ := h
  obtain ⟨I1, M, I2, e, _, _, g⟩ := s.put i hi
  subst e
  refine ⟨_, g, ?_, l⟩
  refine Ok.dropL (I := M) (o.perm ?_)
  rw [List.append_assoc, List.append_assoc, List.append_assoc, ← List.append_assoc, ← List.append_assoc M]
  exact List.Perm.append_right _ List.perm_append_comm

/-! ### operands -/
/-- what an expression has handed on: new values (as further items), or slots looked into -/
inductive IT : L2.St → List Item → List V → List It → Prop
  | nil {σ : L2.St} : IT σ [] [] []
  | val {σ : L2.St} {kd : KD} {xs : List Item} {v : V} {vs : List V} {T : List It} : IT σ xs vs T → IT σ (.val kd :: xs) (v :: vs) ((v, kd) :: T)
  | slot {σ : L2.St} {i : Nat} {xs : List Item} {v : V} {vs : List V} {T : List It} : σ[i]? = some (some v) → IT σ xs vs T → IT σ (.slot i :: xs) (v :: vs) T
theorem IT.append : ∀ {xs ys : List Item} {vs ws : List V} {T U : List It}, IT σ xs vs T → IT σ ys ws U → IT σ (xs ++ ys) (vs ++ ws) (T ++ U)
  | _, _, _, _, _, _, .nil, h => h
  | _, _, _, _, _, _, .val t, h => .val (t.append h)
  | _, _, _, _, _, _, .slot e t, h => .slot e (t.append h)
theorem IT.length : ∀ {xs : List Item} {vs : List V} {T : List It}, IT σ xs vs T → vs.length = xs.length
  | _, _, _, .nil => rfl
  | _, _, _, .val t => congrArg (· + 1) t.length
  | _, _, _, .slot _ t => congrArg (· + 1) t.length
/-- an operand: frozen, or an owned list whose items are frozen -/
def View (K : PySem.W.Frag) (F H : Hp) (v : V) (d : D) : Prop :=
  Rp K F v d ∨ ∃ a vs ds, v = .ref a ∧ d = .list ds ∧ H a = some (.lst vs) ∧ vs.length ≤ sizeLine ∧ RpL K F vs ds
inductive Views (K : PySem.W.Frag) (F H : Hp) : List V → List D → Prop
  | nil : Views K F H [] []
  | cons {v : V} {d : D} {vs : List V} {ds : List D} : View K F H v d → Views K F H vs ds → Views K F H (v :: vs) (d :: ds)
theorem View.mono (s : Same F F') {v : V} {d : D} : View K F H v d → View K F' H v d
  | .inl h => .inl (h.mono s)
  | .inr ⟨a, vs, ds, e1, e2, e3, e4, e5⟩ => .inr ⟨a, vs, ds, e1, e2, e3, e4, e5.mono s⟩
theorem Views.mono (s : Same F F') : ∀ {vs : List V} {ds : List D}, Views K F H vs ds → Views K F' H vs ds
  | _, _, .nil => .nil
  | _, _, .cons h t => .cons (h.mono s) (t.mono s)
theorem Ok.view {v : V} {k : Nat} {d : D} {I : List It} (h : Ok K F H A ((v, (k, d)) :: I)) (hk : k ≤ 1) : View K F H v d := by
  obtain ⟨S, h1, h2, h3, h4⟩ := h
  cases h1 with
  | @cons _ _ _ _ S1 S2 p t =>
    match k, hk, p with
    | 0, _, p => exact .inl p.1
    | 1, _, .inl p => exact .inl p.2.1
    | 1, _, .inr ⟨a, vs, ds, S', e1, e2, e3, e4, e5, e6⟩ =>
      refine .inr ⟨a, vs, ds, e1, e2, e3, e4, ?_⟩
      clear e6 e3 e4 h2 h3 e2
      induction e5 with
      | nil => exact .nil
      | cons p _ ih => exact .cons p.1 ih
theorem lowerS_other {i j k : Nat} (h : j ≠ i) : getS (lowerS env i k) j = getS env j := by
  unfold PL.lowerS
  cases e : getS env i with
  | none => rfl
  | some kd =>
    unfold getS
    show ((env.set i _)[j]?).join = _
    rw [List.getElem?_set_ne (Ne.symm h)]
theorem lowerS_self {i k m : Nat} {d : D} (h : getS env i = some (m, d)) : getS (lowerS env i k) i = some (min m k, d) := by
  unfold PL.lowerS
  rw [h]
  show getS (env.set i (some (min m k, d))) i = _
  unfold getS
  rw [List.getElem?_set_self (getS_lt h)]
  rfl
theorem lowerS_get {i j k m : Nat} {d : D} (h : getS env j = some (m, d)) : ∃ m', m' ≤ m ∧ getS (lowerS env i k) j = some (m', d) := by
  by_cases e : j = i
  · subst e; exact ⟨_, Nat.min_le_left _ _, lowerS_self h⟩
  · exact ⟨m, Nat.le_refl _, by rw [lowerS_other e]; exact h⟩
theorem lowerItems_get {j : Nat} {d : D} : ∀ {xs : List Item} {env : Env} {m : Nat}, getS env j = some (m, d) → ∃ m', m' ≤ m ∧ getS (lowerItems env xs) j = some (m', d)
  | [], env, m, h => ⟨m, Nat.le_refl _, h⟩
  | .val _ :: xs, env, m, h => lowerItems_get (xs := xs) h
  | .slot i :: xs, env, m, h => by
    obtain ⟨m1, l1, h1⟩ := lowerS_get (i := i) (k := 1) h
    obtain ⟨m2, l2, h2⟩ := lowerItems_get (xs := xs) h1
    exact ⟨m2, Nat.le_trans l2 l1, h2⟩
theorem In.lowerItems : ∀ {xs : List Item} {F : Hp} {env : Env}, In K L F env σ H A T → ∃ F', Same F F' ∧ In K L F' (PL.lowerItems env xs) σ H A T
  | [], F, env, h => ⟨F, Same.refl F, h⟩
  | .val _ :: xs, F, env, h => In.lowerItems (xs := xs) h
  | .slot i :: xs, F, env, h => by
    obtain ⟨F1, s1, h1⟩ := h.lowerS (i := i) (k := 1)
    obtain ⟨F2, s2, h2⟩ := In.lowerItems (xs := xs) h1
    exact ⟨F2, s1.trans s2, h2⟩
theorem lowerItems_slot {i : Nat} : ∀ {xs : List Item} {env : Env} {m : Nat} {d : D}, Item.slot i ∈ xs → getS env i = some (m, d) → ∃ m', m' ≤ 1 ∧ getS (lowerItems env xs) i = some (m', d)
  | [], _, _, _, h, _ => by cases h
  | .val _ :: xs, env, m, d, hm, h => by
    rcases List.mem_cons.mp hm with e | hm
    · cases e
    · exact lowerItems_slot (xs := xs) hm h
  | .slot j :: xs, env, m, d, hm, h => by
    by_cases e : i = j
    · subst e
      obtain ⟨m', l, q⟩ := lowerItems_get (xs := xs) (lowerS_self (k := 1) h)
      exact ⟨m', Nat.le_trans l (Nat.min_le_right _ _), q⟩
    · rcases List.mem_cons.mp hm with e' | hm
      · injection e' with e'; exact absurd e' e
      · obtain ⟨m1, _, h1⟩ := lowerS_get (i := j) (k := 1) h
        exact lowerItems_slot (xs := xs) hm h1
/-- the values are frozen (dropped as items), the slots looked into give up all but their own list -/
theorem In.operands {xs : List Item} {vs : List V} {kds : List KD} (h : In K L F env σ H A (T' ++ T)) (it : IT σ xs vs T') (e : itemsKD env xs = some kds) :
    ∃ F', Same F F' ∧ In K L F' (PL.lowerItems env xs) σ H A T ∧ Views K F' H vs (kds.map (·.2)) := by
  -- first the slots
  obtain ⟨F1, s1, h1⟩ := h.lowerItems (xs := xs)
  -- then the values, one by one
  have go : ∀ {ys : List Item} {ws : List V} {U : List It} {es : List KD} {F2 : Hp}, (∀ y ∈ ys, y ∈ xs) → IT σ ys ws U → itemsKD env ys = some es → In K L F2 (PL.lowerItems env xs) σ H A (U ++ T) →
      ∃ F3, Same F2 F3 ∧ In K L F3 (PL.lowerItems env xs) σ H A T ∧ Views K F3 H ws (es.map (·.2)) := by
    intro ys
    induction ys with
    | nil =>
      intro ws U es F2 _ it e hI
      cases it
      have e' : es = [] := by
        have : some ([] : List KD) = some es := e
        exact (Option.some.inj this).symm
      subst e'
      exact ⟨F2, Same.refl F2, hI, .nil⟩
    | cons y ys ih =>
      intro ws U es F2 hs it e hI
      unfold itemsKD at e
      cases it with
      | @val kd _ v vs' U' it =>
        simp only [itemKD, Option.bind_some] at e
        cases e2 : itemsKD env ys with
        | none => rw [e2] at e; cases e
        | some es' =>
          rw [e2] at e
          have e3 : es = kd :: es' := (Option.some.inj e).symm
          subst e3
          obtain ⟨k, d⟩ := kd
          -- the first one is frozen
          obtain ⟨I, s, o, l⟩ := hI
          have o' : Ok K F2 H A ((v, (k, d)) :: (I ++ (U' ++ T))) := o.perm List.perm_middle
          obtain ⟨F3, s3, o3⟩ := o'.lower (Nat.zero_le k)
          have r := o3.rp
          obtain ⟨F4, s4, h4, w4⟩ := ih (fun y hy => hs y (List.mem_cons_of_mem _ hy)) it e2 ⟨I, s, o3.drop, l⟩
          exact ⟨F4, s3.trans s4, h4, .cons (.inl (r.mono s4)) w4⟩
      | @slot i _ v vs' U' hv it =>
        cases eg : getS env i with
        | none =>
          rw [show itemKD env (.slot i) = getS env i from rfl, eg] at e
          cases e
        | some kd =>
          rw [show itemKD env (.slot i) = getS env i from rfl, eg, Option.bind_some] at e
          cases e2 : itemsKD env ys with
          | none => rw [e2] at e; cases e
          | some es' =>
            rw [e2] at e
            have e3 : es = kd :: es' := (Option.some.inj e).symm
            subst e3
            obtain ⟨F4, s4, h4, w4⟩ := ih (fun y hy => hs y (List.mem_cons_of_mem _ hy)) it e2 hI
            obtain ⟨k, d⟩ := kd
            obtain ⟨m', hm', eg'⟩ := lowerItems_slot (hs (.slot i) List.mem_cons_self) eg
            obtain ⟨v', J, hv', o, _, _⟩ := h4.pick eg'
            rw [hv] at hv'
            have ev : v = v' := by injection hv' with hv'; injection hv'
            subst ev
            exact ⟨F4, s4, h4, .cons (o.view hm') w4⟩
  obtain ⟨F2, s2, h2, w2⟩ := go (fun _ h => h) it e h1
  exact ⟨F2, s1.trans s2, h2, w2⟩

/-! ### results -/
/-- any result (F', H', v) by which every state in order stays so, v as d beside it, serves -/
def Out (K : PySem.W.Frag) (F H : Hp) (k : Nat) (d : D) (Q : VK) : Prop :=
  ∀ F' H' v, Same F F' → (∀ A I, Ok K F H A I → Ok K F' H' A ((v, (k, d)) :: I)) → Q v H'
theorem Out.rp {k : Nat} {v : V} {d : D} {Q : VK} (o : Out K F H k d Q) (r : Rp K F v d) (n : isListD d = false) : Q v H := o F H v (Same.refl F) fun _ _ h => h.addFlat k r n
theorem Out.rp0 {v : V} {d : D} {Q : VK} (o : Out K F H 0 d Q) (r : Rp K F v d) : Q v H := o F H v (Same.refl F) fun _ _ h => h.addRp r
theorem Out.lst {p : Addr} {vs : List V} {ds : List D} {Q : VK} (o : Out K F H 1 (.list ds) Q) (hp : H p = none) (r : RpL K F vs ds) (hz : vs.length ≤ sizeLine) : Q (.ref p) (upd H p (.lst vs)) :=
  o F _ _ (Same.refl F) fun _ _ h => Ok.cls (kids_add r (h.alloc hp)) upd_same hz r.length
theorem Out.tup {k : Nat} {p : Addr} {vs : List V} {ds : List D} {Q : VK} (o : Out K F H k (.tuple ds) Q) (hp : H p = none) (r : RpL K F vs ds) (hz : vs.length ≤ sizeLine) (hs : Same F H) : Q (.ref p) (upd H p (.tup vs)) := by
  refine o (upd F p (.tup vs)) _ _ (fun b x e => by rw [upd_ne (ne_of_none e (hs.free hp))]; exact e) fun _ _ h => ?_
  obtain ⟨s1, h2⟩ := (h.alloc (o := .tup vs) hp).ice upd_same
  exact h2.addFlat k (.tup (.inl (.inl upd_same)) hz (r.mono s1)) rfl
end PL
end

section
set_option maxRecDepth 100000
/-! PlSd: the readings that the evaluator gives, and how they are taken apart. -/
namespace PL
open PySem PySem.Spec PyProof.Rows L2

/-- what the evaluator is run with, and the classes of errors -/
structure Cf where
  fns : Nat → Option FnDef
  glb : Nat → Option D
  cls : Nat → Option ClsDef
  call : CallF
  cad : Nat → Option Addr
  lk : List Nat
variable {K : PySem.W.Frag} {C : Cf} {W : WX}
/-- an error as the evaluator has it -/
def ExR (K : PySem.W.Frag) (C : Cf) (F H : Hp) (x : Exn) (cls : Value) (dd : Option Addr) : Prop :=
  ∃ ca cd, C.cad x.c = some ca ∧ C.cls x.c = some cd ∧ cls = .ref ca ∧
    match cd.fld, x.f with
    | some f, some d => ∃ a v, dd = some a ∧ H a = some (.xd [(f, v)]) ∧ Rp K F v d
    | none, none => dd = none
    | _, _ => False
/-- what a step's result gives -/
def Post {α : Type} (K : PySem.W.Frag) (C : Cf) (W : WX) (L : List (Nat × V)) (F : Hp) (A : List Addr) (T : List It) (σ : L2.St) (r : R α) (Q : α → Env → Hp → Hp → Prop) : Prop := match r with
  | .ok a env' => ∀ F' H', Same F F' → Q a env' F' H'
  | .exc x env' => ∀ F' H' cls dd, Same F F' → In K L F' env' σ H' A T → ExR K C F' H' x cls dd → W cls dd σ H'
  | .bad _ => False
abbrev evC (C : Cf) (e : E) (env : Env) : R (List Item) := ev C.fns C.glb C.call e env
/-- the locked slots are the parameters that are handed in to be changed -/
def Lko (C : Cf) (L : List (Nat × V)) : Prop := ∀ p ∈ L, free C.lk p.1 = false
/-- an expression's (list's) reading -/
def tX (K : PySem.W.Frag) (C : Cf) (W : WX) (e : E) : TA := fun σ H Q => ∃ L F A T env, Lko C L ∧ In K L F env σ H A T ∧
  Post K C W L F A T σ (evC C e env) fun xs env' F' H' => ∀ vs T', IT σ xs vs T' → In K L F' env' σ H' A (T' ++ T) → Q vs H'
def tE (K : PySem.W.Frag) (C : Cf) (W : WX) (e : E) : TE := fun σ H Q => tX K C W e σ H fun vs H' => ∃ v, vs = [v] ∧ Q v H'
/-- a test's reading -/
def tT (K : PySem.W.Frag) (C : Cf) (W : WX) (e : E) : TT := fun σ H Q => ∃ L F A T env, Lko C L ∧ In K L F env σ H A T ∧
  Post K C W L F A T σ (evC C e env) fun xs env' F' H' => ∃ x kd, xs = [x] ∧ itemKD env' x = some kd ∧ (In K L F' env' σ H' A T → Q (truth kd.2) H')

theorem Post.mono {α : Type} {L : List (Nat × V)} {F F1 : Hp} {A : List Addr} {T : List It} {σ : L2.St} {r : R α} {Q Q' : α → Env → Hp → Hp → Prop} (h : Post K C W L F A T σ r Q) (s : Same F F1)
    (f : ∀ a env' F' H', Same F1 F' → r = .ok a env' → Q a env' F' H' → Q' a env' F' H') : Post K C W L F1 A T σ r Q' := by
  cases r with
  | ok a env' => exact fun F' H' s' => f a env' F' H' s' rfl (h F' H' (s.trans s'))
  | exc x env' => exact fun F' H' cls dd s' => h F' H' cls dd (s.trans s')
  | bad m => exact h
/-- the first part of a step -/
theorem Post.step {α β : Type} {L : List (Nat × V)} {F : Hp} {A : List Addr} {T : List It} (T0 : List It) {σ : L2.St} {r : R α} {f : α → Env → R β} {Q : β → Env → Hp → Hp → Prop} {Q1 : α → Env → Hp → Hp → Prop}
    (h : Post K C W L F A T σ (r.bind f) Q) (k : ∀ a env' F' H', r = .ok a env' → Same F F' → Post K C W L F' A T σ (f a env') Q → Q1 a env' F' H') : Post K C W L F A (T0 ++ T) σ r Q1 := by
  cases r with
  | ok a env' => exact fun F' H' s' => k a env' F' H' rfl s' (Post.mono h s' fun _ _ _ _ _ _ q => q)
  | exc x env' => exact fun F' H' cls dd s' i => h F' H' cls dd s' i.dropT
  | bad m => exact h
theorem bind_assoc {α β γ : Type} (r : R α) (f : α → Env → R β) (g : β → Env → R γ) : (r.bind f).bind g = r.bind fun a env => (f a env).bind g := by
  cases r <;> rfl
theorem bind_ok {α β : Type} (a : α) (env : Env) (f : α → Env → R β) : (R.ok a env).bind f = f a env := rfl

/-! ### an operation's end -/
def opK (o : Op) : Nat := if freshOp o then 1 else 0
/-- the operands' values, what the op makes of them, and what is wanted then -/
def OpW (K : PySem.W.Frag) (o : Op) (vs : List V) (H : Hp) (Q : VK) : Prop :=
  ∃ F ds d, Same F H ∧ Views K F H vs ds ∧ semOp o ds = some d ∧ Out K F H (opK o) d Q
theorem opw_of {L : List (Nat × V)} {F F0 : Hp} {A : List Addr} {T T' : List It} {env : Env} {σ : L2.St} {H : Hp} {o : Op} {xs : List Item} {vs : List V} {Q : VK} (it : IT σ xs vs T') (i : In K L F env σ H A (T' ++ T)) (s : Same F0 F)
    (h : Post K C W L F0 A T σ (opR o xs env) fun xs env' F' H' => ∀ vs T', IT σ xs vs T' → In K L F' env' σ H' A (T' ++ T) → ∃ v, vs = [v] ∧ Q v H') : OpW K o vs H Q := by
  unfold opR at h
  cases e : itemsKD env xs with
  | none => rw [e] at h; exact h.elim
  | some kds =>
    rw [e] at h
    dsimp only at h
    cases e2 : semOp o (kds.map (·.2)) with
    | none => rw [e2] at h; exact h.elim
    | some d =>
      rw [e2] at h
      obtain ⟨F', s', i', w⟩ := i.operands it e
      refine ⟨F', _, d, i'.same, w, e2, fun F2 H2 v s2 f => ?_⟩
      obtain ⟨v', e', q⟩ := h F2 H2 (s.trans (s'.trans s2)) [v] [(v, (opK o, d))] (.val .nil) (i'.ext (U := [(v, (opK o, d))]) fun I o' => f A I o')
      cases e'
      exact q
/-- operands written as arguments -/
theorem tX_op {o : Op} {es : E} {σ : L2.St} {H : Hp} {Q : VK} (h : tE K C W (.op o es) σ H Q) : tX K C W es σ H fun vs H1 => OpW K o vs H1 Q := by
  obtain ⟨L, F, A, T, env, hl, i, p⟩ := h
  refine ⟨L, F, A, T, env, hl, i, ?_⟩
  refine Post.step [] (f := fun xs env1 => opR o xs env1) (show Post K C W L F A T σ ((evC C es env).bind fun xs env1 => opR o xs env1) _ from p) fun xs env' F' H' e s q vs T' it i' => ?_
  exact opw_of it i' (Same.refl _) q
/-- one operand, two operands, three -/
theorem tE_op1 {o : Op} {a : E} {σ : L2.St} {H : Hp} {Q : VK} (ha : ∀ env xs env', evC C a env = .ok xs env' → ∃ x, xs = [x]) (h : tE K C W (.op o (.cons a .nil)) σ H Q) : tE K C W a σ H fun x H1 => OpW K o [x] H1 Q := by
  obtain ⟨L, F, A, T, env, hl, i, p⟩ := h
  refine ⟨L, F, A, T, env, hl, i, ?_⟩
  have p : Post K C W L F A T σ (((evC C a env).bind fun xs env1 => (R.ok [] env1).bind fun ys env2 => R.ok (xs ++ ys) env2).bind fun xs env1 => opR o xs env1) _ := p
  rw [bind_assoc] at p
  refine Post.step [] p fun xs env' F' H' e s q vs T' it i' => ?_
  obtain ⟨x, ex⟩ := ha _ _ _ e
  subst ex
  have q' : Post K C W L F' A T σ (opR o [x] env') _ := q
  cases it with
  | @val kd _ v vs' T1 it =>
    cases it
    exact ⟨v, rfl, opw_of (.val .nil) i' (Same.refl _) q'⟩
  | @slot j _ v vs' T1 hv it =>
    cases it
    exact ⟨v, rfl, opw_of (.slot hv .nil) i' (Same.refl _) q'⟩
theorem one_val {σ : L2.St} {x : Item} {vs : List V} {T : List It} (it : IT σ [x] vs T) : ∃ v, vs = [v] := by
  cases it with
  | val it => cases it; exact ⟨_, rfl⟩
  | slot _ it => cases it; exact ⟨_, rfl⟩
theorem tE_op2 {o : Op} {a b : E} {σ : L2.St} {H : Hp} {Q : VK} (ha : ∀ env xs env', evC C a env = .ok xs env' → ∃ x, xs = [x]) (hb : ∀ env xs env', evC C b env = .ok xs env' → ∃ x, xs = [x])
    (h : tE K C W (.op o (.cons a (.cons b .nil))) σ H Q) : tE K C W a σ H fun x H1 => tE K C W b σ H1 fun y H2 => OpW K o [x, y] H2 Q := by
  obtain ⟨L, F, A, T, env, hl, i, p⟩ := h
  refine ⟨L, F, A, T, env, hl, i, ?_⟩
  have p : Post K C W L F A T σ (((evC C a env).bind fun xs env1 => ((evC C b env1).bind fun ys env2 => (R.ok [] env2).bind fun zs env3 => R.ok (ys ++ zs) env3).bind fun ys env2 => R.ok (xs ++ ys) env2).bind fun xs env1 => opR o xs env1) _ := p
  rw [bind_assoc] at p
  refine Post.step [] p fun xs env' F' H' e s q vs T' it i' => ?_
  obtain ⟨x, ex⟩ := ha _ _ _ e
  subst ex
  obtain ⟨v, ev⟩ := one_val it
  subst ev
  refine ⟨v, rfl, L, F', A, T' ++ T, env', hl, i', ?_⟩
  have q : Post K C W L F' A T σ ((((evC C b env').bind fun ys env2 => (R.ok [] env2).bind fun zs env3 => R.ok (ys ++ zs) env3).bind fun ys env2 => R.ok ([x] ++ ys) env2).bind fun xs env1 => opR o xs env1) _ := q
  rw [bind_assoc, bind_assoc] at q
  refine Post.step T' q fun ys env2 F2 H2 e2 s2 q2 ws T2 it2 i2 => ?_
  obtain ⟨y, ey⟩ := hb _ _ _ e2
  subst ey
  obtain ⟨w, ew⟩ := one_val it2
  subst ew
  have q2 : Post K C W L F2 A T σ (opR o [x, y] env2) _ := q2
  refine ⟨w, rfl, opw_of (T' := T' ++ T2) (it.append it2) (i2.perm ?_) (Same.refl _) q2⟩
  rw [← List.append_assoc]
  exact List.Perm.append_right T List.perm_append_comm
end PL
end

section
set_option maxRecDepth 100000
set_option maxHeartbeats 4000000
/-! PlErr1: the __init__ of an error's class, super().__init__(x); sf.f = x, run. -/
namespace PL
open PySem PySem.W PySem.Spec PySem.Calls PyProof.Rows L2

/-- what is known of such an __init__ -/
structure IniD (K : Frag) (P : Program) (C : Addr) (f : Str) (fI : Addr) (qual sf pr : Str) (params : Arguments) (body : List Stmt) (scope : Scope) (cda cc : Addr) : Prop where
  obj : ∃ (oc : Value) (od : Option Addr) (osl : Array (Option Value)) (name : Str) (kV doc pm ct : Value) (an : Option Addr), K.lookup fI = some ⟨oc, od, .func (ksFn name qual params body scope .none kV doc pm an (.ref cda) ct cc), osl⟩
  code : codeIn K (.ref cda) qual = true
  file : ∃ (ccl : Value) (cdd : Option Addr) (vs : Array Value) (ccs : Array (Option Value)) (fl : Str) (tf : Tok), K.lookup cda = some ⟨ccl, cdd, .fields vs, ccs⟩ ∧ vs[2]? = some (.str fl tf) ∧ ((P.main.file : Str) == fl) = true
  cell : ∃ (cl : Value) (cld : Option Addr) (csl : Array (Option Value)), K.lookup cc = some ⟨cl, cld, .cell (some (.ref C)), csl⟩
  bd : ∀ (name : Str) (kV doc pm ct a b : Value) (an : Option Addr), bindArgs (ksFn name qual params body scope .none kV doc pm an (.ref cda) ct cc) ⟨[a, b], []⟩ = pure [(sf, a), (pr, b)]
  par : ∃ ar : Arg, (params.posonlyargs ++ params.args).head? = some ar ∧ ar.arg = sf
  ne : sf ≠ pr
  body : ∃ p0 p1 p2 p3 p4 p5 p6 p7 p8 p9, (p2.endLine == p4.line) = true ∧ body = [.Expr (.Call (.Attribute (.Call (.Name "super" p0) [] [] p1) "__init__" p2) [.Name pr p3] [] p4) p5, .Assign [.Attribute (.Name sf p6) f p7] (.Name pr p8) p9]
  kind : scope.kind = .function
  co : scope.isCoroutine = false
  gen : scope.isGenerator = false
  nocell : ∀ x ∈ scope.names, x.2 ≠ .cell
  ks : scope.names.lookup ("super" : Str) = some .globalImplicit
  kc : scope.names.lookup ("__class__" : Str) = some .free
  k1 : scope.names.lookup sf = some .local
  k2 : scope.names.lookup pr = some .local
  top : (P.main.scope.names.lookup ("super" : Str)).isSome = false
  odd1 : (sf == ("__debug__" : Str)) = false
  odd2 : (pr == ("__debug__" : Str)) = false
/-- what is known of the class -/
structure ErrC (K : Frag) (C : Addr) (B newId initId : String) (bmB : List Value) : Prop where
  ini : excInitIn K C bmB newId = true
  ovr : excOver K C bmB = true
  hd : hasDictIn K C = true
  kp : keepIn K (.ref C) = true
  sa : findIn K (.ref C) "__setattr__" = some (some (.builtin "object.__setattr__"))
  exC : subIn K (.ref C) (.type "BaseException") = some true
  tyC : typeIn K (.ref C) = some (.type "type")
  sB : subIn K (.ref C) (.type B) = some true
  sub : mroIn K C (.ref C) = some true
/-- with an __init__ of its own -/
structure ErrI (K : Frag) (C : Addr) (initId : String) (f : Str) (fI : Addr) : Prop where
  tk : takerIn K C f = some none
  iC : findIn K (.ref C) "__init__" = some (some (.ref fI))
  tI : typeIn K (.ref fI) = some (.type "function")
  sup : ks_superIn K C C "__init__" = some (some (.builtin initId))
  cs : nsIn K cStatics "thirdparty.any" = some none
abbrev iniE (qual : Str) (names : List (Str × NameKind)) (mor : List (Str × Const)) (L fI cda cc : Addr) : PySem.Env := ksEnv qual ⟨.function, names, false, false, mor⟩ L fI (.ref cda) cc
theorem call1 {o : Expr} {name pr : Str} {apos pos p3 : Pos} {env : PySem.Env} (hline : (apos.endLine == pos.line) = true) : eval (.Call (.Attribute o name apos) [.Name pr p3] [] pos) env = (do
      let ov ← attributeBase o name env (eval o env)
      standAt apos.atName
      let (f, first) ← holding [ov] (getMethod ov name (do return (← importBound o env).getD true))
      callWith pos f first (backTo pos (starEach [.Name pr p3] env)) []) := by
  have hform : methodCallForm ([Expr.Name pr p3].length + ([] : List Keyword).length) (backTo pos (starEach [.Name pr p3] env)) (backToKw pos (keywordEach [] env)) = true := by rfl
  have hpos : methodCallPos true o env apos pos = pure pos := by unfold methodCallPos; simp [hline]
  rw [arm_eval_Call]
  unfold methodCall
  rw [hform]
  unfold calleeOf
  simp only [hpos, if_true]
  rfl
theorem dict1 {h : Heap} {dx : Addr} {f : Str} {hs : Int} {tk : Tok} {v : Value} {n : Nat} (e : h.get? dx = some (dictOf (putL f hs (.str f tk) v []) n)) : h.Ns1 dx (fun y => if y = f then some v else none) := by
  refine ⟨_, #[⟨hs, .str f tk, v⟩], n, e, rfl, ?_, ?_, fun y => ?_⟩
  · intro e he
    have : e = ⟨hs, .str f tk, v⟩ := by simpa using he
    exact ⟨f, tk, by rw [this]⟩
  · exact List.pairwise_singleton _ _
  · show Option.map (fun x : DictEntry => x.val) (Array.find? (fun e : DictEntry => e.key.isStr y) #[⟨hs, .str f tk, v⟩]) = if y = f then some v else none
    by_cases q : y = f
    · subst q
      rw [if_pos rfl]
      simp [Value.isStr]
    · rw [if_neg q]
      have q' : ¬ f = y := fun z => q z.symm
      simp [Value.isStr, q']
section
variable {P : Program} {w : World} {A : Around} {K : Frag} {C fI cda cc : Addr} {B newId initId : String} {bmB : List Value} {f qual sf pr : Str} {params : Arguments} {body : List Stmt} {scope : Scope} {mg mb : Str → Option Value} {R : Result → Shared → Prop}
theorem ini_run {hp : Heap} {s : Shared} {x t : Addr} {u : Value} (KF : KxsFacts B initId) (FB : ExcBaseFacts B newId initId bmB) (SF : StoreFacts B bmB "object.__setattr__" "object") (X₀ : K.In hp) (G : hp.Ns mainGlobals mg) (GB : hp.Ns builtinsNs mb)
    (hmb : mb "super" = bootBuiltins "super") (hsup : mg "super" = none) (T : ErrC K C B newId initId bmB) (TI : ErrI K C initId f fI) (D : IniD K P C f fI qual sf pr params body scope cda cc) (hroom : A.depth < recursionLimit) (hlim : hp.NoLimit)
    (hkeep : ∀ b o, hp.get? b = some o → s.heap.get? b = some o) (hx : s.heap.get? x = some (excObj C t none .none)) (hxn : hp.get? x = none) (hle : hp.objs.size ≤ s.heap.objs.size)
    (h : ∀ h' dx tk, (∀ b o, hp.get? b = some o → h'.get? b = some o) → hp.get? dx = none → x < dx → (∃ t', h'.get? x = some (excObj C t' (some dx) .none)) → h'.Ns1 dx (fun y => if y = f then some u else none) → R (.ok (.ret .none)) { s with heap := h', toks := tk }) :
    codeAny (model P w) A (.call (.ref fI) ⟨[.ref x, u], []⟩) R s := by
  obtain ⟨knd, names, isG, isC, mor⟩ := scope
  obtain rfl : knd = .function := D.kind
  obtain rfl : isC = false := D.co
  obtain rfl : isG = false := D.gen
  obtain ⟨oc, od, osl, name, kV, doc, pm, ct, an, lkf⟩ := D.obj
  have xs : K.In s.heap := X₀.keeps hkeep
  obtain ⟨p0, p1, p2, p3, p4, p5, p6, p7, p8, p9, hln, eb⟩ := D.body
  refine ks_codeAny_call_defAt (fd := ksFn name qual params body ⟨.function, names, false, false, mor⟩ .none kV doc pm an (.ref cda) ct cc) (body := body) (binds := [(sf, .ref x), (pr, u)]) hroom (xs _ _ lkf) rfl (hlim.keeps hkeep) (codeRec_of xs D.code) rfl ?_ D.nocell ?_ (fun h₁ hns hk₁ => ?_)
  · exact .of_eq (D.bd _ _ _ _ _ _ _ _)
  · intro y hy
    simp only [List.mem_cons, List.not_mem_nil, or_false] at hy
    rcases hy with e | e
    · rw [e]; exact D.k1
    · rw [e]; exact D.k2
  show PySem.wpAt (model P w) (A.deeper (iniE qual names mor s.heap.objs.size fI cda cc)) (.func body (iniE qual names mor s.heap.objs.size fI cda cc)) (execs body (iniE qual names mor s.heap.objs.size fI cda cc)) (fun f s' => R (.ok (.ret (match f with | .ret v => v | _ => .none))) s')
    (fun e s' => wpAny (model P w) (A.deeper (iniE qual names mor s.heap.objs.size fI cda cc)) (leaving (iniE qual names mor s.heap.objs.size fI cda cc) e) (fun _ s'' => R (.error e) s'') (fun e' s'' => R (.error e') s'') s')
    ⟨h₁, s.gens, s.drawn, s.toks + 2, s.os⟩
  have F1 : Fr hp s.heap.objs.size h₁ (fun y => [(sf, Value.ref x), (pr, u)].reverse.lookup y) := ⟨hns, fun b o e => hk₁ b o (hkeep b o e), hle⟩
  have N1 : News hp s.heap.objs.size h₁ [(x, excObj C t none .none)] := fun p hp' => by
    rcases List.mem_cons.mp hp' with e | e
    · subst e
      exact ⟨hk₁ _ _ hx, Nat.ne_of_lt (Heap.lt_size hx), hxn⟩
    · cases e
  have ms : ([(sf, Value.ref x), (pr, u)].reverse.lookup sf) = some (Value.ref x) := by
    have e : (sf == pr) = false := by simpa using D.ne
    simp [List.lookup, e]
  have mp : ([(sf, Value.ref x), (pr, u)].reverse.lookup pr) = some u := by simp [List.lookup]
  obtain ⟨ar, ear, es⟩ := D.par
  obtain ⟨ccl, cdd, vs, ccs, fl, tf, lkc, evs, efl⟩ := D.file
  obtain ⟨cl, cld, csl, lkl⟩ := D.cell
  have K1 : K.In h₁ := X₀.keeps F1.keep
  have hD : ∃ cd, clsIn K C = some cd := by
    obtain ⟨cd, e, _⟩ := any_some T.ovr
    exact ⟨cd, e⟩
  obtain ⟨cdD, hD⟩ := hD
  obtain ⟨oD, hD1, hD2⟩ : ∃ oD, h₁.get? C = some oD ∧ oD.data = .cls cdD := by
    unfold clsIn at hD
    split at hD
    · rename_i c d cd' sl ho
      cases hD
      exact ⟨_, K1 _ _ ho, rfl⟩
    · cases hD
  have I1 : InstAt h₁ x (excObj C t none .none) C none := ⟨(N1 _ List.mem_cons_self).1, rfl, rfl, trivial⟩
  rw [eb]
  refine ks_wpAt_execs_cons (ks_wpAt_Expr_any (ks_wpAt_MethodCall ?_ (call1 hln)))
  refine ks_wpAt_super_base (env := ksEnv qual ⟨.function, names, false, false, mor⟩ s.heap.objs.size fI (.ref cda) cc) D.ks D.kc rfl rfl (K1 _ _ lkf) rfl ear rfl (K1 _ _ lkc) rfl evs efl D.top ?_
  refine ks_loadName_global rfl D.ks (loadGlobal_builtin (env := ksEnv qual ⟨.function, names, false, false, mor⟩ s.heap.objs.size fI (.ref cda) cc) (G.keeps F1.keep) hsup (GB.keeps F1.keep) (hmb.trans (by first | rfl | kernel_rfl)) ⟨rfl, ?_⟩)
  refine wpAny_loadName_free rfl D.kc rfl ⟨_, K1 _ _ lkl, rfl⟩ ?_
  rw [es]
  refine wpAny_loadName_local rfl D.k1 F1.ns ms ?_
  refine ks_wpAny_isType_cls hD1 hD2 ⟨rfl, ?_⟩
  refine ks_wpAny_call_super hD1 hD2 I1.at_ I1.cls (fun c e => by cases e) (looks_mroIn K1 T.sub) (fun h2 e2 k2 => ?_)
  obtain ⟨F2, N2, l2⟩ := ks_newsPush (s := ⟨h₁, s.gens, s.drawn, s.toks + 2, s.os⟩) F1 N1 rfl e2 k2
  have N2 : News hp s.heap.objs.size h2 [(h₁.objs.size, ks_superObj C x C), (x, excObj C t none .none)] := N2
  have I2 : InstAt h2 x (excObj C t none .none) C none := ⟨(N2 _ (.tail _ (.head _))).1, rfl, rfl, trivial⟩
  refine kxs_method KF F2 X₀ N2 (List.mem_cons_self) I2 TI.cs TI.sup T.sB rfl (fun q h3 F3 N3 l3 => ?_)
  refine kxs_callWith1 (i := initId) (x := x) N3 List.mem_cons_self ?_ (by rfl) (by rfl)
  have N3 : News hp s.heap.objs.size h3 [(q, kxs_mw initId x), (h₁.objs.size, ks_superObj C x C), (x, excObj C t none .none)] := N3
  show wpAny _ _ (spliced ((false, eval (.Name pr p3) (iniE qual names mor s.heap.objs.size fI cda cc)) :: [])) _ _ _
  refine Calls.spliced_cons (wpAny_Name (wpAny_loadName_local rfl D.k2 F3.ns mp ?_) D.odd2)
  refine Calls.spliced_nil ⟨kxs_at N3 List.mem_cons_self, ?_⟩
  have nx1 : h₁.objs.size ≠ x := fun z => by
    have := Heap.lt_size (N1 (x, _) List.mem_cons_self).1
    rw [← z] at this
    exact absurd this (Nat.lt_irrefl _)
  have nx2 : q ≠ x := fun z => by
    have := l3 (x, _) (.tail _ (.head _))
    rw [← z] at this
    exact absurd this (Nat.lt_irrefl _)
  refine kxs_call F3 X₀ N3 FB T.ini List.mem_cons_self (t := t) (dv := none) (c2 := .none) (x := x) (C := C) (nw := fun o => [(q, kxs_mw initId x), (h₁.objs.size, ks_superObj C x C), (x, o)]) ?_ ?_ (fun t' h4 F4 N4 l4 => ?_)
  · exact .tail nx2 (.tail nx1 (.head fun _ z => nomatch z))
  · rw [sizeLine_eq]; show (1 : Nat) ≤ _; decide
  refine ks_wpAt_execs_cons (wpAt_of_wpAny ?_)
  refine plainObj_wpAny_Assign_Attribute (wpAny_Name (wpAny_loadName_local rfl D.k2 F4.ns mp ?_) D.odd2) rfl
  refine wpAny_Name (wpAny_loadName_local rfl D.k1 F4.ns ms ?_) D.odd1
  have N4 : News hp s.heap.objs.size h4 [(t', excTup [u]), (q, kxs_mw initId x), (h₁.objs.size, ks_superObj C x C), (x, excObj C t' none .none)] := N4
  refine set_exc0 SF F4 X₀ N4 (t := t') (c2 := .none) (x := x) (C := C) (nw := fun o => [(t', excTup [u]), (q, kxs_mw initId x), (h₁.objs.size, ks_superObj C x C), (x, o)]) (by simp) T.sa T.ovr TI.tk T.hd rfl ?_ ?_ (fun dx h5 F5 N5 l5 => ?_)
  · have nt : t' ≠ x := fun z => by
      have := l4 (x, _) (.tail _ (.tail _ (.head _)))
      rw [← z] at this
      exact absurd this (Nat.lt_irrefl _)
    exact .tail nt (.tail nx2 (.tail nx1 (.head fun _ z => nomatch z)))
  · show (1 : Nat) ≤ 1000; decide
  refine wpAt_of_wpAny (wpAny_execs_nil ?_)
  have N5 : News hp s.heap.objs.size h5 ((dx, dictOf (putL f (PyData.keyHash w.params f) (.str f _) u []) _) :: [(t', excTup [u]), (q, kxs_mw initId x), (h₁.objs.size, ks_superObj C x C), (x, excObj C t' (some dx) .none)]) := N5
  have nd : x < dx := l5 (x, excObj C t' none .none) (.tail _ (.tail _ (.tail _ (.head _))))
  exact h h5 dx _ F5.keep (N5 _ (.head _)).2.2 nd ⟨t', (N5 _ (.tail _ (.tail _ (.tail _ (.tail _ (.head _)))))).1⟩ (dict1 (N5 _ (.head _)).1)
end
end PL
end

section
set_option maxRecDepth 100000
set_option maxHeartbeats 4000000
/-! PlErr2: errors made. -/
namespace PL
open PySem PySem.W PySem.Spec PySem.Calls PyProof.Rows L2
variable {X : Cx} {C : Addr} {B newId initId : String} {bmB : List Value} {x f : Str} {fI : Addr} {e : Expr} {ta : TA} {p pos : Pos}
/-- C(e), with an __init__ that keeps e in the field f -/
def tMkI (C : Addr) (f : Str) (ta : TA) : L2.St → Hp → XK → Prop := fun σ H Q => ta σ H fun vs H1 => ∃ y, vs = [y] ∧ ∀ d, H1 d = none → Q (.ref C) (some d) (upd H1 d (.xd [(f, y)]))
/-- the new exception is put aside, its dict stays -/
theorem mk_fin {pins : List (Addr × Obj)} {σ : L2.St} {H1 : Hp} {Q : XK} {s1 : Shared} {h' : Heap} {a dx t : Addr} {tk : Nat} {y : V} {u : Value} (I1 : L2.Inv X pins σ H1 s1) (k : ∀ b o, s1.heap.get? b = some o → h'.get? b = some o) (na : s1.heap.get? a = none) (nd : s1.heap.get? dx = none) (hz : s1.heap.objs.size ≤ dx)
    (hda : dx ≠ a) (ha : h'.get? a = some (excObj C t (some dx) .none)) (hn : h'.Ns1 dx (fun z => if z = f then some u else none)) (ry : RelV y u) (T : ErrC X.K C B newId initId bmB) (hz2 : s1.heap.objs.size ≤ a) (q : Q (.ref C) (some dx) (upd H1 dx (.xd [(f, y)]))) :
    MkP X pins σ Q (.ref a) { s1 with heap := h', toks := tk } := by
  obtain ⟨G, g1, g2⟩ := restrict h' fun b => decide (b ≠ a)
  have gk : ∀ b, b ≠ a → G.get? b = h'.get? b := fun b hb => g1 b (decide_eq_true hb)
  have ge : G.get? a = none := g2 a (by simp)
  have kG : ∀ b o, s1.heap.get? b = some o → G.get? b = some o := fun b o z => by
    have hb : b ≠ a := fun r => by
      rw [r, na] at z
      cases z
    rw [gk b hb]
    exact k b o z
  have J : L2.Inv X pins σ (upd H1 dx (.xd [(f, y)])) { s1 with heap := G, toks := tk } := I1.laid kG hz ⟨_, hn.at fun o z => (gk dx hda).trans z, fun g => by
    by_cases r : g = f
    · subst r
      have e1 : ([(g, y)] : List (Str × V)).lookup g = some y := by simp [List.lookup]
      rw [e1, if_pos rfl]
      exact ry
    · have r' : (g == f) = false := by simpa using r
      have e1 : ([(f, y)] : List (Str × V)).lookup g = none := by simp [List.lookup, r']
      rw [e1, if_neg r]
      exact True.intro⟩
  refine ⟨a, _, _, _, _, .ref C, some dx, rfl, J, fun b o z => ?_, ge, ha, ⟨rfl, rfl⟩, rfl, rfl, ?_, rfl, I1.bare, raises_own T.exC T.tyC, q⟩
  · have hb : b ≠ a := fun r => by
      have z : G.get? b = some o := z
      rw [r, ge] at z
      cases z
    exact (gk b hb).symm.trans z
  · rw [upd_ne (Ne.symm hda)]
    exact I1.hok.fresh hz2
theorem pmk_ini {qual sf pr : Str} {params : Arguments} {body : List Stmt} {scope : Scope} {cda cc : Addr} {k : Nat} (KF : KxsFacts B initId) (FB : ExcBaseFacts B newId initId bmB) (SF : StoreFacts B bmB "object.__setattr__" "object") (T : ErrC X.K C B newId initId bmB) (TI : ErrI X.K C initId f fI)
    (D : IniD X.K X.prog C f fI qual sf pr params body scope cda cc) (hsup : X.mg "super" = none) (hr : Room k X.A) (hg : Gl X x) (hm : X.mg x = some (.ref C)) (ha : PA X [e] ta) (hst : starEach [e] X.env = (false, eval e X.env) :: starEach [] X.env) (hdb : (x == ("__debug__" : Str)) = false) :
    PMk X (.Call (.Name x p) [e] [] pos) (tMkI C f ta) := by
  intro pins s σ H Q I h
  refine wpAny_Call_Name_kw (ld_glob I hg hm ?_ hdb)
  refine callWith_K (h₀ := X.base) I.ok.mod.kin T.kp (thn (ha.run pos pins s σ H _ I h) fun us s1 ⟨vs, H1, I1, r1, y, ey, q⟩ => ⟨I1.kIn, ?_⟩) hst rfl
  subst ey
  cases r1 with
  | @cons _ u _ us ry r2 =>
    cases r2
    obtain ⟨nm, N, q1, bs, bm, hdct, sn, sub, ab, col, dd, k0, k1, k2, k3, k5, hC, hT⟩ := excInit_of I1.kIn T.ini
    obtain ⟨mb, gb, hb⟩ := I1.mod.blt
    obtain ⟨hp, g, dr, tk, os⟩ := s1
    have kk : ∀ b o, hp.get? b = some o → ((hp.push (kdv_tup [u])).push (HandSPX.excO C hp.objs.size)).get? b = some o := fun b o z => Heap.get?_push_of_some _ (Heap.get?_push_of_some _ z)
    have hget : ((hp.push (kdv_tup [u])).push (HandSPX.excO C hp.objs.size)).get? (hp.objs.size + 1) = some (HandSPX.excO C hp.objs.size) := by heap_get
    refine wpAny_call (HandSPX.call_own FB hT hC (looks_findIn I1.kIn TI.iC) (fun self => bind_fn I1.kIn self TI.tI) (by rw [sizeLine_eq]; show (1 : Nat) ≤ _; decide) ?_)
    refine ini_run (s := ⟨(hp.push (kdv_tup [u])).push (HandSPX.excO C hp.objs.size), g, dr, tk, os⟩) (x := hp.objs.size + 1) (t := hp.objs.size) KF FB SF I1.kIn (I1.mod.glob.keeps I1.bk) (gb.keeps I1.bk) (hb "super" (by decide)) hsup T TI D ?_ I1.nolimit kk hget (Heap.get?_none_of_le (Nat.le_add_right _ _)) (by show hp.objs.size ≤ ((hp.push (kdv_tup [u])).push (HandSPX.excO C hp.objs.size)).objs.size; rw [Heap.size_push, Heap.size_push]; omega)
      (fun h' dx tk' hk hd hne hx hn => ?_)
    · rw [make_depth]
      have := hr.dp
      omega
    · obtain ⟨t', hx⟩ := hx
      have hz : hp.objs.size ≤ dx := Nat.le_trans (Nat.le_succ _) (Nat.le_of_lt hne)
      exact ⟨rfl, mk_fin (s1 := ⟨hp, g, dr, tk, os⟩) I1 hk (Heap.get?_none_of_le (Nat.le_add_right _ _)) hd hz (Nat.ne_of_gt hne) hx hn ry T (Nat.le_add_right _ _) (q dx (I1.hok.fresh hz))⟩
/-- C(), without an __init__ of its own -/
theorem pmk_no {k : Nat} (FB : ExcBaseFacts B newId initId bmB) (T : ErrC X.K C B newId initId bmB) (hi : findIn X.K (.ref C) "__init__" = some (some (.builtin initId))) (hg : Gl X x) (hm : X.mg x = some (.ref C)) (hdb : (x == ("__debug__" : Str)) = false) :
    PMk X (.Call (.Name x p) [] [] pos) (fun _ H Q => Q (.ref C) none H) := by
  intro pins s σ H Q I h
  obtain ⟨nm, N, q1, bs, bm, hdct, sn, sub, ab, col, dd, k0, k1, k2, k3, k5, hC, hT⟩ := excInit_of I.kIn T.ini
  refine wpAny_Call_Name_kw (ld_glob I hg hm ?_ hdb)
  obtain ⟨hp, g, dr, tk, os⟩ := s
  refine callWith_K0 I.kIn T.kp (call_B FB hT hC (looks_findIn I.kIn hi) (by rw [sizeLine_eq]; show (0 : Nat) ≤ _; decide) fun h' hk ha ht => ?_)
  refine ⟨hp.objs.size + 1, _, _, ⟨hp, g, dr, tk, os⟩, H, .ref C, none, rfl, I, hk, Heap.get?_none_of_le (Nat.le_add_right _ _), ha, ⟨rfl, rfl⟩, rfl, rfl, I.hok.fresh (Nat.le_add_right _ _), rfl, I.bare, raises_own T.exC T.tyC, h⟩
end PL
end

section
set_option maxRecDepth 100000
set_option maxHeartbeats 4000000
/-! PlErr3: try with several clauses, each with or without a name. -/
namespace PL
open PySem PySem.Spec PyProof.Rows L2
abbrev SuiteT : Type := Addr → Value → Option Addr → TS
structure ClauseT where
  c : Value
  slot : Option Nat
  ts : SuiteT
def offS (i : Nat) (D : Ends) : Ends := { nx := fun σ H => D.nx (σ.set i none) H, rt := D.rt, bk := fun σ H => D.bk (σ.set i none) H, ct := fun σ H => D.ct (σ.set i none) H }
/-- a suite with its name bound -/
def inSuite (l : ClauseT) (a : Addr) (cls : Value) (d : Option Addr) (D : Ends) (σ : L2.St) (H : Hp) : Prop := match l.slot with
  | none => l.ts a cls d D σ H
  | some i => l.ts a cls d (offS i D) (σ.set i (some (.ref a))) H
def wHs (K : PySem.W.Frag) (Wout : WX) (D : Ends) : List ClauseT → WX
  | [] => Wout
  | l :: r => fun cls d σ H => ∃ b, PySem.W.exmOne K cls l.c = some b ∧ (b = true → ∀ a, H a = none → inSuite l a cls d D σ H) ∧ (b = false → wHs K Wout D r cls d σ H)
def slotName (X : Cx) : Option Nat → Option Str → Prop
  | none, none => True
  | some i, some n => X.N[i]? = some n ∧ X.env.kindOf n = some .local
  | _, _ => False
inductive HsOk (X : Cx) : List ExceptHandler → List ClauseT → Prop
  | nil : HsOk X [] []
  | cons {x : Str} {l : ClauseT} {b : Stmt} {bs : List Stmt} {p1 p2 : Pos} {nm : Option Str} {hds : List ExceptHandler} {ls : List ClauseT} (hc : L2.Names X x l.c) (hn : slotName X l.slot nm)
      (hb : ∀ (a : Addr) (oe : Obj) (cls : Value) (d : Option Addr) (pn : List (Addr × Obj)), Zc cls d oe → (∃ vs, oe.data = .fields vs) → PSs (X.suite a ((a, oe) :: pn)) (b :: bs) (l.ts a cls d)) (r : HsOk X hds ls) :
      HsOk X (.ExceptHandler (some (.Name x p1)) nm (b :: bs) p2 :: hds) (l :: ls)
section
variable {X : Cx} {body : List Stmt} {h0 : ExceptHandler} {hds : List ExceptHandler} {ls : List ClauseT} {pos : Pos} {tb : WX → TS} {Wout : WX}
theorem ps_try_hs (e1 : X.stack = X.env :: X.outer) (e2 : X.env.frame = some X.env.locals) (nd : X.N.Nodup) (tk : L2.Takes X Wout)
    (hb : ∀ (W : WX) (pn : List (Addr × Obj)) (xe : Value → Shared → Prop), L2.Takes (X.tr pn xe) W → PassesOwn (model X.prog X.w) X.A X.env xe → PSs (X.tr pn xe) body (tb W))
    (hh : HsOk X (h0 :: hds) ls) : PS X (.Try body (h0 :: hds) [] [] pos) (fun D σ H => tb (wHs X.K Wout D ls) D σ H) := by
  refine ⟨fun pins s σ H D I hw => wpAny_Try_except ?_⟩
  have okX := I.ok
  have frm : X.A.frames = some (X.env :: X.outer) := okX.frames.trans (congrArg some e1)
  let K1 : Value → Shared → Prop := fun u s' => wpAny (model X.prog X.w) X.A (noteFrame u X.env) (fun _ s2 => wpAny (model X.prog X.w) X.A (setFlight u none) (fun _ s3 => wpAny (model X.prog X.w) X.A (handleBy u X.env (h0 :: hds)) (SP X pins D) X.xe s3) X.xe s2) X.xe s'
  have catch_ : L2.Takes (X.tr (X.pn ++ pins) K1) (wHs X.K Wout D ls) := by
    intro u s' xx
    obtain ⟨a, B, sI, pins', σ', H', cls, d, rfl, J', nb, up, sky, na, os, ag, w⟩ := xx
    have J : L2.Inv X pins σ' H' sI := J'.ofTry okX
    have sky2 : Sky B (X.env :: X.outer) a (Zc cls d) X.env.locals s'.heap := e1 ▸ sky
    refine (?_ : wpAny (model X.prog X.w) X.A (noteFrame (.ref a) X.env) _ _ _)
    refine Sky.land Zc.steady frm e2 sky2 fun g3 fly u3 => ?_
    have J3 : L2.Inv X pins σ' H' { s' with heap := g3 } := J.landed nb fly.1 (up.trans u3) os ag
    obtain ⟨o3, v3, q3, z3, d3⟩ := fly.there
    have out : a ∉ frs (X.env :: X.outer) := fun hm => by
      obtain ⟨_, o', r1, r2⟩ := fly.2.2.1.mem hm
      rw [q3] at r1
      cases r1
      exact r2 _ d3
    have aL : a ≠ X.env.locals := fun z => out (List.mem_filterMap.mpr ⟨X.env, List.mem_cons_self, e2.trans (congrArg some z.symm)⟩)
    have aF : a ∉ X.fs := fun hm => by
      obtain ⟨en, he, q⟩ := List.mem_filterMap.mp hm
      exact out (List.mem_filterMap.mpr ⟨en, List.mem_cons_of_mem _ he, q⟩)
    have S3 := J3.suite q3 d3 na aL aF
    have go : ∀ {hs' : List ExceptHandler} {l' : List ClauseT}, HsOk X hs' l' → wHs X.K Wout D l' cls d σ' H' → wpAny (model X.prog X.w) X.A (handleBy (.ref a) X.env hs') (SP X pins D) X.xe { s' with heap := g3 } := by
      intro hs' l' hk
      induction hk with
      | nil =>
        intro w
        refine wpAny_handleBy_nil ?_
        obtain ⟨_, _, _, oe, vs, T, oT, tsv, he, hz, hd, h1, _⟩ := id fly
        unfold PySem.passOn
        refine wpAny_bind (wpAny_field he hd h1 ?_)
        rw [if_neg (by simp)]
        have fin : wpAny (model X.prog X.w) X.A (setFlight (.ref a) X.env.frame) (fun _ s4 => wpAny (model X.prog X.w) X.A (throw (.ref a) : Sem PySem.Flow) (SP X pins D) X.xe s4) X.xe { s' with heap := g3 } := by
          rw [e2]
          refine HandSPX.setFlight_upZ fly fun g4 hh4 u4 => wpAny_throw (tk _ _ ?_)
          exact ⟨a, B, sI, pins, σ', H', cls, d, rfl, J, nb, (up.trans u3).trans u4, .inr (.inr (e1.symm ▸ hh4)), na, os, ag, w⟩
        first
          | exact wpAny_bind (wpAny_pure (wpAny_bind fin))
          | exact wpAny_bind fin
      | @cons x l b bs p1 p2 nm hds2 ls2 hc hn hsu r ih =>
        intro w
        obtain ⟨t, m1, yes, no⟩ := w
        have LT : PySem.W.Looks (model X.prog X.w) g3 (typeOf (.ref a)) cls := fun A' Q' E' s4 k q => wpAny_typeOf_ref (k _ _ q3) (by rw [z3.1]; exact q)
        have LM := PySem.W.exm_one (M := model X.prog X.w) J3.kIn LT m1
        have test : ∀ {Q : Value → Shared → Prop} {E : Value → Shared → Prop}, Q l.c { s' with heap := g3 } → wpAny (model X.prog X.w) (X.A.mark (some (.ref a))) (eval (.Name x p1) X.env) Q E { s' with heap := g3 } := fun {Q E} q => by
          obtain ⟨hg, hdbg, hm | ⟨hm, hv, hnn⟩⟩ := hc
          · exact ld_glob (X := X.suite a ((a, o3) :: (X.pn ++ pins))) S3 hg hm q hdbg
          · exact ld_blt (X := X.suite a ((a, o3) :: (X.pn ++ pins))) S3 hg hm hv q hnn hdbg
        refine wpAny_handleBy_cons (codeAny_handlers_test ?_) (by intro q; cases q)
        refine test (LM.here ?_)
        cases t with
        | false =>
          refine (?_ : wpAny _ X.A (handleBy (.ref a) X.env hds2) _ _ _)
          exact ih (no rfl)
        | true =>
          have go4 : ∀ {g4 : Heap}, HandSPX.FlyingZ B (X.env :: X.outer) a (Zc cls d) g4 → g3.UpToSlots g4 → ∃ o4, (∃ vs, o4.data = .fields vs) ∧ Zc cls d o4 ∧ L2.Inv (X.suite a ((a, o4) :: (X.pn ++ pins))) [] σ' H' { s' with heap := g4 } := fun {g4} fl4 u4 => by
            have J4 : L2.Inv X pins σ' H' { s' with heap := g4 } := J.landed nb fl4.1 ((up.trans u3).trans u4) os ag
            obtain ⟨o4, v4, q4, z4, d4⟩ := fl4.there
            exact ⟨o4, ⟨_, d4⟩, z4, J4.suite q4 d4 na aL aF⟩
          have w2 := yes rfl a na
          cases hl : l.slot with
          | none =>
            cases nm with
            | some n =>
              rw [hl] at hn
              exact hn.elim
            | none =>
              have w2 : l.ts a cls d D σ' H' := by
                unfold inSuite at w2
                rw [hl] at w2
                exact w2
              refine codeAny_handlers_suite ?_
              refine HandSPX.lands_againZ fly fun g4 fl4 u4 => ?_
              obtain ⟨o4, d4, z4, S4⟩ := go4 fl4 u4
              refine wpAny_mono ((hsu a o4 cls d (X.pn ++ pins) z4 d4).run [] _ _ H' _ S4 w2) (fun f s6 hsp => ?_) fun _ _ z => z.elim
              cases f with
              | next => obtain ⟨σ6, H6, S6, q6⟩ := hsp; exact ⟨_, _, S6.unsuite okX, q6⟩
              | brk => obtain ⟨σ6, H6, S6, q6⟩ := hsp; exact ⟨_, _, S6.unsuite okX, q6⟩
              | cont => obtain ⟨σ6, H6, S6, q6⟩ := hsp; exact ⟨_, _, S6.unsuite okX, q6⟩
              | ret u => obtain ⟨v6, σ6, H6, S6, r6, q6⟩ := hsp; exact ⟨_, _, _, S6.unsuite okX, r6, q6⟩
          | some i =>
            cases nm with
            | none =>
              rw [hl] at hn
              exact hn.elim
            | some n =>
              rw [hl] at hn
              obtain ⟨n1, n2⟩ := hn
              have w2 : l.ts a cls d (offS i D) (σ'.set i (some (.ref a))) H' := by
                unfold inSuite at w2
                rw [hl] at w2
                exact w2
              refine codeAny_handlers_suite_as ?_
              refine HandSPX.lands_againZ fly fun g4 fl4 u4 => ?_
              obtain ⟨o4, d4, z4, S4⟩ := go4 fl4 u4
              refine store_ok (X := X.suite a ((a, o4) :: (X.pn ++ pins))) (v := .ref a) S4 nd n1 (.inl n2) rfl (fun s5 S5 => ?_) (.inr n2)
              refine wpAny_mono ((hsu a o4 cls d (X.pn ++ pins) z4 d4).run [] s5 _ H' _ S5 w2) (fun f s6 hsp => ?_) fun _ _ z => z.elim
              have fin : ∀ {σ6 : L2.St} {H6 : Hp} {Q : Shared → Prop}, L2.Inv (X.suite a ((a, o4) :: (X.pn ++ pins))) [] σ6 H6 s6 → (∀ s7, L2.Inv X pins (σ6.set i none) H6 s7 → Q s7) →
                  wpAny (model X.prog X.w) X.A (do bindName X.env n .none; unbindBehindTheSuite X.env n p2) (fun _ s7 => Q s7) X.xe s6 := fun {σ6 H6 Q} S6 hq => gone_ok (S6.unsuite okX) nd n1 n2 hq
              cases f with
              | next => obtain ⟨σ6, H6, S6, q6⟩ := hsp; exact fin S6 fun s7 J7 => ⟨_, _, J7, q6⟩
              | brk => obtain ⟨σ6, H6, S6, q6⟩ := hsp; exact fin S6 fun s7 J7 => ⟨_, _, J7, q6⟩
              | cont => obtain ⟨σ6, H6, S6, q6⟩ := hsp; exact fin S6 fun s7 J7 => ⟨_, _, J7, q6⟩
              | ret u => obtain ⟨v6, σ6, H6, S6, r6, q6⟩ := hsp; exact fin S6 fun s7 J7 => ⟨_, _, _, J7, r6, q6⟩
    exact go hh w
  refine wpAny_mono ((hb _ (X.pn ++ pins) K1 catch_ PassesOwn.looking).run [] s σ H D (I.toTry _) hw) (fun f s1 hsp => ?_) fun _ _ z => z
  cases f with
  | next => obtain ⟨σ', H', J', q⟩ := hsp; exact wpAny_execs_nil ⟨σ', H', J'.ofTry okX, q⟩
  | brk => obtain ⟨σ', H', J', q⟩ := hsp; exact ⟨σ', H', J'.ofTry okX, q⟩
  | cont => obtain ⟨σ', H', J', q⟩ := hsp; exact ⟨σ', H', J'.ofTry okX, q⟩
  | ret u => obtain ⟨v, σ', H', J', r, q⟩ := hsp; exact ⟨v, σ', H', J'.ofTry okX, r, q⟩
end
end PL
end

section
set_option maxRecDepth 100000
set_option maxHeartbeats 4000000
/-! PlErr4: isinstance of a caught error, with its dict or without. -/
namespace PL
open PySem PySem.W PySem.Spec PySem.Calls PyProof.Rows L2
section
variable {prog : Program} {w : World} {A : Around} {E : Value → Shared → Prop} {s : Shared} {K : Frag} {x D : Addr} {ox : Obj} {od : Option Obj}
theorem find_data {C : Addr} {name : Str} {a g : Value} (hc : (clsIn K C).isSome = true) (ha : findIn K (.ref C) name = some (some a)) (hg : specialIn K a "__get__" = some (some g)) (ht : takesIn K a = some true) : findObj K C od name = some (.bind g a) := by
  cases e : clsIn K C with
  | none => rw [e] at hc; cases hc
  | some cd =>
    unfold findObj
    rw [e, Option.bind_some, ha, Option.bind_some]
    simp [hg, ht]
theorem cls_of_dict (T : ExcC K D) : (clsIn K D).isSome = true := by
  obtain ⟨cd, e, _⟩ := any_some T.hd
  rw [e]
  rfl
theorem class_of {Q : Option Value → Shared → Prop} (T : ExcC K D) (X : K.In s.heap) (I : InstAt s.heap x ox D od) (h : Q (some (.ref D)) { s with toks := s.toks + 1 }) : wpAny (model prog w) A (getAttr? (.ref x) "__class__") Q E s := by
  have fnd : findObj K D od "__class__" = some (.bind (.builtin "getset_descriptor.__get__") (.builtin "object.__class__")) := find_data (cls_of_dict T) T.ha T.hn T.ht
  obtain ⟨hp, g, d, t, os⟩ := s
  have T0 := I.type (M := model prog w)
  have T1 := looks_findIn (M := model prog w) X T.hg
  have T2 := looks_findIn (M := model prog w) X T.hk
  have T3 := looks_find (M := model prog w) X I fnd
  have isB : Looks (model prog w) hp (isInstance (.ref x) (.type "BaseException")) true := T0.andThen (looks_subIn X T.hs)
  have n1 : (Value.builtin "BaseException.__getattribute__" == Value.builtin "object.__getattribute__") = false := by decide +kernel
  have n2 : (onTheHeap (Value.ref D) && Value.builtin "BaseException.__getattribute__" == Value.builtin "object.__getattribute__") = false := by rw [n1]; rfl
  unfold getAttr? getAttrBy? getAttrBy
  refine wpAny_bind (wpAny_mkText ?_)
  refine wpAny_bind (wpAny_attempt (wpAny_holding (wpAny_bind (T0.at ?_))))
  refine wpAny_bind (T1.at ?_)
  refine (?_ : wpAny _ _ (if (onTheHeap (Value.ref D) && Value.builtin "BaseException.__getattribute__" == Value.builtin "object.__getattribute__") = true then _ else _) _ _ _)
  rw [n2, if_neg (by decide)]
  unfold getAttrByItsOwn hookBefore
  refine wpAny_bind ?_
  rw [if_pos (show onTheHeap (Value.ref D) = true by rfl)]
  refine T2.at (wpAny_bind (wpAny_attempt (wpAny_holding ?_)))
  unfold callGetattribute
  have n3 : (false && onTheHeap (Value.builtin "BaseException.__getattribute__")) = false := rfl
  rw [n3, if_neg (by decide)]
  unfold boundAndCalled
  rw [PySem.F.excAttr_ValueError.ga.bind (.ref x)]
  refine wpAny_bind (wpAny_pure ?_)
  refine (?_ : wpAny _ _ (call (.builtin "BaseException.__getattribute__") [.ref x, .str "__class__" t]) _ _ _)
  refine wpAny_call (codeAny_call_builtin PySem.F.excAttr_ValueError.ga.plain PySem.F.entry_bexc_ga ?_)
  refine @check_slot (model prog w) _ _ ⟨hp, g, d, t + 1, os⟩ "BaseException.__getattribute__" "BaseException" "__getattribute__" (.ref x) [.str "__class__" t] [] _ (by decide +kernel) (by decide +kernel) isB (PySem.F.args_bexc_ga _ _) ?_
  unfold Builtin.«object.__getattribute__»
  refine wpAny_bind (wpAny_of_eq (a := ((Value.ref x : Value), [Value.str "__class__" t])) (by first | rfl | (simp only [slotArgs]; rfl)) (wpAny_bind (wpAny_pure ?_)))
  refine wpAny_bind (T0.at (wpAny_bind (T3.at ?_)))
  refine (?_ : wpAny _ _ (holding [Value.builtin "object.__class__"] (call (.builtin "getset_descriptor.__get__") [.builtin "object.__class__", .ref x, .ref D]) >>= ret) _ _ _)
  refine wpAny_bind (wpAny_holding (wpAny_call (class_get (s := ⟨hp, g, d, t + 1, os⟩) (ox := ox) (od := od) X I T.hm (wpAny_pure ?_))))
  refine (?_ : wpAny _ _ (handedOut (.ref D)) _ _ _)
  rw [handedOut_of (v := .ref D) rfl]
  first
    | exact wpAny_pure (wpAny_pure h)
    | exact wpAny_pure h
    | exact wpAny_pure (wpAny_bind (wpAny_pure (wpAny_pure h)))
theorem kit_err (T : ExcC K D) : KitX K (.ref x) (.ref D) (fun h => InstAt h x ox D od) where
  ty := fun _ _ _ I => I.type
  it := fun _ _ X _ => by
    obtain ⟨cd, e, _⟩ := any_some T.hd
    unfold clsIn at e
    split at e
    · rename_i c1 d1 cd1 sl1 ho
      intro A' Q' E' s' k q
      unfold isType loadHead
      exact wpAny_bind (wpAny_loadPart (k _ _ (X _ _ ho)) (wpAny_pure q))
    · cases e
  ne := fun h tp dd its n sl X htp => by
    obtain ⟨cd, e, _⟩ := any_some T.hd
    refine Bool.eq_false_iff.mpr fun q => ?_
    have e2 : D = tp := Value.ref.inj (beq_iff_eq.mp q)
    subst e2
    unfold clsIn at e
    split at e
    · rename_i c1 d1 cd1 sl1 ho
      have z := (X _ _ ho).symm.trans htp
      cases z
    · cases e
  ca := fun X I k => class_of T X I k
end
/-- isinstance(e, c) in a suite -/
def rIs (K : Frag) (D a : Addr) (cls : Value) (d : Option Addr) : List V → Hp → VK → Prop := fun xs H Q => cls = .ref D ∧ ∃ (c : V) (cv : Value) (b : Bool), xs = [.ref a, c] ∧ (∀ u, RelV c u → u = cv) ∧ kitOne K (.ref D) cv = some b ∧ (∀ dd, d = some dd → ∃ fs, H dd = some (.xd fs)) ∧ Q (.bl b) H
theorem call_is {X : Cx} {a D : Addr} {cls : Value} {d : Option Addr} {oe : Obj} {pn : List (Addr × Obj)} (T : ExcC X.K D) (hz : Zc cls d oe) (hf : ∃ vs, oe.data = .fields vs) : CallR (X.suite a ((a, oe) :: pn)) (.builtin "isinstance") (rIs X.K D a cls d) := by
  intro pins s σ H xs us Q I r h
  obtain ⟨ec0, c, cv, b, rfl, hcv, e, hd, q⟩ := h
  subst ec0
  cases r with
  | cons rx rr =>
    cases rr with
    | cons rt rr =>
      cases rr
      cases rx
      have ec := hcv _ rt
      subst ec
      obtain ⟨hget, _⟩ := I.pin (a, oe) (List.mem_append.mpr (.inl List.mem_cons_self))
      obtain ⟨vs, hv⟩ := hf
      have J : ∃ od, InstAt s.heap a oe D od := by
        obtain ⟨oc, od, oda, osl⟩ := oe
        obtain ⟨h1, h2⟩ := hz
        dsimp only at h1 h2 hv
        subst h1 h2 hv
        cases od with
        | none => exact ⟨none, hget, rfl, rfl, trivial⟩
        | some dd =>
          obtain ⟨fs, hx⟩ := hd dd rfl
          have ho : ObjOk X.prog X.w H s.heap dd (.xd fs) := I.hok dd _ hx
          obtain ⟨mA, hns, _⟩ := ho
          obtain ⟨o, es, ep, g1, g2, _⟩ := hns
          exact ⟨some o, hget, rfl, rfl, g1⟩
      obtain ⟨od, J⟩ := J
      exact kia_one (kit_err T) I.kIn J e (fun z => nomatch z) fun tk => ⟨.bl b, H, I.kept (t' := tk) fun _ _ z => z, rfl, q⟩
end PL
end

section
set_option maxRecDepth 100000
/-! PlErr5: what is known of the errors' classes; the suites' readings. -/
namespace PL
open PySem PySem.Spec PyProof.Rows L2
/-- what is known of a class of errors -/
structure ErrOk (K : PySem.W.Frag) (P : Program) (mg : Str → Option Value) (ca : Addr) (cd : ClsDef) : Prop where
  mak : ∃ newId initId bmB, PySem.W.KxsFacts cd.base initId ∧ ExcBaseFacts cd.base newId initId bmB ∧ StoreFacts cd.base bmB "object.__setattr__" "object" ∧ ErrC K ca cd.base newId initId bmB ∧
    match cd.fld with
    | none => PySem.W.findIn K (.ref ca) "__init__" = some (some (.builtin initId))
    | some f => ∃ fI qual sf pr params body scope cda cc, ErrI K ca initId f fI ∧ IniD K P ca f fI qual sf pr params body scope cda cc ∧ mg "super" = none ∧ PySem.W.findIn K (.ref ca) f = some none
  xf : XfC K ca
  xc : ExcC K ca
  is1 : PySem.W.kitOne K (.ref ca) (.type "ValueError") = some (cd.base == "ValueError")
  is2 : PySem.W.kitOne K (.ref ca) (.type "LookupError") = some (cd.base == "LookupError")
/-! ### the parts of a suite -/
def tPt (K : PySem.W.Frag) (a : Addr) (cls : Value) (d : Option Addr) (ca : Addr) (i : Nat) : HP → TE
  | .str x => tC (.str x)
  | .fld f => tXf a cls d ca f (tVar i)
  | .isi b => tCB (rIs K ca a cls d) (tCons (tVar i) (tCons (tC (.ty b)) tNil))
def tPts (K : PySem.W.Frag) (a : Addr) (cls : Value) (d : Option Addr) (ca : Addr) (i : Nat) : List HP → TA
  | [] => tNil
  | h :: hs => tCons (tPt K a cls d ca i h) (tPts K a cls d ca i hs)
def isBase (b : String) : Bool := decide (b = "ValueError") || decide (b = "LookupError")
/-- a part's text: nm the error's name, g: a name is global -/
def ckPt (nm : Option Str) (g : Str → Bool) (fld : Option Str) : HP → Expr → Bool
  | .str x, .Constant (.str y) _ _ => decide (x = y) && decide (x.length ≤ maxLen)
  | .fld f, .Attribute o f' _ => (match o with
    | .Name n _ => decide (nm = some n) && decide (f = f') && decide (fld = some f)
    | _ => false)
  | .isi b, .Call f xs ks _ => (match f, xs, ks with
    | .Name y _, [.Name n _, .Name z _], [] => decide (y = ("isinstance" : Str)) && decide (nm = some n) && decide (z = Str.ofString b) && isBase b && g y && g z
    | _, _, _ => false)
  | _, _ => false
def ckPts (nm : Option Str) (g : Str → Bool) (fld : Option Str) : List HP → List Expr → Bool
  | [], [] => true
  | h :: hs, e :: es => ckPt nm g fld h e && ckPts nm g fld hs es
  | _, _ => false
theorem base_boot {b : String} (h : isBase b = true) : bootBuiltins (Str.ofString b) = some (.type b) ∧ (Str.ofString b ≠ "__name__") ∧ (Str.ofString b == ("__debug__" : Str)) = false := by
  unfold isBase at h
  rw [Bool.or_eq_true, decide_eq_true_eq, decide_eq_true_eq] at h
  rcases h with e | e <;> subst e
  · exact ⟨PyProof.Rows.Boot.«ValueError», by decide, by decide⟩
  · exact ⟨PyProof.Rows.Boot.«LookupError», by decide, by decide⟩
variable {X : Cx} {a ca : Addr} {cls : Value} {d : Option Addr} {oe : Obj} {pn : List (Addr × Obj)} {cd : ClsDef} {nm : Option Str} {i : Nat} {g : Str → Bool}
/-- the name that the suite reads -/
def nmOk (X : Cx) (i : Nat) (nm : Option Str) : Prop := ∀ n, nm = some n → X.N[i]? = some n ∧ X.env.scope.names.lookup n = some .local ∧ (n == ("__debug__" : Str)) = false ∧ (n == ("__classdict__" : Str)) = false
theorem pe_pt (T : ErrOk X.K X.prog X.mg ca cd) (hz : Zc cls d oe) (hf : ∃ vs, oe.data = .fields vs) (hn : nmOk X i nm) (hg : ∀ y, g y = true → Gl X y) (hb : ∀ b, isBase b = true → X.mg (Str.ofString b) = none) (hi : X.mg "isinstance" = none) :
    ∀ {h : HP} {e : Expr}, ckPt nm g cd.fld h e = true → PE (X.suite a ((a, oe) :: pn)) e (tPt X.K a cls d ca i h) := by
  intro h e c
  have var : ∀ {n : Str} {p : Pos}, nm = some n → PE (X.suite a ((a, oe) :: pn)) (.Name n p) (tVar i) := fun {n p} q => by
    obtain ⟨h1, h2, h3, h4⟩ := hn n q
    exact pe_var (X := X.suite a ((a, oe) :: pn)) h1 (.inl h2) h3 h4
  cases h with
  | str x =>
    cases e with
    | Constant k j p =>
      cases k with
      | str y =>
        have c : (decide (x = y) && decide (x.length ≤ maxLen)) = true := c
        rw [Bool.and_eq_true, decide_eq_true_eq] at c
        obtain ⟨c, _⟩ := c
        subst c
        exact pe_str
      | _ => cases c
    | _ => cases c
  | fld f =>
    cases e with
    | Attribute o f' p =>
      cases o with
      | Name n p2 =>
        have c : (decide (nm = some n) && decide (f = f') && decide (cd.fld = some f)) = true := c
        simp only [Bool.and_eq_true, decide_eq_true_eq] at c
        obtain ⟨⟨c1, c2⟩, c3⟩ := c
        subst c2
        obtain ⟨newId, initId, bmB, _, _, _, _, m⟩ := T.mak
        rw [c3] at m
        obtain ⟨_, _, _, _, _, _, _, _, _, _, _, _, no⟩ := m
        exact pe_xf T.xf no hz hf (var c1)
      | _ => cases c
    | _ => cases c
  | isi b =>
    cases e with
    | Call fe xs ks p =>
      cases fe with
      | Name y p1 =>
        match xs, ks, c with
        | [.Name n p3, .Name z p4], [], c =>
          have c : (decide (y = ("isinstance" : Str)) && decide (nm = some n) && decide (z = Str.ofString b) && isBase b && g y && g z) = true := c
          simp only [Bool.and_eq_true, decide_eq_true_eq] at c
          obtain ⟨⟨⟨⟨⟨c1, c2⟩, c3⟩, c4⟩, c5⟩, c6⟩ := c
          subst c1 c3
          obtain ⟨b1, b2, b3⟩ := base_boot c4
          have ty : PE (X.suite a ((a, oe) :: pn)) (.Name (Str.ofString b) p4) (tC (.ty b)) := pe_bltn (X := X.suite a ((a, oe) :: pn)) (hg _ c6) (hb b c4) b1 rfl b2 b3
          exact pe_callB (X := X.suite a ((a, oe) :: pn)) (call_is T.xc hz hf) (hg _ c5) hi PyProof.Rows.Boot.«isinstance» (pa_cons (var c2) (pa_cons ty pa_nil))
      | _ =>
        match xs, ks, c with
        | xs, ks, c => cases c
    | _ => cases c
theorem pt_star {h : HP} {e : Expr} {fld : Option Str} {env : PySem.Env} {es : List Expr} (c : ckPt nm g fld h e = true) : starEach (e :: es) env = (false, eval e env) :: starEach es env := by
  cases e with
  | Starred x p => cases h <;> cases c
  | _ => rfl
theorem pa_pts (T : ErrOk X.K X.prog X.mg ca cd) (hz : Zc cls d oe) (hf : ∃ vs, oe.data = .fields vs) (hn : nmOk X i nm) (hg : ∀ y, g y = true → Gl X y) (hb : ∀ b, isBase b = true → X.mg (Str.ofString b) = none) (hi : X.mg "isinstance" = none) :
    ∀ {hs : List HP} {es : List Expr}, ckPts nm g cd.fld hs es = true → PA (X.suite a ((a, oe) :: pn)) es (tPts X.K a cls d ca i hs)
  | [], [], _ => pa_nil
  | h :: hs, e :: es, c => by
    have c : (ckPt nm g cd.fld h e && ckPts nm g cd.fld hs es) = true := c
    rw [Bool.and_eq_true] at c
    exact pa_cons (pe_pt T hz hf hn hg hb hi c.1) (pa_pts T hz hf hn hg hb hi c.2) (pt_star c.1)
  | [], _ :: _, c => by cases c
  | _ :: _, [], c => by cases c
end PL
end

section
set_option maxRecDepth 100000
/-! PlOps: each op by its rule. -/
namespace PL
open PySem PySem.Spec PyProof.Rows L2
variable {K : PySem.W.Frag} {F F' H H' : Hp}

/-! ### what an operand is -/
theorem View.int {v : V} {i : Int} (h : View K F H v (.int i)) : v = .int i := by
  rcases h with h | ⟨_, _, _, _, e, _⟩
  · cases h; rfl
  · cases e
theorem View.bool {v : V} {i : Bool} (h : View K F H v (.bool i)) : v = .bl i := by
  rcases h with h | ⟨_, _, _, _, e, _⟩
  · cases h; rfl
  · cases e
theorem View.none {v : V} (h : View K F H v .none) : v = .non := by
  rcases h with h | ⟨_, _, _, _, e, _⟩
  · cases h; rfl
  · cases e
theorem View.str {v : V} {x : Str} (h : View K F H v (.str x)) : v = .str x ∧ x.length ≤ sizeLine := by
  rcases h with h | ⟨_, _, _, _, e, _⟩
  · cases h with
    | str x hx => exact ⟨rfl, hx⟩
  · cases e
theorem View.dict {v : V} {x : List (D × D)} (h : View K F H v (.dict x)) : False := by
  rcases h with h | ⟨_, _, _, _, e, _⟩
  · cases h
  · cases e
theorem View.lst {v : V} {ds : List D} (s : Same F H) (h : View K F H v (.list ds)) : ∃ a vs, v = .ref a ∧ SqP K H a vs ∧ vs.length ≤ sizeLine ∧ RpL K F vs ds := by
  rcases h with h | ⟨a, vs, ds', e1, e2, e3, e4, e5⟩
  · cases h with
    | lst h1 h2 h3 => exact ⟨_, _, rfl, h1.mono s, h2, h3⟩
  · cases e2
    exact ⟨a, vs, e1, .inl (.inl e3), e4, e5⟩
theorem View.tup {v : V} {ds : List D} (h : View K F H v (.tuple ds)) : ∃ a vs, v = .ref a ∧ SqT K F a vs ∧ vs.length ≤ sizeLine ∧ RpL K F vs ds := by
  rcases h with h | ⟨a, vs, ds', e1, e2, e3, e4, e5⟩
  · cases h with
    | tup h1 h2 h3 => exact ⟨_, _, rfl, h1, h2, h3⟩
  · cases e2
mutual
theorem Rp.dp : ∀ {d : D} {v : V}, Rp K F v d → Dp K F v d
  | .none, _, h => by cases h; exact .non
  | .bool _, _, h => by cases h; exact .bl _
  | .int _, _, h => by cases h; exact .int _
  | .str _, _, h => by
    cases h with
    | str x h => exact .str _
  | .list ds, _, h => by
    cases h with
    | lst h1 h2 h3 => exact .lst h1.sql (RpL.dp h3)
  | .tuple ds, _, h => by
    cases h with
    | tup h1 h2 h3 => exact .tup h1 (RpL.dp h3)
  | .dict _, _, h => by cases h
theorem RpL.dp : ∀ {ds : List D} {vs : List V}, RpL K F vs ds → DpAll K F vs ds
  | [], _, h => by cases h; exact .nil
  | d :: ds, _, h => by
    cases h with
    | cons h1 h2 => exact .cons (Rp.dp h1) (RpL.dp h2)
end
theorem View.dp {v : V} {d : D} (s : Same F H) (h : View K F H v d) : Dp K H v d := by
  rcases h with h | ⟨a, vs, ds', e1, e2, e3, e4, e5⟩
  · exact (h.mono s).dp
  · subst e1 e2
    exact .lst (.inl (.inl e3)) (e5.mono s).dp
/-- a sequence: list or tuple -/
theorem View.seq {v : V} {d : D} {ds : List D} (s : Same F H) (h : View K F H v d) (e : seqOf d = some ds) :
    ∃ a vs, v = .ref a ∧ ((SqP K H a vs ∧ d = .list ds) ∨ (SqT K F a vs ∧ d = .tuple ds)) ∧ vs.length ≤ sizeLine ∧ RpL K F vs ds := by
  cases d with
  | list xs =>
    have e' : xs = ds := Option.some.inj e
    subst e'
    obtain ⟨a, vs, e1, e2, e3, e4⟩ := h.lst s
    exact ⟨a, vs, e1, .inl ⟨e2, rfl⟩, e3, e4⟩
  | tuple xs =>
    have e' : xs = ds := Option.some.inj e
    subst e'
    obtain ⟨a, vs, e1, e2, e3, e4⟩ := h.tup
    exact ⟨a, vs, e1, .inr ⟨e2, rfl⟩, e3, e4⟩
  | none => cases e
  | bool _ => cases e
  | int _ => cases e
  | str _ => cases e
  | dict _ => cases e
theorem seq_or {a : Addr} {vs : List V} {d : D} {ds : List D} (s : Same F H) (h : (SqP K H a vs ∧ d = .list ds) ∨ (SqT K F a vs ∧ d = .tuple ds)) : SqL K H a vs ∨ SqT K H a vs := by
  rcases h with ⟨h, _⟩ | ⟨h, _⟩
  · exact .inl h.sql
  · exact .inr (sqT_mono s h)
theorem OpW.one {o : Op} {x : V} {Q : VK} (h : OpW K o [x] H Q) : ∃ F d r, Same F H ∧ View K F H x d ∧ sem1 o d = some r ∧ Out K F H (opK o) r Q := by
  obtain ⟨F, ds, r, s, w, e, o⟩ := h
  cases w with
  | cons w1 w =>
    cases w
    exact ⟨F, _, r, s, w1, e, o⟩
theorem OpW.two {o : Op} {x y : V} {Q : VK} (h : OpW K o [x, y] H Q) : ∃ F d e r, Same F H ∧ View K F H x d ∧ View K F H y e ∧ sem2 o d e = some r ∧ Out K F H (opK o) r Q := by
  obtain ⟨F, ds, r, s, w, e, o⟩ := h
  cases w with
  | cons w1 w =>
    cases w with
    | cons w2 w =>
      cases w
      exact ⟨F, _, _, r, s, w1, w2, e, o⟩
theorem OpW.three {o : Op} {x y z : V} {Q : VK} (h : OpW K o [x, y, z] H Q) : ∃ F d e f r, Same F H ∧ View K F H x d ∧ View K F H y e ∧ View K F H z f ∧ sem3 o d e f = some r ∧ Out K F H (opK o) r Q := by
  obtain ⟨F, ds, r, s, w, e, o⟩ := h
  cases w with
  | cons w1 w =>
    cases w with
    | cons w2 w =>
      cases w with
      | cons w3 w =>
        cases w
        exact ⟨F, _, _, _, r, s, w1, w2, w3, e, o⟩

/-! ### unary -/
section
variable {x y z : V} {Q : VK}
theorem sv_neg (h : OpW K .neg [x] H Q) : rU (fun i => .int (-i)) x H Q := by
  obtain ⟨F, d, r, s, v, e, o⟩ := h.one
  have e : sNeg d = some r := e
  cases d with
  | int i =>
    have e' : PyData.int (-i) = r := Option.some.inj e
    subst e'
    exact ⟨i, v.int, o.rp0 (.int _)⟩
  | none => cases e
  | bool _ => cases e
  | str _ => cases e
  | list _ => cases e
  | tuple _ => cases e
  | dict _ => cases e
theorem truV_of {d : D} (s : Same F H) (v : View K F H x d) : TruV K x H (truth d) := by
  cases d with
  | none => rw [v.none]; exact rfl
  | bool b => rw [v.bool]; exact rfl
  | int i => rw [v.int]; exact rfl
  | str t =>
    obtain ⟨e, hz⟩ := v.str
    rw [e]
    refine ⟨hz, ?_⟩
    show (t.length != 0) = (((t.length : Nat) : Int) != 0)
    cases t.length with
    | zero => rfl
    | succ n =>
      have : (((n + 1 : Nat) : Int) != 0) = true := by
        rw [bne_iff_ne]
        omega
      rw [this]
      rfl
  | list xs =>
    obtain ⟨a, vs, e1, e2, e3, e4⟩ := v.lst s
    rw [e1]
    refine .inl ⟨vs, e2.sql, ?_⟩
    show (!xs.isEmpty) = !vs.isEmpty
    cases e4 <;> rfl
  | tuple xs =>
    obtain ⟨a, vs, e1, e2, e3, e4⟩ := v.tup
    rw [e1]
    refine .inr (.inl ⟨vs, sqT_mono s e2, ?_⟩)
    show (!xs.isEmpty) = !vs.isEmpty
    cases e4 <;> rfl
  | dict _ => exact v.dict.elim
theorem sv_not (h : OpW K .not [x] H Q) : ∃ k, TruV K x H k ∧ Q (.bl (!k)) H := by
  obtain ⟨F, d, r, s, v, e, o⟩ := h.one
  have e' : PyData.bool (!truth d) = r := Option.some.inj e
  subst e'
  exact ⟨_, truV_of s v, o.rp0 (.bl _)⟩
theorem sv_isN (h : OpW K .isN [x] H Q) : Q (.bl (decide (x = .non))) H := by
  obtain ⟨F, d, r, s, v, e, o⟩ := h.one
  have e' : PyData.bool (sIsN d) = r := Option.some.inj e
  subst e'
  have z : decide (x = V.non) = sIsN d := by
    cases d with
    | none => rw [v.none]; rfl
    | bool b => rw [v.bool]; rfl
    | int i => rw [v.int]; rfl
    | str t => rw [v.str.1]; rfl
    | list xs => obtain ⟨a, vs, e1, _⟩ := v.lst s; rw [e1]; rfl
    | tuple xs => obtain ⟨a, vs, e1, _⟩ := v.tup; rw [e1]; rfl
    | dict _ => exact v.dict.elim
  rw [z]
  exact o.rp0 (.bl _)
theorem sv_notN (h : OpW K .notN [x] H Q) : Q (.bl (!decide (x = .non))) H := by
  obtain ⟨F, d, r, s, v, e, o⟩ := h.one
  have e' : PyData.bool (!sIsN d) = r := Option.some.inj e
  subst e'
  have z : decide (x = V.non) = sIsN d := by
    cases d with
    | none => rw [v.none]; rfl
    | bool b => rw [v.bool]; rfl
    | int i => rw [v.int]; rfl
    | str t => rw [v.str.1]; rfl
    | list xs => obtain ⟨a, vs, e1, _⟩ := v.lst s; rw [e1]; rfl
    | tuple xs => obtain ⟨a, vs, e1, _⟩ := v.tup; rw [e1]; rfl
    | dict _ => exact v.dict.elim
  rw [z]
  exact o.rp0 (.bl _)

/-! ### ints -/
theorem sv_ii {f : D → D → Option D} {C : Int → Int → Prop} {g : Int → Int → D} {gv : Int → Int → V} {o : Op} (ho : sem2 o = f)
    (hf : ∀ d e r, f d e = some r → ∃ i j, d = .int i ∧ e = .int j ∧ C i j ∧ r = g i j) (hg : ∀ i j (F : Hp), Rp K F (gv i j) (g i j) ∧ isListD (g i j) = false) (h : OpW K o [x, y] H Q) : rI C gv x y H Q := by
  obtain ⟨F, d, e, r, s, v, w, q, out⟩ := h.two
  rw [ho] at q
  obtain ⟨i, j, rfl, rfl, c, rfl⟩ := hf d e r q
  exact ⟨i, j, v.int, w.int, c, out.rp (hg i j F).1 (hg i j F).2⟩
theorem sv_sub (h : OpW K .sub [x, y] H Q) : rI (fun _ _ => True) (fun i j => .int (i - j)) x y H Q := by
  refine sv_ii (f := sSub) (g := fun i j => .int (i - j)) rfl (fun d e r q => ?_) (fun i j F => ⟨.int _, rfl⟩) h
  cases d <;> cases e <;> cases q <;> exact ⟨_, _, rfl, rfl, trivial, rfl⟩
theorem sv_fdiv (h : OpW K .fdiv [x, y] H Q) : rI (fun _ j => divOk j = true) (fun i j => .int (i.fdiv j)) x y H Q := by
  refine sv_ii (f := sFdiv) (g := fun i j => .int (i.fdiv j)) rfl (fun d e r q => ?_) (fun i j F => ⟨.int _, rfl⟩) h
  cases d <;> cases e <;> first | cases q | skip
  rename_i i j
  simp only [sFdiv] at q
  split at q
  · exact ⟨_, _, rfl, rfl, by assumption, (Option.some.inj q).symm⟩
  · cases q
theorem sv_mod (h : OpW K .mod [x, y] H Q) : rI (fun _ j => j ≠ 0) (fun i j => .int (i.fmod j)) x y H Q := by
  refine sv_ii (f := sMod) (g := fun i j => .int (i.fmod j)) rfl (fun d e r q => ?_) (fun i j F => ⟨.int _, rfl⟩) h
  cases d <;> cases e <;> first | cases q | skip
  simp only [sMod] at q
  split at q
  · exact ⟨_, _, rfl, rfl, by assumption, (Option.some.inj q).symm⟩
  · cases q
theorem sv_pow (h : OpW K .pow [x, y] H Q) : rI CPow (fun i j => .int (i ^ j.toNat)) x y H Q := by
  refine sv_ii (f := sPow) (g := fun i j => .int (i ^ j.toNat)) rfl (fun d e r q => ?_) (fun i j F => ⟨.int _, rfl⟩) h
  cases d <;> cases e <;> first | cases q | skip
  simp only [sPow] at q
  split at q
  · rename_i hc
    unfold powOk at hc
    rw [Bool.and_eq_true, Bool.and_eq_true] at hc
    exact ⟨_, _, rfl, rfl, ⟨of_decide_eq_true hc.1.1, of_decide_eq_true hc.1.2, of_decide_eq_true hc.2⟩, (Option.some.inj q).symm⟩
  · cases q
theorem sv_le (h : OpW K .le [x, y] H Q) : rI (fun _ _ => True) (fun i j => .bl (decide (i ≤ j))) x y H Q := by
  refine sv_ii (f := sLe) (g := fun i j => .bool (decide (i ≤ j))) rfl (fun d e r q => ?_) (fun i j F => ⟨.bl _, rfl⟩) h
  cases d <;> cases e <;> cases q <;> exact ⟨_, _, rfl, rfl, trivial, rfl⟩
theorem sv_ge (h : OpW K .ge [x, y] H Q) : rI (fun _ _ => True) (fun i j => .bl (decide (j ≤ i))) x y H Q := by
  refine sv_ii (f := fun a b => sLe b a) (g := fun i j => .bool (decide (j ≤ i))) rfl (fun d e r q => ?_) (fun i j F => ⟨.bl _, rfl⟩) h
  cases d <;> cases e <;> cases q <;> exact ⟨_, _, rfl, rfl, trivial, rfl⟩
end
section
variable {X : Cx}
theorem divOk_iff {j : Int} (h : divOk j = true) : j ≠ 0 ∧ j.natAbs.log2 < 9000 := by
  unfold divOk at h
  rw [Bool.and_eq_true] at h
  exact ⟨of_decide_eq_true h.1, of_decide_eq_true h.2⟩
theorem or_fdiv : OpR X (binaryOp .FloorDiv) (rI (fun _ j => divOk j = true) fun i j => .int (i.fdiv j)) := opI fun _ _ _ _ _ _ _ hc q =>
  floordiv_int (divOk_iff hc).1 q (.inl (PyProof.noPylong_of_log2 (divOk_iff hc).2))
theorem or_mod : OpR X (binaryOp .Mod) (rI (fun _ j => j ≠ 0) fun i j => .int (i.fmod j)) := op_modN
theorem mulOk_ok {i j : Int} (h : mulOk i j = true) : IntMulOk i j := by
  have b : ∀ x : Int, Builtin.Int.intBits x ≤ x.natAbs.log2 + 1 := fun x => by
    unfold Builtin.Int.intBits
    split <;> omega
  have h1 := b i
  have h2 := b j
  have h3 : i.natAbs.log2 + j.natAbs.log2 < 100000000 := of_decide_eq_true h
  have e : bitsLine = 134217728 := by decide
  unfold IntMulOk
  intro z
  rw [Bool.and_eq_true] at z
  have z2 := z.2
  unfold Builtin.Int.intTooBig at z2
  have z3 := of_decide_eq_true z2
  rw [e] at z3
  omega
theorem or_mulI : OpR X (binaryOp .Mult) (rI (fun i j => mulOk i j = true) fun i j => .int (i * j)) := opI fun _ _ _ _ _ _ _ hc q => mul_int q (mulOk_ok hc)
/-- lists that are read -/
theorem Inv.lstR {pins : List (Addr × Obj)} {σ : L2.St} {H : Hp} {s : Shared} {l : Addr} {xs : List V} (I : L2.Inv X pins σ H s) (hH : SqP X.K H l xs) :
    xs.length ≤ sizeLine ∧ ∃ (its : List Value) (n : Nat), Vals xs its ∧ xs.length = its.length ∧ s.heap.get? l = some { cls := .type "list", data := .seq its.toArray n } := by
  rcases hH with hH | ⟨its, n, hk, hz, r⟩
  · obtain ⟨z, its, n, r, e⟩ := hH.ok I.hok
    exact ⟨z, its, n, r, r.length, e⟩
  · have e := r.length
    exact ⟨by rw [e, Array.length_toList]; exact hz, its.toList, n, r, r.length, I.kIn l _ hk⟩
def rCatR (K : PySem.W.Frag) : R2 := fun x y H Q => ∃ l b xs zs, x = .ref l ∧ y = .ref b ∧ SqP K H l xs ∧ SqP K H b zs ∧ xs.length + zs.length ≤ sizeLine ∧ ∀ p, H p = none → Q (.ref p) (upd H p (.lst (xs ++ zs)))
theorem or_cat : OpR X (binaryOp .Add) (rCatR X.K) := by
  intro pins s σ H x y v u Q I rx ry h
  obtain ⟨l, b, xs, zs, rfl, rfl, hH, hB, hz, q⟩ := h
  cases rx
  cases ry
  obtain ⟨z, its, n, r, hl, e⟩ := Inv.lstR I hH
  obtain ⟨z2, its2, n2, r2, hl2, e2⟩ := Inv.lstR I hB
  refine PySem.P.add_list e e2 ?_ (by rw [List.size_toArray, List.size_toArray]; omega)
  have ea : its.toArray ++ its2.toArray = (its ++ its2).toArray := by simp
  rw [ea]
  exact ⟨.ref _, _, I.lnew (t' := s.toks) (r.append r2) (by rw [List.length_append]; omega), rfl, q _ I.fresh⟩
def rRepR (K : PySem.W.Frag) : R2 := fun x y H Q => ∃ l k xs, x = .ref l ∧ y = .int k ∧ SqP K H l xs ∧ -(2 ^ 63) ≤ k ∧ k < 2 ^ 63 ∧ xs.length * k.toNat ≤ sizeLine ∧
  ∀ p, H p = none → Q (.ref p) (upd H p (.lst (List.replicate k.toNat xs).flatten))
theorem or_rep : OpR X (binaryOp .Mult) (rRepR X.K) := by
  intro pins s σ H x y v u Q I rx ry h
  obtain ⟨l, k, xs, rfl, rfl, hH, h1, h2, hz, q⟩ := h
  cases rx
  obtain ⟨t, rfl⟩ := ry
  obtain ⟨z, its, n, r, hl, e⟩ := Inv.lstR I hH
  have hlen : its.toArray.size * k.toNat ≤ sizeLine := by rw [List.size_toArray, ← hl]; exact hz
  have hcap : ¬ its.toArray.size * k.toNat > (2 ^ 63 - 1) / 8 := by
    have : (sizeLine : Nat) ≤ (2 ^ 63 - 1) / 8 := by decide
    omega
  have hfit : ¬ (!Builtin.List.listFitsIndex k) = true := by
    rw [fitsIndex_both h1 h2]
    exact Bool.false_ne_true
  have hlong : ¬ Builtin.List.listTooLong (its.toArray.size * k.toNat) = true := by
    rw [notLongL hlen]
    exact Bool.false_ne_true
  have hnew : List.foldl (fun x1 x2 => x1 ++ x2) #[] (List.replicate (if its.toArray.isEmpty = true then 0 else k.toNat) its.toArray) = (List.replicate k.toNat its).flatten.toArray := by
    have f0 : ∀ m : Nat, List.foldl (fun x1 x2 => x1 ++ x2) #[] (List.replicate m its.toArray) = (List.replicate m its).flatten.toArray := fun m => by
      have := foldl_rep its m []
      rw [List.nil_append] at this
      exact this
    rw [f0]
    cases its with
    | nil => simp
    | cons a r' => rw [if_neg (by simp)]
  refine wpAny_binaryOp_repeat_ref (T := "list") (U := "int") (by decide) ⟨_, e, rfl⟩ (fun s' => typeIs_int s' k t) noFill_list_mul F.fills_int_mul F.slot_int_rmul repeat_list F.slot_int_index.lookup
    (call_meets F.slot_int_rmul (typeIs_int s k t) F.entry_int_rmul (F.args_int_rmul_2 _ _) (int___rmul___int_list k t l its.toArray n)
      ⟨e, rfl, ⟨_, e, rfl⟩, call_meets F.slot_list_mul ⟨_, e, rfl⟩ F.entry_list_mul (F.args_list_mul_2 _ _) (AutoListH.list___mul___list_int_3 l its.toArray n k t hfit hcap hlong) ⟨e, ?_⟩⟩)
  rw [hnew]
  exact ⟨.ref _, _, I.lnew (t' := s.toks) (r.rep k.toNat) (by rw [PyProof.Rows.lm_len_rep_flat, Nat.mul_comm]; exact hz), rfl, q _ I.fresh⟩
end
theorem szOk_le {n : Nat} (h : szOk n = true) : n ≤ sizeLine := by
  have h1 : n ≤ maxLen := of_decide_eq_true h
  rw [sizeLine_eq]
  exact h1
theorem maxLen_eq : maxLen = sizeLine := by rw [sizeLine_eq]; rfl
theorem RpL.rep {vs : List V} {ds : List D} (h : RpL K F vs ds) : ∀ k : Nat, RpL K F (List.replicate k vs).flatten (List.replicate k ds).flatten
  | 0 => .nil
  | k + 1 => by
    rw [List.replicate_succ, List.flatten_cons, List.replicate_succ, List.flatten_cons]
    exact h.append (RpL.rep h k)
/-- + -/
def rAddA (K : PySem.W.Frag) : R2 := fun x y H Q => (((rI (fun _ _ => True) (fun i j => .int (i + j)) x y H Q ∨ rCatR K x y H Q) ∨ rCatA K x y H Q) ∨ ∃ i j, x = .str i ∧ y = .str j ∧ i.length + j.length ≤ sizeLine ∧ Q (.str (i ++ j)) H)
theorem or_add {X : Cx} : OpR X (binaryOp .Add) (rAddA X.K) :=
  OpR.or (OpR.or (OpR.or (opI fun _ _ _ _ _ _ _ _ q => add_int q) or_cat) op_catA) op_add_str
theorem str_len_append (i j : Str) : (i ++ j).length = i.length + j.length := by
  show (i.cps ++ j.cps).size = _
  rw [Array.size_append]
  rfl
theorem sv_add {x y : V} {Q : VK} (h : OpW K .add [x, y] H Q) : rAddA K x y H Q := by
  obtain ⟨F, d, e, r, s, v, w, q, out⟩ := h.two
  have q : sAdd d e = some r := q
  cases d <;> cases e <;> first | cases q | skip
  · exact .inl (.inl (.inl ⟨_, _, v.int, w.int, trivial, out.rp (.int _) rfl⟩))
  · rename_i i j
    simp only [sAdd] at q
    split at q
    · rename_i hz
      obtain rfl := Option.some.inj q
      have hz' := szOk_le hz
      exact .inr ⟨_, _, v.str.1, w.str.1, hz', out.rp (.str _ (by rw [str_len_append]; exact hz')) rfl⟩
    · cases q
  · simp only [sAdd] at q
    split at q
    · rename_i hz
      obtain rfl := Option.some.inj q
      have hz' := szOk_le hz
      obtain ⟨a, vs, e1, e2, e3, e4⟩ := v.lst s
      obtain ⟨b, ws, f1, f2, f3, f4⟩ := w.lst s
      have hl : vs.length + ws.length ≤ sizeLine := by rw [e4.length, f4.length]; exact hz'
      exact .inl (.inl (.inr ⟨a, b, vs, ws, e1, f1, e2, f2, hl, fun p hp => Out.lst out hp (e4.append f4) (by rw [List.length_append]; exact hl)⟩))
    · cases q
  · simp only [sAdd] at q
    split at q
    · rename_i hz
      obtain rfl := Option.some.inj q
      have hz' := szOk_le hz
      obtain ⟨a, vs, e1, e2, e3, e4⟩ := v.tup
      obtain ⟨b, ws, f1, f2, f3, f4⟩ := w.tup
      have hl : vs.length + ws.length ≤ sizeLine := by rw [e4.length, f4.length]; exact hz'
      refine .inl (.inr ⟨a, b, vs, ws, e1, f1, sqT_mono s e2, sqT_mono s f2, hl, fun z => ?_, fun _ z => ?_, fun _ _ p hp => out.tup hp (e4.append f4) (by rw [List.length_append]; exact hl) s⟩)
      · subst z
        cases e4
        exact out.rp (.tup f2 f3 f4) rfl
      · subst z
        cases f4
        refine out.rp (.tup e2 e3 ?_) rfl
        rw [List.append_nil]
        exact e4
    · cases q
/-- * : ints, a list and an int -/
def rMulA (K : PySem.W.Frag) : R2 := fun x y H Q => (rI (fun i j => mulOk i j = true) (fun i j => .int (i * j)) x y H Q ∨ rRepR K x y H Q) ∨ rRepT K x y H Q
theorem or_mul {X : Cx} : OpR X (binaryOp .Mult) (rMulA X.K) := OpR.or (OpR.or or_mulI or_rep) op_repT
/-- == -/
theorem okD_shaped {d : D} (h : okD d = true) : SeqAt.shaped d = true := h
theorem sv_eq {x y : V} {Q : VK} (h : OpW K .eq [x, y] H Q) : rEqD K x y H Q := by
  obtain ⟨F, d, e, r, s, v, w, q, out⟩ := h.two
  have q : (sEq d e).map PyData.bool = some r := q
  unfold sEq at q
  split at q
  · rename_i hz
    rw [Bool.and_eq_true] at hz
    obtain rfl := Option.some.inj q
    exact ⟨d, e, v.dp s, w.dp s, hz.1, hz.2, out.rp (.bl _) rfl⟩
  · cases q
theorem sv_ne {x y : V} {Q : VK} (h : OpW K .ne [x, y] H Q) : rNeD K x y H Q := by
  obtain ⟨F, d, e, r, s, v, w, q, out⟩ := h.two
  have q : (sEq d e).map (fun c => PyData.bool (!c)) = some r := q
  unfold sEq at q
  split at q
  · rename_i hz
    rw [Bool.and_eq_true] at hz
    obtain rfl := Option.some.inj q
    exact ⟨d, e, v.dp s, w.dp s, hz.1, hz.2, out.rp (.bl _) rfl⟩
  · cases q
end PL
end

section
set_option maxRecDepth 100000
/-! PlOps2: further ops by their rules. -/
namespace PL
open PySem PySem.Spec PyProof.Rows L2
variable {K : PySem.W.Frag} {F F' H H' : Hp}
/-- an object that nobody looks at -/
theorem Ok.junk {A : List Addr} {I : List It} {p : Addr} {o : HO} (h : Ok K F H A I) (hp : H p = none) : Ok K F (upd H p o) A I := (h.alloc hp).dropA
theorem Out.junk {k : Nat} {d : D} {Q : VK} {p : Addr} {o : HO} (out : Out K F H k d Q) (hp : H p = none) : Out K F (upd H p o) k d Q := fun F' H' v s f => out F' H' v s fun A I h => f A I (h.junk hp)
/-- from another heap, by a new object -/
theorem View.same {v : V} {d : D} (s : Same H H') : View K F H v d → View K F H' v d
  | .inl h => .inl h
  | .inr ⟨a, vs, ds, e1, e2, e3, e4, e5⟩ => .inr ⟨a, vs, ds, e1, e2, s _ _ e3, e4, e5⟩
theorem same_upd {p : Addr} {o : HO} (hp : H p = none) : Same H (upd H p o) := fun b x e => by rw [upd_ne (ne_of_none e hp)]; exact e

theorem ints_of : ∀ {ds : List D} {ns : List Int}, ints? ds = some ns → ds = ns.map .int
  | [], ns, h => by
    have e : ([] : List Int) = ns := Option.some.inj h
    subst e; rfl
  | .int i :: ds, ns, h => by
    simp only [ints?] at h
    cases e : ints? ds with
    | none => rw [e] at h; cases h
    | some ms =>
      rw [e] at h
      have e2 : i :: ms = ns := Option.some.inj h
      subst e2
      rw [List.map_cons, ints_of e]
  | .none :: _, _, h => by cases h
  | .bool _ :: _, _, h => by cases h
  | .str _ :: _, _, h => by cases h
  | .list _ :: _, _, h => by cases h
  | .tuple _ :: _, _, h => by cases h
  | .dict _ :: _, _, h => by cases h
theorem bools_of : ∀ {ds : List D} {ns : List Bool}, bools? ds = some ns → ds = ns.map .bool
  | [], ns, h => by
    have e : ([] : List Bool) = ns := Option.some.inj h
    subst e; rfl
  | .bool i :: ds, ns, h => by
    simp only [bools?] at h
    cases e : bools? ds with
    | none => rw [e] at h; cases h
    | some ms =>
      rw [e] at h
      have e2 : i :: ms = ns := Option.some.inj h
      subst e2
      rw [List.map_cons, bools_of e]
  | .none :: _, _, h => by cases h
  | .int _ :: _, _, h => by cases h
  | .str _ :: _, _, h => by cases h
  | .list _ :: _, _, h => by cases h
  | .tuple _ :: _, _, h => by cases h
  | .dict _ :: _, _, h => by cases h
theorem rpl_ints : ∀ {ns : List Int} {vs : List V}, RpL K F vs (ns.map .int) → vs = ns.map .int
  | [], _, h => by cases h; rfl
  | n :: ns, _, h => by
    cases h with
    | cons r t =>
      cases r
      rw [rpl_ints t]
      rfl
theorem rpl_bools : ∀ {ns : List Bool} {vs : List V}, RpL K F vs (ns.map .bool) → vs = ns.map .bl
  | [], _, h => by cases h; rfl
  | n :: ns, _, h => by
    cases h with
    | cons r t =>
      cases r
      rw [rpl_bools t]
      rfl
theorem ints_rpl : ∀ {ns : List Int}, RpL K F (ns.map V.int) (ns.map .int)
  | [] => .nil
  | n :: ns => .cons (.int n) ints_rpl
section
variable {x y z : V} {Q : VK} {X : Cx}
theorem sv_mul (h : OpW K .mul [x, y] H Q) : rMulA K x y H Q := by
  obtain ⟨F, d, e, r, s, v, w, q0, out⟩ := h.two
  have q : sMul d e = some r := q0
  clear q0
  cases d <;> cases e <;> first | cases q; done | skip
  · rename_i i j
    simp only [sMul] at q
    split at q
    · rename_i hz
      obtain rfl := Option.some.inj q
      exact .inl (.inl ⟨_, _, v.int, w.int, hz, out.rp (.int _) rfl⟩)
    · cases q
  · rename_i xs j
    simp only [sMul] at q
    split at q
    · rename_i hz
      obtain rfl := Option.some.inj q
      rw [Bool.and_eq_true, Bool.and_eq_true] at hz
      have h1 := szOk_le hz.1.1
      have h2 := of_decide_eq_true hz.1.2
      have h3 := of_decide_eq_true hz.2
      obtain ⟨a, vs, e1, e2, e3, e4⟩ := v.lst s
      have hl : vs.length * j.toNat ≤ sizeLine := by rw [e4.length]; exact h1
      refine .inl (.inr ⟨a, j, vs, e1, w.int, e2, by omega, by omega, hl, fun p hp => Out.lst out hp (e4.rep j.toNat) ?_⟩)
      rw [PyProof.Rows.lm_len_rep_flat, Nat.mul_comm]
      exact hl
    · cases q
  · rename_i xs j
    simp only [sMul] at q
    split at q
    · rename_i hz
      obtain rfl := Option.some.inj q
      rw [show beyond = false from rfl, Bool.or_false, Bool.and_eq_true, Bool.and_eq_true, Bool.and_eq_true] at hz
      obtain ⟨⟨⟨h0, h1⟩, h2⟩, h3⟩ := hz
      obtain ⟨a, vs, e1, e2, e3, e4⟩ := v.tup
      have hl := e4.length
      have h3' := of_decide_eq_true h3
      have h2' := of_decide_eq_true h2
      have hn : vs ≠ [] := fun e => by
        subst e
        cases e4
        exact Bool.false_ne_true h0
      refine .inr ⟨a, j, vs, e1, w.int, sqT_mono s e2, hn, of_decide_eq_true h1, h2', by omega, fun p hp => out.tup hp (e4.rep j.toNat) ?_ s⟩
      rw [PyProof.Rows.lm_len_rep_flat, sizeLine_eq]
      have : j.toNat ≤ 1000 := by omega
      have h5 : vs.length ≤ 1000 := by omega
      have := Nat.mul_le_mul this h5
      omega
    · cases q
theorem lexI_eq : ∀ ns ms : List Int, lexI ns ms = HT.lexLt ns ms
  | [], [] => rfl
  | [], _ :: _ => rfl
  | _ :: _, [] => rfl
  | x :: xs, y :: ys => by
    show (if x = y then lexI xs ys else decide (x < y)) = (if x = y then HT.lexLt xs ys else decide (x < y))
    rw [lexI_eq xs ys]
def rLtA (K : PySem.W.Frag) : R2 := fun x y H Q => (rI0 (fun i j => .bl (decide (i < j))) x y H Q ∨ rLtT K x y H Q) ∨ ∃ i j, x = .str i ∧ y = .str j ∧ Q (.bl (decide (i.cps.toList < j.cps.toList))) H
theorem or_lt (hu : X.A.units < cLine) : OpR X (compareOp .Lt) (rLtA X.K) := OpR.or (OpR.or op_lt (op_ltT hu)) op_lt_str
theorem sLt_cases {d e : D} {b : Bool} (q : sLt d e = some b) :
    (∃ i j, d = .int i ∧ e = .int j ∧ b = decide (i < j)) ∨ (∃ ns ms, d = .tuple (ns.map .int) ∧ e = .tuple (ms.map .int) ∧ b = lexI ns ms) ∨ ∃ i j, d = .str i ∧ e = .str j ∧ b = decide (i.cps.toList < j.cps.toList) := by
  cases d <;> cases e <;> first | cases q; done | skip
  · exact .inl ⟨_, _, rfl, rfl, (Option.some.inj q).symm⟩
  · exact .inr (.inr ⟨_, _, rfl, rfl, (Option.some.inj q).symm⟩)
  · rename_i xs ys
    simp only [sLt] at q
    cases e1 : ints? xs with
    | none => rw [e1] at q; cases q
    | some ns =>
      cases e2 : ints? ys with
      | none => rw [e1, e2] at q; cases q
      | some ms =>
        rw [e1, e2] at q
        exact .inr (.inl ⟨ns, ms, by rw [ints_of e1], by rw [ints_of e2], (Option.some.inj q).symm⟩)
theorem sv_lt (h : OpW K .lt [x, y] H Q) : rLtA K x y H Q := by
  obtain ⟨F, d, e, r, s, v, w, q, out⟩ := h.two
  have q : (sLt d e).map PyData.bool = some r := q
  cases e1 : sLt d e with
  | none => rw [e1] at q; cases q
  | some b =>
    rw [e1] at q
    obtain rfl := Option.some.inj q
    rcases sLt_cases e1 with ⟨i, j, rfl, rfl, rfl⟩ | ⟨ns, ms, rfl, rfl, rfl⟩ | ⟨i, j, rfl, rfl, rfl⟩
    · exact .inl (.inl ⟨_, _, v.int, w.int, out.rp (.bl _) rfl⟩)
    · obtain ⟨a, vs, f1, f2, f3, f4⟩ := v.tup
      obtain ⟨b, ws, g1, g2, g3, g4⟩ := w.tup
      rw [rpl_ints f4] at f2
      rw [rpl_ints g4] at g2
      exact .inl (.inr ⟨a, b, ns, ms, f1, g1, sqT_mono s f2, sqT_mono s g2, by rw [← lexI_eq]; exact out.rp (.bl _) rfl⟩)
    · exact .inr ⟨_, _, v.str.1, w.str.1, out.rp (.bl _) rfl⟩
theorem sv_gt (h : OpW K .gt [x, y] H Q) : rI0 (fun i j => .bl (decide (j < i))) x y H Q := by
  obtain ⟨F, d, e, r, s, v, w, q0, out⟩ := h.two
  have q : (sGt d e).map PyData.bool = some r := q0
  clear q0
  cases d <;> cases e <;> first | cases q; done | skip
  obtain rfl := Option.some.inj q
  exact ⟨_, _, v.int, w.int, out.rp (.bl _) rfl⟩

/-! ### in, not in -/
def rInA (K : PySem.W.Frag) (neg : Bool) : R2 := fun x y H Q => ∃ d ds, Dp K H x d ∧ (Dp K H y (.list ds) ∨ Dp K H y (.tuple ds)) ∧ SeqAt.shaped d = true ∧ PyData.canLayAll0 ds = true ∧ Q (.bl (if neg then !ds.any fun z => PyData.eqv z d else ds.any fun z => PyData.eqv z d)) H
theorem or_in (hu : X.A.units + 65 < cLine) : OpR X (compareOp .In) (rInA X.K false) := by
  intro pins s σ H x y v u Q I rx ry h
  obtain ⟨d, ds, hd, he, sd, se, q⟩ := h
  obtain ⟨as, r1⟩ := Dp.reads I d x v hd rx
  rcases he with he | he
  · obtain ⟨bs, r2⟩ := Dp.reads I (.list ds) y u he ry
    exact SeqAt.in_list_reads r2 r1 se (SeqAt.canLay_of_shaped sd) (room_in_shaped sd hu) ⟨.bl _, H, I, rfl, q⟩
  · obtain ⟨bs, r2⟩ := Dp.reads I (.tuple ds) y u he ry
    exact SeqAt.in_tuple_reads r2 r1 se (SeqAt.canLay_of_shaped sd) (room_in_shaped sd hu) ⟨.bl _, H, I, rfl, q⟩
theorem or_notin (hu : X.A.units + 65 < cLine) : OpR X (compareOp .NotIn) (rInA X.K true) := by
  intro pins s σ H x y v u Q I rx ry h
  obtain ⟨d, ds, hd, he, sd, se, q⟩ := h
  obtain ⟨as, r1⟩ := Dp.reads I d x v hd rx
  rcases he with he | he
  · obtain ⟨bs, r2⟩ := Dp.reads I (.list ds) y u he ry
    exact SeqAt.notIn_list_reads r2 r1 se (SeqAt.canLay_of_shaped sd) (room_in_shaped sd hu) ⟨.bl _, H, I, rfl, q⟩
  · obtain ⟨bs, r2⟩ := Dp.reads I (.tuple ds) y u he ry
    exact SeqAt.notIn_tuple_reads r2 r1 se (SeqAt.canLay_of_shaped sd) (room_in_shaped sd hu) ⟨.bl _, H, I, rfl, q⟩
theorem inD_any (d : D) : ∀ xs : List D, inD d xs = xs.any fun z => PyData.eqv z d
  | [] => rfl
  | x :: xs => by
    show (PyData.eqv x d || inD d xs) = (PyData.eqv x d || xs.any fun z => PyData.eqv z d)
    rw [inD_any d xs]
theorem canAll : ∀ {xs : List D}, xs.all okD = true → PyData.canLayAll0 xs = true
  | [], _ => by simp [PyData.canLayAll0]
  | x :: xs, h => by
    rw [List.all_cons, Bool.and_eq_true] at h
    simp only [PyData.canLayAll0, SeqAt.canLay_of_shaped h.1, canAll h.2, Bool.and_self]
theorem sIn_cases {d e : D} {b : Bool} (q : sIn d e = some b) : (∃ kvs, e = .dict kvs) ∨ ∃ ds, (e = .list ds ∨ e = .tuple ds) ∧ okD d = true ∧ ds.all okD = true ∧ b = inD d ds := by
  cases e <;> first | cases q; done | skip
  · rename_i xs
    simp only [sIn] at q
    split at q
    · rename_i hz
      rw [Bool.and_eq_true] at hz
      exact .inr ⟨xs, .inl rfl, hz.1, hz.2, (Option.some.inj q).symm⟩
    · cases q
  · rename_i xs
    simp only [sIn] at q
    split at q
    · rename_i hz
      rw [Bool.and_eq_true] at hz
      exact .inr ⟨xs, .inr rfl, hz.1, hz.2, (Option.some.inj q).symm⟩
    · cases q
  · exact .inl ⟨_, rfl⟩
theorem sv_isin (h : OpW K .isin [x, y] H Q) : rInA K false x y H Q := by
  obtain ⟨F, d, e, r, s, v, w, q0, out⟩ := h.two
  have q : (sIn d e).map PyData.bool = some r := q0
  clear q0
  cases e1 : sIn d e with
  | none => rw [e1] at q; cases q
  | some b =>
    rw [e1] at q
    obtain rfl := Option.some.inj q
    rcases sIn_cases e1 with ⟨kvs, rfl⟩ | ⟨ds, he, h1, h2, rfl⟩
    · exact w.dict.elim
    · refine ⟨d, ds, v.dp s, he.imp (fun e => ?_) (fun e => ?_), h1, canAll h2, ?_⟩
      · subst e; exact w.dp s
      · subst e; exact w.dp s
      · rw [if_neg Bool.false_ne_true, ← inD_any]
        exact out.rp (.bl _) rfl
theorem sv_notin (h : OpW K .notin [x, y] H Q) : rInA K true x y H Q := by
  obtain ⟨F, d, e, r, s, v, w, q0, out⟩ := h.two
  have q : (sIn d e).map (fun c => PyData.bool (!c)) = some r := q0
  clear q0
  cases e1 : sIn d e with
  | none => rw [e1] at q; cases q
  | some b =>
    rw [e1] at q
    obtain rfl := Option.some.inj q
    rcases sIn_cases e1 with ⟨kvs, rfl⟩ | ⟨ds, he, h1, h2, rfl⟩
    · exact w.dict.elim
    · refine ⟨d, ds, v.dp s, he.imp (fun e => ?_) (fun e => ?_), h1, canAll h2, ?_⟩
      · subst e; exact w.dp s
      · subst e; exact w.dp s
      · rw [if_pos rfl, ← inD_any]
        exact out.rp (.bl _) rfl

/-! ### subscripts -/
theorem ixAt_atI {α : Type} (xs : List α) (i : Int) : ixAt xs i = atI xs i := by
  unfold ixAt atI ixN
  split
  · split
    · rfl
    · rename_i h1 h2
      rw [List.getElem?_eq_none (by omega)]
      rfl
  · split <;> rfl
theorem atI_rpl {vs : List V} {ds : List D} {i : Int} {d : D} (r : RpL K F vs ds) (h : atI ds i = some d) : ∃ v, atI vs i = some v ∧ Rp K F v d := by
  unfold atI at h ⊢
  rw [r.length]
  cases e : ixN ds.length i with
  | none => rw [e] at h; cases h
  | some j =>
    rw [e] at h
    exact r.get h
theorem sv_ix (h : OpW K .ix [x, y] H Q) : rIx K x y H Q := by
  obtain ⟨F, d, e, r, s, v, w, q0, out⟩ := h.two
  have q : sIx d e = some r := q0
  clear q0
  cases d with
  | dict _ => exact v.dict.elim
  | list xs =>
    cases e <;> first | cases q; done | skip
    rename_i i
    have q : ixAt xs i = some r := q
    rw [ixAt_atI] at q
    obtain ⟨a, vs, e1, e2, e3, e4⟩ := v.lst s
    obtain ⟨u, h1, h2⟩ := atI_rpl e4 q
    exact .inl ⟨a, vs, i, u, e1, w.int, e2.sql, h1, out.rp0 h2⟩
  | tuple xs =>
    cases e <;> first | cases q; done | skip
    rename_i i
    have q : ixAt xs i = some r := q
    rw [ixAt_atI] at q
    obtain ⟨a, vs, e1, e2, e3, e4⟩ := v.tup
    obtain ⟨u, h1, h2⟩ := atI_rpl e4 q
    exact .inr (.inl ⟨a, vs, i, u, e1, w.int, sqT_mono s e2, h1, out.rp0 h2⟩)
  | none => cases e <;> cases q
  | bool _ => cases e <;> cases q
  | int _ => cases e <;> cases q
  | str _ => cases e <;> cases q
theorem RpL.cut {vs : List V} {ds : List D} (r : RpL K F vs ds) (lo hi : Option Int) : RpL K F (cutV vs lo hi) (cutD ds lo hi) := by
  have c : ∀ (n d : Nat) (o : Option Int), clip n d o = HT.sIx n d o := fun n d o => by cases o <;> rfl
  unfold cutV cutD
  rw [c, c, r.length]
  exact (r.drop _).take _
/-- a slice of a list, a tuple -/
def rSl (K : PySem.W.Frag) : V → Option Int → Option Int → Hp → VK → Prop := fun x lo hi H Q => rSlL K x lo hi H Q ∨ rSlA K x lo hi H Q
theorem or_sl : SlR X (rSl X.K) := SlR.or sl_list sl_tupA
theorem cut_serves {d r : D} {lo hi : Option Int} {o : Op} (ho : opK o = 1) (s : Same F H) (v : View K F H x d) (q : cutOf d lo hi = some r) (ns : ∀ z, d ≠ .str z) (out : Out K F H (opK o) r Q) : rSl K x lo hi H Q := by
  rw [ho] at out
  cases d with
  | list xs =>
    obtain rfl := Option.some.inj q
    obtain ⟨a, vs, e1, e2, e3, e4⟩ := v.lst s
    exact .inl ⟨a, vs, e1, e2.sql, fun p hp => Out.lst out hp (e4.cut lo hi) (Nat.le_trans (cutV_length _ _ _) e3)⟩
  | tuple xs =>
    obtain rfl := Option.some.inj q
    obtain ⟨a, vs, e1, e2, e3, e4⟩ := v.tup
    refine .inr ⟨a, vs, e1, sqT_mono s e2, fun z => ?_, fun _ p hp => out.tup hp (e4.cut lo hi) (Nat.le_trans (cutV_length _ _ _) e3) s⟩
    have ec : cutV vs lo hi = vs := by
      unfold cutV
      rw [z.1, z.2, List.drop_zero, Nat.sub_zero, List.take_length]
    have r := e4.cut lo hi
    rw [ec] at r
    exact out.rp (.tup e2 e3 r) rfl
  | str z => exact absurd rfl (ns z)
  | dict _ => exact v.dict.elim
  | none => cases q
  | bool _ => cases q
  | int _ => cases q

/-! ### built-in calls -/
theorem sv_len (h : OpW K .len [x] H Q) : ∃ x' n, [x] = [x'] ∧ LenV K x' H n ∧ Q (.int n) H := by
  obtain ⟨F, d, r, s, v, q0, out⟩ := h.one
  have q : sLen d = some r := q0
  clear q0
  cases d with
  | list xs =>
    obtain rfl := Option.some.inj q
    obtain ⟨a, vs, e1, e2, e3, e4⟩ := v.lst s
    refine ⟨x, xs.length, rfl, ?_, out.rp (.int _) rfl⟩
    rw [e1]
    exact .inl ⟨vs, e2.sql, e4.length.symm⟩
  | tuple xs =>
    obtain rfl := Option.some.inj q
    obtain ⟨a, vs, e1, e2, e3, e4⟩ := v.tup
    refine ⟨x, xs.length, rfl, ?_, out.rp (.int _) rfl⟩
    rw [e1]
    exact .inr ⟨vs, sqT_mono s e2, e4.length.symm⟩
  | str t =>
    obtain rfl := Option.some.inj q
    refine ⟨x, t.length, rfl, ?_, out.rp (.int _) rfl⟩
    rw [v.str.1]
    exact ⟨v.str.2, rfl⟩
  | dict _ => exact v.dict.elim
  | none => cases q
  | bool _ => cases q
  | int _ => cases q
theorem sv_abs (h : OpW K .abs [x] H Q) : ∃ i, [x] = [.int i] ∧ Q (.int (if i < 0 then -i else i)) H := by
  obtain ⟨F, d, r, s, v, q0, out⟩ := h.one
  have q : sAbs d = some r := q0
  clear q0
  cases d <;> first | cases q; done | skip
  obtain rfl := Option.some.inj q
  exact ⟨_, by rw [v.int], out.rp (.int _) rfl⟩
theorem sv_int (h : OpW K .int [x] H Q) : (∃ i, [x] = [.int i] ∧ Q (.int i) H) ∨ ∃ k, [x] = [.bl k] ∧ Q (.int (if k then 1 else 0)) H := by
  obtain ⟨F, d, r, s, v, q0, out⟩ := h.one
  have q : sInt d = some r := q0
  clear q0
  cases d <;> first | cases q; done | skip
  · obtain rfl := Option.some.inj q
    exact .inr ⟨_, by rw [v.bool], out.rp (.int _) rfl⟩
  · obtain rfl := Option.some.inj q
    exact .inl ⟨_, by rw [v.int], out.rp (.int _) rfl⟩
theorem sv_max2 (h : OpW K .max2 [x, y] H Q) : ∃ i j, [x, y] = [.int i, .int j] ∧ Q (.int (if j > i then j else i)) H := by
  obtain ⟨F, d, e, r, s, v, w, q0, out⟩ := h.two
  have q : sMax2 d e = some r := q0
  clear q0
  cases d <;> cases e <;> first | cases q; done | skip
  obtain rfl := Option.some.inj q
  exact ⟨_, _, by rw [v.int, w.int], out.rp (.int _) rfl⟩
theorem sv_min2 (h : OpW K .min2 [x, y] H Q) : ∃ i j, [x, y] = [.int i, .int j] ∧ Q (.int (if j < i then j else i)) H := by
  obtain ⟨F, d, e, r, s, v, w, q0, out⟩ := h.two
  have q : sMin2 d e = some r := q0
  clear q0
  cases d <;> cases e <;> first | cases q; done | skip
  obtain rfl := Option.some.inj q
  exact ⟨_, _, by rw [v.int, w.int], out.rp (.int _) rfl⟩
theorem sv_list (h : OpW K .list [x] H Q) : ∃ p ys, [x] = [.ref p] ∧ (SqL K H p ys ∨ SqT K H p ys) ∧ ∀ l, H l = none → Q (.ref l) (upd H l (.lst ys)) := by
  obtain ⟨F, d, r, s, v, q0, out⟩ := h.one
  have q : (seqOf d).map PyData.list = some r := q0
  clear q0
  cases e : seqOf d with
  | none => rw [e] at q; cases q
  | some ds =>
    rw [e] at q
    obtain rfl := Option.some.inj q
    obtain ⟨a, vs, e1, e2, e3, e4⟩ := v.seq s e
    exact ⟨a, vs, by rw [e1], seq_or s e2, fun p hp => Out.lst out hp e4 e3⟩
theorem sv_tuple (h : OpW K .tuple [x] H Q) : ∃ p ys, [x] = [.ref p] ∧ ((SqL K H p ys ∧ ∀ l, H l = none → Q (.ref l) (upd H l (.tup ys))) ∨ (SqT K H p ys ∧ Q (.ref p) H)) := by
  obtain ⟨F, d, r, s, v, q0, out⟩ := h.one
  have q : (seqOf d).map PyData.tuple = some r := q0
  clear q0
  cases e : seqOf d with
  | none => rw [e] at q; cases q
  | some ds =>
    rw [e] at q
    obtain rfl := Option.some.inj q
    obtain ⟨a, vs, e1, e2, e3, e4⟩ := v.seq s e
    refine ⟨a, vs, by rw [e1], ?_⟩
    rcases e2 with ⟨e2, _⟩ | ⟨e2, _⟩
    · exact .inl ⟨e2.sql, fun p hp => out.tup hp e4 e3 s⟩
    · exact .inr ⟨sqT_mono s e2, out.rp (.tup e2 e3 e4) rfl⟩
theorem lst_of {d : D} {ds : List D} (e : lstOf d = some ds) : d = .list ds := by
  cases d <;> first | cases e; done | skip
  obtain rfl := Option.some.inj e
  rfl
theorem sv_sum (h : OpW K .sum [x] H Q) : rSum K [x] H Q := by
  obtain ⟨F, d, r, s, v, q0, out⟩ := h.one
  have q : ((lstOf d).bind fun xs => (ints? xs).map fun ns => PyData.int ns.sum) = some r := q0
  clear q0
  cases e : lstOf d with
  | none => rw [e] at q; cases q
  | some ds =>
    rw [e] at q
    have e0 := lst_of e
    subst e0
    cases e2 : ints? ds with
    | none => simp only [Option.bind_some, e2] at q; cases q
    | some ns =>
      simp only [Option.bind_some, e2] at q
      obtain rfl := Option.some.inj q
      have e3 := ints_of e2
      subst e3
      obtain ⟨a, vs, e1, e2, e3, e4⟩ := v.lst s
      rw [rpl_ints e4] at e2
      exact ⟨a, ns, by rw [e1], e2.sql, out.rp (.int _) rfl⟩
theorem sv_all (h : OpW K .all [x] H Q) : rAll K [x] H Q := by
  obtain ⟨F, d, r, s, v, q0, out⟩ := h.one
  have q : ((lstOf d).bind fun xs => (bools? xs).map fun ns => PyData.bool (ns.all id)) = some r := q0
  clear q0
  cases e : lstOf d with
  | none => rw [e] at q; cases q
  | some ds =>
    rw [e] at q
    have e0 := lst_of e
    subst e0
    cases e2 : bools? ds with
    | none => simp only [Option.bind_some, e2] at q; cases q
    | some ns =>
      simp only [Option.bind_some, e2] at q
      obtain rfl := Option.some.inj q
      have e3 := bools_of e2
      subst e3
      obtain ⟨a, vs, e1, e2, e3, e4⟩ := v.lst s
      rw [rpl_bools e4] at e2
      exact ⟨a, ns, by rw [e1], e2.sql, out.rp (.bl _) rfl⟩
theorem sv_any (h : OpW K .any [x] H Q) : rAny K [x] H Q := by
  obtain ⟨F, d, r, s, v, q0, out⟩ := h.one
  have q : ((lstOf d).bind fun xs => (bools? xs).map fun ns => PyData.bool (ns.any id)) = some r := q0
  clear q0
  cases e : lstOf d with
  | none => rw [e] at q; cases q
  | some ds =>
    rw [e] at q
    have e0 := lst_of e
    subst e0
    cases e2 : bools? ds with
    | none => simp only [Option.bind_some, e2] at q; cases q
    | some ns =>
      simp only [Option.bind_some, e2] at q
      obtain rfl := Option.some.inj q
      have e3 := bools_of e2
      subst e3
      obtain ⟨a, vs, e1, e2, e3, e4⟩ := v.lst s
      rw [rpl_bools e4] at e2
      exact ⟨a, ns, by rw [e1], e2.sql, out.rp (.bl _) rfl⟩
/-! order of ints -/
theorem insI_perm (x : Int) : ∀ ys : List Int, (insI x ys).Perm (x :: ys)
  | [] => List.Perm.refl _
  | y :: ys => by
    unfold insI
    split
    · exact ((insI_perm x ys).cons y).trans (List.Perm.swap x y ys)
    · exact List.Perm.refl _
theorem insI_mem {x z : Int} {ys : List Int} : z ∈ insI x ys ↔ z = x ∨ z ∈ ys := by rw [(insI_perm x ys).mem_iff, List.mem_cons]
theorem insI_sorted (x : Int) : ∀ ys : List Int, ys.Pairwise (· ≤ ·) → (insI x ys).Pairwise (· ≤ ·)
  | [], _ => by simp [insI]
  | y :: ys, h => by
    unfold insI
    obtain ⟨h1, h2⟩ := List.pairwise_cons.mp h
    split
    · rename_i hlt
      refine List.pairwise_cons.mpr ⟨fun z hz => ?_, insI_sorted x ys h2⟩
      rcases insI_mem.mp hz with e | hz
      · omega
      · exact h1 z hz
    · rename_i hlt
      refine List.pairwise_cons.mpr ⟨fun z hz => ?_, h⟩
      rcases List.mem_cons.mp hz with e | hz
      · omega
      · have := h1 z hz; omega
theorem isort_perm : ∀ ns : List Int, (isort ns).Perm ns
  | [] => List.Perm.refl _
  | x :: xs => (insI_perm x (isort xs)).trans ((isort_perm xs).cons x)
theorem isort_sorted : ∀ ns : List Int, (isort ns).Pairwise (· ≤ ·)
  | [] => .nil
  | x :: xs => insI_sorted x _ (isort_sorted xs)
theorem sorted_uniq : ∀ {a b : List Int}, a.Pairwise (· ≤ ·) → b.Pairwise (· ≤ ·) → a.Perm b → a = b
  | [], b, _, _, p => (List.Perm.eq_nil p.symm).symm
  | x :: a, [], _, _, p => absurd p.length_eq (by simp)
  | x :: a, y :: b, ha, hb, p => by
    obtain ⟨a1, a2⟩ := List.pairwise_cons.mp ha
    obtain ⟨b1, b2⟩ := List.pairwise_cons.mp hb
    have e : x = y := by
      have h1 : x ≤ y := by
        rcases List.mem_cons.mp (p.mem_iff.mpr (List.mem_cons_self (a := y) (l := b))) with e | h
        · omega
        · exact a1 y h
      have h2 : y ≤ x := by
        rcases List.mem_cons.mp (p.mem_iff.mp (List.mem_cons_self (a := x) (l := a))) with e | h
        · omega
        · exact b1 x h
      omega
    subst e
    rw [sorted_uniq a2 b2 p.cons_inv]
theorem sv_sorted (h : OpW K .sorted [x] H Q) : rSortedI K [x] H Q := by
  obtain ⟨F, d, r, s, v, q0, out⟩ := h.one
  have q : ((lstOf d).bind fun xs => (sSorted xs).map PyData.list) = some r := q0
  clear q0
  cases e : lstOf d with
  | none => rw [e] at q; cases q
  | some ds =>
    rw [e] at q
    have e0 := lst_of e
    subst e0
    simp only [Option.bind_some, sSorted] at q
    cases e2 : ints? ds with
    | none => rw [e2] at q; cases q
    | some ns =>
      rw [e2] at q
      obtain rfl := Option.some.inj q
      have e3 := ints_of e2
      subst e3
      obtain ⟨a, vs, e1, e2, e3, e4⟩ := v.lst s
      rw [rpl_ints e4] at e2 e3
      refine ⟨a, ns, by rw [e1], e2.sql, fun ns' p hp hs hn => ?_⟩
      have e5 : ns' = isort ns := sorted_uniq hs (isort_sorted ns) (hp.trans (isort_perm ns).symm)
      subst e5
      refine Out.lst out hn ints_rpl ?_
      rw [List.length_map, (isort_perm ns).length_eq]
      rw [List.length_map] at e3
      exact e3
theorem foldmax (xs : List Int) : ∀ x : Int, (xs.foldl (fun m y => if y > m then y else m) x ∈ x :: xs) ∧ ∀ y ∈ x :: xs, y ≤ xs.foldl (fun m y => if y > m then y else m) x := by
  induction xs with
  | nil => intro x; simp
  | cons z xs ih =>
    intro x
    simp only [List.foldl_cons]
    obtain ⟨h1, h2⟩ := ih (if z > x then z else x)
    refine ⟨?_, fun y hy => ?_⟩
    · rcases List.mem_cons.mp h1 with e | h
      · rw [e]; split <;> simp
      · exact List.mem_cons_of_mem _ (List.mem_cons_of_mem _ h)
    · have h3 := h2 _ List.mem_cons_self
      rcases List.mem_cons.mp hy with e | hy
      · subst e; refine Int.le_trans ?_ h3; split <;> omega
      · rcases List.mem_cons.mp hy with e | hy
        · subst e; refine Int.le_trans ?_ h3; split <;> omega
        · exact h2 y (List.mem_cons_of_mem _ hy)
theorem foldmin (xs : List Int) : ∀ x : Int, (xs.foldl (fun m y => if y < m then y else m) x ∈ x :: xs) ∧ ∀ y ∈ x :: xs, xs.foldl (fun m y => if y < m then y else m) x ≤ y := by
  induction xs with
  | nil => intro x; simp
  | cons z xs ih =>
    intro x
    simp only [List.foldl_cons]
    obtain ⟨h1, h2⟩ := ih (if z < x then z else x)
    refine ⟨?_, fun y hy => ?_⟩
    · rcases List.mem_cons.mp h1 with e | h
      · rw [e]; split <;> simp
      · exact List.mem_cons_of_mem _ (List.mem_cons_of_mem _ h)
    · have h3 := h2 _ List.mem_cons_self
      rcases List.mem_cons.mp hy with e | hy
      · subst e; refine Int.le_trans h3 ?_; split <;> omega
      · rcases List.mem_cons.mp hy with e | hy
        · subst e; refine Int.le_trans h3 ?_; split <;> omega
        · exact h2 y (List.mem_cons_of_mem _ hy)
theorem sv_max (h : OpW K .max [x] H Q) : rMax K [x] H Q := by
  obtain ⟨F, d, r, s, v, q0, out⟩ := h.one
  have q : ((lstOf d).bind sMax) = some r := q0
  clear q0
  cases e : lstOf d with
  | none => rw [e] at q; cases q
  | some ds =>
    rw [e] at q
    have e0 := lst_of e
    subst e0
    simp only [Option.bind_some, sMax] at q
    cases e2 : ints? ds with
    | none => rw [e2] at q; cases q
    | some ns =>
      rw [e2] at q
      have e3 := ints_of e2
      subst e3
      cases ns with
      | nil => cases q
      | cons n ns =>
        obtain rfl := Option.some.inj q
        obtain ⟨a, vs, e1, e2, e3, e4⟩ := v.lst s
        rw [rpl_ints e4] at e2
        refine ⟨a, n :: ns, by rw [e1], e2.sql, by simp, fun m h1 h2 => ?_⟩
        obtain ⟨g1, g2⟩ := foldmax ns n
        have e5 : m = ns.foldl (fun m y => if y > m then y else m) n := by
          have := h2 _ g1
          have := g2 m h1
          omega
        subst e5
        exact out.rp (.int _) rfl
theorem sv_min (h : OpW K .min [x] H Q) : rMin K [x] H Q := by
  obtain ⟨F, d, r, s, v, q0, out⟩ := h.one
  have q : ((lstOf d).bind sMin) = some r := q0
  clear q0
  cases e : lstOf d with
  | none => rw [e] at q; cases q
  | some ds =>
    rw [e] at q
    have e0 := lst_of e
    subst e0
    simp only [Option.bind_some, sMin] at q
    cases e2 : ints? ds with
    | none => rw [e2] at q; cases q
    | some ns =>
      rw [e2] at q
      have e3 := ints_of e2
      subst e3
      cases ns with
      | nil => cases q
      | cons n ns =>
        obtain rfl := Option.some.inj q
        obtain ⟨a, vs, e1, e2, e3, e4⟩ := v.lst s
        rw [rpl_ints e4] at e2
        refine ⟨a, n :: ns, by rw [e1], e2.sql, by simp, fun m h1 h2 => ?_⟩
        obtain ⟨g1, g2⟩ := foldmin ns n
        have e5 : m = ns.foldl (fun m y => if y < m then y else m) n := by
          have := h2 _ g1
          have := g2 m h1
          omega
        subst e5
        exact out.rp (.int _) rfl
/-! isinstance -/
def tyN : Ty → String
  | .int => "int" | .bool => "bool" | .str => "str" | .list => "list" | .tuple => "tuple"
def kindN : D → String
  | .none => "NoneType" | .bool _ => "bool" | .int _ => "int" | .str _ => "str" | .list _ => "list" | .tuple _ => "tuple" | .dict _ => "dict"
def isTyK : Ty → String → Bool
  | .int, k => k == "int" || k == "bool"
  | .bool, k => k == "bool"
  | .str, k => k == "str"
  | .list, k => k == "list"
  | .tuple, k => k == "tuple"
theorem kit_table : ["NoneType", "bool", "int", "str", "list", "tuple", "dict"].all (fun k => [Ty.int, .bool, .str, .list, .tuple].all fun t => decide (kitB k (tyN t) = some (isTyK t k))) = true := by decide +kernel
theorem isTy_k (t : Ty) (d : D) : isTy t d = isTyK t (kindN d) := by cases d <;> cases t <;> rfl
theorem kind_mem (d : D) : kindN d ∈ ["NoneType", "bool", "int", "str", "list", "tuple", "dict"] := by cases d <;> simp [kindN]
theorem ty_mem (t : Ty) : t ∈ [Ty.int, .bool, .str, .list, .tuple] := by cases t <;> simp
theorem kit_d (K : PySem.W.Frag) (d : D) (t : Ty) : PySem.W.kitOne K (.type (kindN d)) (.type (tyN t)) = some (isTy t d) := by
  rw [isTy_k]
  exact kit_ty (of_decide_eq_true (List.all_eq_true.mp (List.all_eq_true.mp kit_table _ (kind_mem d)) _ (ty_mem t)))
theorem tyX_of {d : D} (s : Same F H) (v : View K F H x d) : TyX K H x (.type (kindN d)) := by
  cases d with
  | none => rw [v.none]; exact .base .non
  | bool b => rw [v.bool]; exact .base (.bl b)
  | int i => rw [v.int]; exact .base (.int i)
  | str t => rw [v.str.1]; exact .base (.str t)
  | list xs =>
    obtain ⟨a, vs, e1, e2, e3, e4⟩ := v.lst s
    rw [e1]
    rcases e2 with (e2 | ⟨o, e2⟩) | ⟨its, n, hk, _⟩
    · exact .base (.lst e2)
    · exact .base (.frz e2)
    · exact .kList hk rfl
  | tuple xs =>
    obtain ⟨a, vs, e1, e2, e3, e4⟩ := v.tup
    rw [e1]
    rcases sqT_mono s e2 with (e2 | ⟨o, e2⟩) | ⟨o, its, n, hk, hc, _⟩
    · exact .base (.tup e2)
    · exact .fTuple e2
    · exact .kTuple hk hc
  | dict _ => exact v.dict.elim
theorem kitAny_d (K : PySem.W.Frag) (d : D) : ∀ ts : List Ty, PySem.W.kitAny K (.type (kindN d)) (ts.map fun t => Value.type (tyN t)) = some (ts.any fun t => isTy t d)
  | [] => kitAny_nil
  | t :: ts => by
    refine kitAny_cons (kit_d K d t) (fun hb => ?_) fun hb => ?_
    · rw [List.any_cons, hb, Bool.false_or]
      exact kitAny_d K d ts
    · rw [List.any_cons, hb, Bool.true_or]
theorem sv_isi1 {t : Ty} (h : OpW K (.isi [t]) [x] H Q) : rIsi K [x, .ty (tyN t)] H Q := by
  obtain ⟨F, d, r, s, v, q0, out⟩ := h.one
  obtain rfl := Option.some.inj q0
  refine ⟨x, _, _, _, isTy t d, rfl, .ty _, tyX_of s v, kit_d K d t, ?_⟩
  have e : ([t].any fun t => isTy t d) = isTy t d := by simp
  rw [e] at out
  exact out.rp (.bl _) rfl
theorem paired_ty : ∀ ts : List Ty, Paired ClsV (ts.map fun t => V.ty (tyN t)) (ts.map fun t => Value.type (tyN t))
  | [] => .nil
  | t :: ts => .cons (.ty _) (paired_ty ts)
theorem sv_isiT {ts : List Ty} (h : OpW K (.isi ts) [x] H Q) {p : Addr} (hp : H p = none) : rIsiT K [x, .ref p] (upd H p (.tup (ts.map fun t => V.ty (tyN t)))) Q := by
  obtain ⟨F, d, r, s, v, q0, out⟩ := h.one
  obtain rfl := Option.some.inj q0
  exact ⟨x, p, _, _, _, ts.any fun t => isTy t d, rfl, upd_same, paired_ty ts, tyX_of (s.trans (same_upd hp)) (v.same (same_upd hp)), kitAny_d K d ts, (out.junk hp).rp (.bl _) rfl⟩
end
end PL
end

section
set_option maxRecDepth 100000
set_option maxHeartbeats 3200000
/-! PlOps3: sets of ints made of lists and of tuples; rows turned about; ranges as lists. -/
namespace PL
open PySem PySem.Spec PyProof.Rows L2
abbrev newSetO (w : World) : Obj := { cls := .type "set", dict := none, data := .set #[] 0 (.fresh 0 0 (!w.params.followText "set-order")) }
section
variable {P : Program} {w : World} {A : Around} {E : Value → Shared → Prop} {s : Shared}
theorem call_set_lstI {l : Addr} {its : Array Value} (ns : List Int) {Q : Value → Shared → Prop} (hh : A.handled = none) (hl : s.heap.IsList l its) (hit : IntsAre its.toList ns) (hb : ns.length + 1 < scanBound)
    (h : ∀ (h' : Heap) (tk c : Nat), SetR w h' s.heap.objs.size (fun j => decide (j ∈ ns)) c → (∀ b o, s.heap.get? b = some o → h'.get? b = some o) → Q (.ref s.heap.objs.size) { s with heap := h', toks := tk }) :
    wpAny (model P w) A (call (.type "set") [.ref l]) Q E s := by
  have hsz : its.size = ns.length := (Array.length_toList (xs := its)).symm.trans (IntsAre.length hit)
  obtain ⟨c, tl, f0⟩ := F.called_set.mro
  have f1 := F.called_set.made
  have f2 := F.called_set.sub
  refine wpAny_call (codeAny_of_tree (?_ : wpAny _ _ (callAny (.type "set") _) _ _ _))
  refine wpAny_pure ⟨Code.quiet_builtin _ (by decide +kernel), codeAny_builtin F.entry_type_call ?_⟩
  rw [Around.under_plain (weight_type_call_type "set" [.ref l] []) rfl]
  have f3 := F.called_set.notType
  have f4 := F.called_set.canCreate
  have f5 := F.typeCall_set_1 (.ref l)
  repeat (any_goals (first | assumption | wp_step))
  refine codeAny_mono (code_set_led1 (.ref l) (E := E) (Q₁ := fun obj s1 => obj = .ref s.heap.objs.size ∧ s1 = { s with heap := s.heap.push (newSetO w) }) ⟨rfl, rfl⟩) fun r s1 hr => ?_
  cases r with
  | error e => exact hr
  | ok fl =>
    cases fl with
    | next => exact hr.elim
    | brk => exact hr.elim
    | cont => exact hr.elim
    | ret obj =>
      obtain ⟨rfl, rfl⟩ := hr
      have hS : (s.heap.push (newSetO w)).get? s.heap.objs.size = some (newSetO w) := Heap.get?_push_size _ rfl
      have hT : Shared.TypeIs { s with heap := s.heap.push (newSetO w) } (.ref s.heap.objs.size) "set" := ⟨_, hS, rfl⟩
      have f6 := F.called_set.init.lookup
      have f7 := F.called_set.init.bind (.ref s.heap.objs.size)
      repeat (any_goals (first | assumption | wp_step))
      refine codeAny_mono (codeAny_call_builtin (R := wants (fun r s2 => r = .none ∧ ∃ h' tk c, s2 = { s with heap := h', toks := tk } ∧ SetR w h' s.heap.objs.size (fun j => decide (j ∈ ns)) c ∧ (∀ b o, s.heap.get? b = some o → h'.get? b = some o)) E)
        F.called_set.init.plain F.entry_set_init (check_set_init_1 hT ?_)) fun r2 s2 hr2 => ?_
      · obtain ⟨ol, hol, hcl, nl, hdl⟩ := hl
        obtain ⟨ocls, odict, odata, oslots⟩ := ol
        dsimp only at hcl hdl
        subst hcl hdl
        have hol' : (s.heap.push (newSetO w)).get? l = some { cls := .type "list", dict := odict, data := .seq its nl, slots := oslots } := Heap.get?_push_of_some _ hol
        have g1 := F.sub_list_set
        have g2 := F.sub_list_frozenset
        have g3 : (Value.type "list" == Value.type "dict") = false := by decide
        have hl1 : (s.heap.push (newSetO w)).IsList l its := ⟨_, hol', rfl, nl, rfl⟩
        unfold Builtin.«set.__init__» noKeywords Builtin.Frozenset.updateFrom
        generalize hPI : pyIter = PI
        wp_walk
        subst hPI
        refine wpAny_pyIter_list hl1 (wpAny_bind (wpAny_runValue ?_))
        have lt : l < s.heap.objs.size := Heap.lt_size hol
        have z1 : (s.heap.push (newSetO w)).objs.size = s.heap.objs.size + 1 := Heap.size_push ..
        have n1 : l ≠ (s.heap.push (newSetO w)).objs.size := by rw [z1]; exact Nat.ne_of_lt (Nat.lt_succ_of_lt lt)
        have n2 : s.heap.objs.size ∉ [(s.heap.push (newSetO w)).objs.size, l] := by
          rw [z1]
          simp only [List.mem_cons, List.not_mem_nil, or_false, not_or]
          exact ⟨Nat.ne_of_lt (Nat.lt_succ_self _), Nat.ne_of_gt lt⟩
        have vals : ∀ (i : Nat) (v : Value), its[i]? = some v → ∃ k t, ns[i]? = some k ∧ v = .int k t := fun i v hv => by
          have hi : i < ns.length := hsz ▸ (Array.getElem?_eq_some_iff.mp hv).1
          obtain ⟨t, e⟩ := IntsAre.int_at hit i v (by rw [Array.getElem?_toList]; exact hv)
          exact ⟨ns[i], t, List.getElem?_eq_getElem hi, by rw [e, List.getD_eq_getElem?_getD, List.getElem?_eq_getElem hi] <;> rfl⟩
        refine set_update_ints ((Walks.list (by simp [hh]) _ l n1 its).toS) s.heap.objs.size n2 ns hsz hb vals (its.size - 0) 0 _ (by omega) (Nat.zero_le _) ⟨⟨_, Heap.get?_push_size _ rfl, rfl, rfl⟩, (hl1.push _)⟩ ⟨0, Nat.le_refl 0, setR_new_at (Heap.get?_push_of_some _ hS)⟩ ?_
        intro s' c' hm hc' hS'
        obtain ⟨h', ge, de, te, oe⟩ := s'
        have eg : ge = s.gens := hm.gens
        have ed : de = s.drawn := hm.drawn
        have eo : oe = s.os := hm.os
        subst eg ed eo
        refine (?_ : wpAny _ _ _ _ _ _)
        refine wpAny_pure (?_ : wpAny _ _ (ret Value.none) _ _ _)
        refine wpAny_pure ⟨rfl, h', te, c', rfl, hS', fun b o e => ?_⟩
        have b0 : b < s.heap.objs.size := Heap.lt_size e
        refine hm.heap b o ?_ (Heap.get?_push_of_some _ (Heap.get?_push_of_some _ e))
        rw [z1]
        simp only [List.mem_cons, List.not_mem_nil, or_false, not_or]
        exact ⟨Nat.ne_of_lt b0, Nat.ne_of_lt (Nat.lt_succ_of_lt b0)⟩
      · cases r2 with
        | error e => exact hr2
        | ok fl2 =>
          cases fl2 with
          | ret r =>
            obtain ⟨rfl, h', tk, c', rfl, hS', hk'⟩ := hr2
            repeat (any_goals (first | assumption | wp_step))
            exact h _ _ _ hS' hk'
          | _ => exact hr2.elim
end
variable {X : Cx} {K : PySem.W.Frag} {F H : Hp}
/-- set(row of ints) -/
def rSetI (K : PySem.W.Frag) (w : World) : List V → Hp → VK → Prop := fun xs H Q => ∃ (l : Addr) (ns : List Int), xs = [.ref l] ∧ (SqL K H l (ns.map V.int) ∨ SqT K H l (ns.map V.int)) ∧ ns.length ≤ 4000 ∧ ∀ (p : Addr) (c : Nat), H p = none → (∀ ks : List Int, ks.Nodup → (∀ k, k ∈ ks ↔ k ∈ ns) → ks.length = c) → Q (.ref p) (upd H p (SetO w p (fun k => decide (k ∈ ns)) c))
theorem set_count {w : World} {h : Heap} {a : Addr} {ns : List Int} {c : Nat} (R : SetR w h a (fun j => decide (j ∈ ns)) c) : ∀ ks : List Int, ks.Nodup → (∀ k, k ∈ ks ↔ k ∈ ns) → ks.length = c := fun ks nd m => by
  obtain ⟨o, es, ep, t, ho, hex, hdt, g, nd2, hm2, hb, hf, hn, hr, hl2⟩ := R
  have p : ks.Perm (es.toList.map keyOf) := (List.perm_ext_iff_of_nodup nd nd2).mpr fun k => by rw [m k, ← hm2 k, decide_eq_true_eq]
  rw [p.length_eq, List.length_map, Array.length_toList, hn]
theorem cr_setI (hc : X.calm = true) : CallR X (.type "set") (rSetI X.K X.w) := by
  intro pins s σ H xs us Q I r h
  obtain ⟨l, ns, rfl, hq, hn, q⟩ := h
  have hd := I.ok.hd hc
  have ke : ns.length + 1 < scanBound := by unfold scanBound; omega
  cases r with
  | cons r rr =>
    cases rr
    cases r
    rcases hq with hq | hq
    · obtain ⟨its, rv, pl, hz⟩ := I.list hq
      refine call_set_lstI ns hd pl.isList (by simpa using rv.ints) ke fun h' tk c R k => ?_
      exact ⟨.ref _, _, I.laid (t' := tk) k (Nat.le_refl _) (setO_new R), rfl, q _ c (I.hok.fresh (Nat.le_refl _)) (set_count R)⟩
    · obtain ⟨its, rv, pt, hz⟩ := I.tuple hq
      have hi : IntsAre its.toArray.toList ns := ints_of_vals rv
      refine call_set_tupI ns hd (show s.heap.IsTuple l its.toArray from pt) hi ke fun h' tk c R hcn k => ?_
      exact ⟨.ref _, _, I.laid (t' := tk) k (Nat.le_refl _) (setO_new R), rfl, q _ c (I.hok.fresh (Nat.le_refl _)) (set_count R)⟩
theorem insU_mem {x : Int} : ∀ {l : List Int} {k : Int}, k ∈ insU x l ↔ k = x ∨ k ∈ l
  | [], k => by simp [insU]
  | y :: ys, k => by
    unfold insU
    split
    · rw [List.mem_cons, insU_mem, List.mem_cons]
      exact ⟨fun h => h.elim (fun h => .inr (.inl h)) (fun h => h.elim .inl fun h => .inr (.inr h)), fun h => h.elim (fun h => .inr (.inl h)) fun h => h.elim .inl fun h => .inr (.inr h)⟩
    · split
      · rename_i e
        subst e
        rw [List.mem_cons]
        exact ⟨fun h => .inr h, fun h => h.elim .inl id⟩
      · rw [List.mem_cons]
theorem usort_mem : ∀ {l : List Int} {k : Int}, k ∈ usort l ↔ k ∈ l
  | [], _ => Iff.rfl
  | x :: xs, k => by
    show k ∈ insU x (usort xs) ↔ _
    rw [insU_mem, usort_mem, List.mem_cons]
theorem insU_lt {x : Int} : ∀ {l : List Int}, l.Pairwise (· < ·) → (insU x l).Pairwise (· < ·)
  | [], _ => List.pairwise_singleton _ _
  | y :: ys, h => by
    unfold insU
    have h' := List.pairwise_cons.mp h
    split
    · rename_i lt
      refine List.pairwise_cons.mpr ⟨fun k hk => ?_, insU_lt h'.2⟩
      rcases insU_mem.mp hk with e | hk
      · rw [e]; exact lt
      · exact h'.1 k hk
    · split
      · exact h
      · refine List.pairwise_cons.mpr ⟨fun k hk => ?_, h⟩
        rcases List.mem_cons.mp hk with e | hk
        · rw [e]; omega
        · have := h'.1 k hk
          omega
theorem usort_lt : ∀ (l : List Int), (usort l).Pairwise (· < ·)
  | [] => .nil
  | x :: xs => insU_lt (usort_lt xs)
theorem lt_nodup {l : List Int} (h : l.Pairwise (· < ·)) : l.Nodup := h.imp fun h e => by omega
theorem lt_uniq {a b : List Int} (ha : a.Pairwise (· < ·)) (hb : b.Pairwise (· < ·)) (m : ∀ k, k ∈ a ↔ k ∈ b) : a = b :=
  sorted_uniq (ha.imp fun h => by omega) (hb.imp fun h => by omega) ((List.perm_ext_iff_of_nodup (lt_nodup ha) (lt_nodup hb)).mpr m)
theorem usort_of {ds : List D} {us : List D} (h : sUsort ds = some us) : ∃ ns : List Int, ds = ns.map .int ∧ us = (usort ns).map .int ∧ ns.length ≤ 4000 ∧ (usort ns).length < 64 := by
  unfold sUsort at h
  cases e : ints? ds with
  | none => rw [e] at h; cases h
  | some ns =>
    rw [e] at h
    dsimp only at h
    split at h
    · rename_i c
      rw [Bool.and_eq_true, decide_eq_true_eq, decide_eq_true_eq] at c
      cases h
      exact ⟨ns, ints_of e, rfl, c.1, c.2⟩
    · cases h
variable {x : V} {Q : VK} {w : World}
theorem rpl_of_ints {ns : List Int} : RpL K F (ns.map .int) (ns.map .int) := by
  induction ns with
  | nil => exact .nil
  | cons n ns ih => exact .cons (.int n) ih
/-- a new object that is none of the data -/
theorem Ok.side {A : List Addr} {I : List It} {p : Addr} {o : HO} (h : Ok K F H A I) (hp : H p = none) : Ok K F (upd H p o) A I := (h.alloc hp).dropA
theorem sv_sortedSet (h : OpW K .sortedSet [x] H Q) : rSetI K w [x] H fun v H2 => rSortedSet w [v] H2 Q := by
  obtain ⟨F, d, r, s, v, q0, out⟩ := h.one
  have q : ((seqOf d).bind fun xs => (sUsort xs).map PyData.list) = some r := q0
  clear q0
  cases e : seqOf d with
  | none => rw [e] at q; cases q
  | some ds =>
    rw [e] at q
    cases e2 : sUsort ds with
    | none => simp only [Option.bind_some, e2] at q; cases q
    | some us =>
      simp only [Option.bind_some, e2] at q
      obtain rfl := Option.some.inj q
      obtain ⟨ns, e3, e4, h1, h2⟩ := usort_of e2
      subst e3 e4
      obtain ⟨a, vs, f1, f2, f3, f4⟩ := v.seq s e
      have ev := rpl_ints f4
      subst ev
      refine ⟨a, ns, by rw [f1], seq_or s f2, h1, fun p c hp hc => ⟨p, _, c, rfl, upd_same, ?_, fun ns' p2 hs hm hl hn => ?_⟩⟩
      · rw [← hc (usort ns) (lt_nodup (usort_lt ns)) fun k => usort_mem]
        exact h2
      · have en : ns' = usort ns := lt_uniq hs (usort_lt ns) fun k => by rw [hm k, usort_mem, decide_eq_true_eq]
        subst en
        have hz : ((usort ns).map V.int).length ≤ sizeLine := by rw [List.length_map, sizeLine_eq]; omega
        exact out F _ _ (Same.refl F) fun A I ok => Ok.cls (kids_add rpl_of_ints ((ok.side hp).alloc hn)) upd_same hz (by rw [List.length_map, List.length_map])
def rLenSet (w : World) : List V → Hp → VK → Prop := fun vs H Q => ∃ (a : Addr) (S : Int → Bool) (n : Nat), vs = [V.ref a] ∧ H a = some (SetO w a S n) ∧ Q (.int n) H
theorem cr_lenSet : CallR X (.builtin "len") (rLenSet X.w) := by
  intro pins s σ H vs us Q I r h
  obtain ⟨a, S, n, rfl, ha, q⟩ := h
  obtain ⟨o, es, ep, t, ho, hex, hdt, g, nd2, hm2, hb, hf, hn, hr, hl2⟩ := setO_get I ha
  rw [Vals.ref1 r]
  refine call_len_set ho hex hdt hf (by unfold scanBound at hb; omega) ⟨.int n, H, I.tok _, ⟨_, by rw [hn]⟩, q⟩
theorem sv_lenSet (h : OpW K .lenSet [x] H Q) : rSetI K w [x] H fun v H2 => rLenSet w [v] H2 Q := by
  obtain ⟨F, d, r, s, v, q0, out⟩ := h.one
  have q : ((seqOf d).bind fun xs => (sUsort xs).map fun ys => PyData.int ys.length) = some r := q0
  clear q0
  cases e : seqOf d with
  | none => rw [e] at q; cases q
  | some ds =>
    rw [e] at q
    cases e2 : sUsort ds with
    | none => simp only [Option.bind_some, e2] at q; cases q
    | some us =>
      simp only [Option.bind_some, e2] at q
      obtain rfl := Option.some.inj q
      obtain ⟨ns, e3, e4, h1, h2⟩ := usort_of e2
      subst e3 e4
      obtain ⟨a, vs, f1, f2, f3, f4⟩ := v.seq s e
      have ev := rpl_ints f4
      subst ev
      refine ⟨a, ns, by rw [f1], seq_or s f2, h1, fun p c hp hc => ⟨p, _, c, rfl, upd_same, ?_⟩⟩
      have ec := hc (usort ns) (lt_nodup (usort_lt ns)) fun k => usort_mem
      have out : Out K F H (opK .lenSet) (.int (c : Int)) Q := by
        have e5 : ((usort ns).map PyData.int).length = c := by rw [List.length_map, ec]
        rw [← e5]
        exact out
      exact out F _ _ (Same.refl F) fun A I ok => (ok.side hp).addFlat _ (.int _) rfl
/-! ### x[::-1] -/
section
variable {prog : Program} {w : World} {A : Around} {E : Value → Shared → Prop} {s : Shared}
theorem adjust_rev (n : Nat) : Builtin.Slice.sliceAdjust none none (-1) (n : Int) = ((n : Int) - 1, -1) := by
  first
    | rfl
    | simp [Builtin.Slice.sliceAdjust]
theorem places_rev (n : Nat) : Builtin.Slice.slicePlaces ((n : Int) - 1) (-1) (-1) = n := by
  unfold Builtin.Slice.slicePlaces
  simp
  omega
theorem fm_congr {α β : Type} {f g : α → Option β} : ∀ {l : List α}, (∀ m ∈ l, f m = g m) → l.filterMap f = l.filterMap g
  | [], _ => rfl
  | a :: l, h => by
    have e := h a List.mem_cons_self
    have r := fm_congr (l := l) fun m hm => h m (List.mem_cons_of_mem _ hm)
    simp only [List.filterMap_cons, e, r]
theorem pick_rev (xs : Array Value) : ((List.range xs.size).filterMap fun (m : Nat) => xs[(((xs.size : Int) - 1) + (m : Int) * (-1)).toNat]?).toArray = xs.toList.reverse.toArray := by
  have h := PySem.W.krv_pick xs
  unfold slicePick at h
  rw [PySem.W.krv_bounds] at h
  have h : ((sliceRange ((xs.size : Int) - 1) (-1) (-1)).filterMap (xs[·]?)).toArray = xs.toList.reverse.toArray := h
  rw [← h, PySem.W.krv_sliceRange, List.filterMap_map]
  congr 1
  refine fm_congr fun m hm => ?_
  have hm := List.mem_range.mp hm
  have e : (((xs.size : Int) - 1) + (m : Int) * (-1)).toNat = xs.size - 1 - m := by omega
  rw [e]
  rfl
theorem getItem_tup_rev {t sl : Addr} {items : Array Value} {vs : Value} {Q : Value → Shared → Prop} (ht : IsTup s.heap t items) (hs : s.heap.IsSliceOf sl .none .none vs) (ps : IsPart vs (some (-1)))
    (h : Q (.ref s.heap.objs.size) { s with heap := s.heap.push { cls := .type "tuple", data := .seq items.toList.reverse.toArray } }) (hsz : items.size ≤ sizeLine) : wpAny (model prog w) A (getItem (.ref t) (.ref sl)) Q E s := by
  have zok : sizeOk (.seq items.toList.reverse.toArray) := by
    show items.toList.reverse.toArray.size ≤ sizeLine
    rw [List.size_toArray, List.length_reverse, Array.length_toList]
    exact hsz
  obtain ⟨os, hos, hcs, hds⟩ := id hs
  have tys : s.TypeIs (.ref sl) "slice" := ⟨os, hos, hcs⟩
  unfold getItem
  try with_reducible refine wpAny_holding ?_
  first | refine wpAny_bind (wpAny_pure ?_) | skip
  refine wpAny_bind (wpAny_sequenceKey ht.typeIs (by decide) (wpAny_bind ?_))
  refine wpAny_callSpecial?_slot (name := Str.ofString "__getitem__") ht.typeIs PyProof.Rows.slot_tuple_getitem (wpAny_call_entry PyProof.Rows.slot_tuple_getitem ht.typeIs entry_tuple_getitem ?_ (args_tuple_getitem _ _))
  refine (?_ : wpAny _ _ (Builtin.Tuple.tupleItemsOf (.ref t) >>= _) _ _ s)
  refine wpAny_bind (PyProof.Rows.tupleItemsOf_ ht (wpAny_bind (wpAny_typeOf tys ?_)))
  rw [if_pos (by decide)]
  have app : ∀ {Q' : Int × Int × Nat → Shared → Prop} {E' : Value → Shared → Prop} {A' : Around}, Q' ((items.size : Int) - 1, -1, items.size) s → wpAny (model prog w) A' (Builtin.Slice.sliceApplied (.ref sl) (pure (items.size : Int))) Q' E' s := fun {Q' E' A'} q => by
    unfold Builtin.Slice.sliceApplied Builtin.Slice.sliceFields
    refine wpAny_bind (wpAny_bind (wpAny_field hos hds (x := .none) rfl (wpAny_bind (wpAny_field hos hds (x := .none) rfl (wpAny_bind (wpAny_field hos hds (x := vs) rfl (wpAny_pure ?_)))))))
    refine wpAny_bind (HT.slicePart_ ps ?_)
    refine (?_ : wpAny _ _ (if ((-1 : Int) == 0) = true then _ else _) _ _ s)
    rw [if_neg (by decide)]
    refine wpAny_bind (PyProof.Rows.slicePart_none (wpAny_bind (PyProof.Rows.slicePart_none (wpAny_bind (wpAny_pure ?_)))))
    refine (?_ : wpAny _ _ (match Builtin.Slice.sliceAdjust none none (-1) (items.size : Int) with | (lo, hi) => pure (lo, (-1 : Int), Builtin.Slice.slicePlaces lo hi (-1))) _ _ s)
    rw [adjust_rev]
    refine (?_ : wpAny _ _ (pure ((items.size : Int) - 1, (-1 : Int), Builtin.Slice.slicePlaces ((items.size : Int) - 1) (-1) (-1))) _ _ s)
    rw [places_rev]
    exact wpAny_pure q
  refine wpAny_bind (app ?_)
  refine (?_ : wpAny _ _ (if (((items.size : Int) - 1) == 0 && (-1 : Int) == 1 && items.size == items.size) = true then _ else _) _ _ s)
  rw [if_neg (by simp), pick_rev]
  first
    | exact wpAny_bind (m := Builtin.Tuple.tupleExact _) (wpAny_newObj_type (wpAny_pure ⟨_, rfl, wpAny_pure h⟩) zok)
    | exact wpAny_bind (m := Builtin.Tuple.tupleExact _) (wpAny_newObj_type (wpAny_bind (wpAny_pure (wpAny_pure ⟨_, rfl, wpAny_pure h⟩))) zok)
end
def tRevA (K : PySem.W.Frag) (te : TE) : TE := fun σ H Q => te σ H fun x H1 => ∃ a xs, x = .ref a ∧ ((SqL K H1 a xs ∧ ∀ p, H1 p = none → Q (.ref p) (upd H1 p (.lst xs.reverse))) ∨ (SqT K H1 a xs ∧ ∀ p, H1 p = none → Q (.ref p) (upd H1 p (.tup xs.reverse))))
theorem pe_revA {e : Expr} {te : TE} {k : Nat} {p1 p2 p3 pos : Pos} (he : PE X e te) : PE X (.Subscript e (.Slice none none (some (.UnaryOp .USub (.Constant (.int 1) k p1) p2)) p3) pos) (tRevA X.K te) := by
  refine ⟨fun pins s σ H Q I h => Subscript_ (thn (he.run pins s σ H _ I h) fun v s1 ⟨x, H1, I1, r1, a, xs, ex, q⟩ => ?_)⟩
  subst ex
  cases r1
  have step : PO X (some (.UnaryOp .USub (.Constant (.int 1) k p1) p2)) (tPart (tUn (rU fun i => .int (-i)) (tC (.int 1)))) := po_some (pe_un un_neg pe_int)
  refine wpAny_Slice (thn (po_none.run pins s1 σ H1 (fun o H2 => o = none ∧ H2 = H1) I1 ⟨rfl, rfl⟩) fun vl s2 ⟨l, H2, I2, pl, el, e2⟩ => ?_)
  subst el e2
  refine thn (po_none.run pins s2 σ H2 (fun o H3 => o = none ∧ H3 = H2) I2 ⟨rfl, rfl⟩) fun vu s3 ⟨u, H3, I3, pu, eu, e3⟩ => ?_
  subst eu e3
  refine thn (step.run pins s3 σ H3 (fun o H4 => o = some (-1) ∧ H4 = H3) I3 ⟨1, rfl, -1, rfl, rfl, rfl⟩) fun vs s4 ⟨o, H4, I4, ps, eo, e4⟩ => ?_
  subst eo e4
  have I5 : L2.Inv X pins σ H4 { s4 with heap := s4.heap.push { cls := .type "slice", data := .fields #[vl, vu, vs] } } := I4.kept (t' := s4.toks) fun b ob q => Heap.get?_push_of_some _ q
  refine (?_ : wpAny (model X.prog X.w) X.A (subscriptTail e (.Slice none none (some (.UnaryOp .USub (.Constant (.int 1) k p1) p2)) p3) (.ref a) (.ref s4.heap.objs.size)) (EP X pins σ Q) X.xe { s4 with heap := s4.heap.push { cls := .type "slice", data := .fields #[vl, vu, vs] } })
  rcases q with ⟨hx, q⟩ | ⟨hx, q⟩
  · obtain ⟨its, r, ht, hz⟩ := I5.list hx
    refine tail_any (ops := [.ref a, .ref s4.heap.objs.size]) ht.isList.typeIs (PySem.slot_list_getitem.lookup) ?_ (by with_unfolding_all rfl)
    refine wpAny_getItem_list_slice ht.isList (Heap.IsSliceOf.new _ vl vu vs) pl pu ps (by decide) ?_ (by rw [List.size_toArray, ← r.length]; exact hz)
    rw [PySem.W.krv_pick]
    refine ⟨.ref _, _, I5.laid (t' := s4.toks) (o := .lst xs.reverse) (fun b ob q => Heap.get?_push_of_some _ q) (Nat.le_refl _) ⟨?_, _, 0, r.reverse, Heap.get?_push_size _ rfl⟩, rfl, q _ (I5.hok.fresh (Nat.le_refl _))⟩
    rw [List.length_reverse]
    exact hz
  · obtain ⟨its, r, ht, hz⟩ := I5.tuple hx
    have hlen : its.toArray.size = xs.length := by rw [List.size_toArray]; exact r.length.symm
    have evl : vl = .none := by cases pl; rfl
    have evu : vu = .none := by cases pu; rfl
    subst evl evu
    refine tail_any (ops := [.ref a, .ref s4.heap.objs.size]) ht.typeIs (PyProof.Rows.slot_tuple_getitem.lookup) ?_ (by with_unfolding_all rfl)
    refine getItem_tup_rev ht (Heap.IsSliceOf.new _ .none .none vs) ps ?_ (by rw [hlen]; exact hz)
    refine ⟨.ref _, _, I5.laid (t' := s4.toks) (o := .tup xs.reverse) (fun b ob q => Heap.get?_push_of_some _ q) (Nat.le_refl _) ⟨?_, _, r.reverse, IsTup.new _ _⟩, rfl, q _ (I5.hok.fresh (Nat.le_refl _))⟩
    rw [List.length_reverse]
    exact hz
theorem sv_rev (h : OpW K .rev [x] H Q) : ∃ a xs, x = .ref a ∧ ((SqL K H a xs ∧ ∀ p, H p = none → Q (.ref p) (upd H p (.lst xs.reverse))) ∨ (SqT K H a xs ∧ ∀ p, H p = none → Q (.ref p) (upd H p (.tup xs.reverse)))) := by
  obtain ⟨F, d, r, s, v, q0, out⟩ := h.one
  have q : sRev d = some r := q0
  clear q0
  cases d with
  | list xs =>
    obtain rfl := Option.some.inj q
    obtain ⟨a, vs, e1, e2, e3, e4⟩ := v.lst s
    exact ⟨a, vs, e1, .inl ⟨e2.sql, fun p hp => Out.lst out hp e4.reverse (by rw [List.length_reverse]; exact e3)⟩⟩
  | tuple xs =>
    obtain rfl := Option.some.inj q
    obtain ⟨a, vs, e1, e2, e3, e4⟩ := v.tup
    exact ⟨a, vs, e1, .inr ⟨sqT_mono s e2, fun p hp => out.tup hp e4.reverse (by rw [List.length_reverse]; exact e3) s⟩⟩
  | _ => cases q
/-! ### ranges -/
theorem rpl_range (a b : Int) : RpL K F (rgV a b) (rangeD a b) := by
  unfold rgV rangeD
  induction List.range (b - a).toNat with
  | nil => exact .nil
  | cons n ns ih => exact .cons (.int _) ih
theorem rng1_of {d : D} {ds : List D} (h : rng1 d = some ds) : ∃ n, d = .int n ∧ ds = rangeD 0 n ∧ RgOk 0 n := by
  cases d with
  | int n =>
    have h : (if szOk n.toNat && decide (-(2 ^ 62) ≤ n) then some (rangeD 0 n) else none) = some ds := h
    split at h
    · rename_i c
      rw [Bool.and_eq_true, decide_eq_true_eq] at c
      have c1 : n.toNat ≤ maxLen := of_decide_eq_true c.1
      unfold maxLen at c1
      cases h
      exact ⟨n, rfl, rfl, by decide, by decide, c.2, by omega, by omega⟩
    · cases h
  | _ => cases h
theorem rng2_of {d e : D} {ds : List D} (h : rng2 d e = some ds) : ∃ a b, d = .int a ∧ e = .int b ∧ ds = rangeD a b ∧ RgOk a b := by
  cases d with
  | int a =>
    cases e with
    | int b =>
      have h : (if szOk (b - a).toNat && (decide (-(2 ^ 62) ≤ a) && decide (a < 2 ^ 62) && decide (-(2 ^ 62) ≤ b) && decide (b < 2 ^ 62)) then some (rangeD a b) else none) = some ds := h
      split at h
      · rename_i c
        simp only [Bool.and_eq_true, decide_eq_true_eq] at c
        have c1 : (b - a).toNat ≤ maxLen := of_decide_eq_true c.1
        unfold maxLen at c1
        cases h
        exact ⟨a, b, rfl, rfl, rfl, c.2.1.1.1, c.2.1.1.2, c.2.1.2, c.2.2, by omega⟩
      · cases h
    | _ => cases h
  | _ => cases h
theorem rg_len {a b : Int} (h : RgOk a b) : (rgV a b).length ≤ sizeLine := by
  rw [rgV_length, sizeLine_eq]
  obtain ⟨_, _, _, _, h⟩ := h
  omega
theorem sv_lrg1 (h : OpW K .listRange1 [x] H Q) : ∃ n, x = .int n ∧ RgOk 0 n ∧ ∀ q, H q = none → Q (.ref q) (upd H q (.lst (rgV 0 n))) := by
  obtain ⟨F, d, r, s, v, q0, out⟩ := h.one
  have q : (rng1 d).map PyData.list = some r := q0
  cases e : rng1 d with
  | none => rw [e] at q; cases q
  | some ds =>
    rw [e] at q
    obtain rfl := Option.some.inj q
    obtain ⟨n, e1, e2, ok⟩ := rng1_of e
    subst e1 e2
    exact ⟨n, v.int, ok, fun p hp => Out.lst out hp (rpl_range 0 n) (rg_len ok)⟩
theorem sv_trg1 (h : OpW K .tupRange1 [x] H Q) : ∃ n, x = .int n ∧ RgOk 0 n ∧ ∀ q, H q = none → Q (.ref q) (upd H q (.tup (rgV 0 n))) := by
  obtain ⟨F, d, r, s, v, q0, out⟩ := h.one
  have q : (rng1 d).map PyData.tuple = some r := q0
  cases e : rng1 d with
  | none => rw [e] at q; cases q
  | some ds =>
    rw [e] at q
    obtain rfl := Option.some.inj q
    obtain ⟨n, e1, e2, ok⟩ := rng1_of e
    subst e1 e2
    exact ⟨n, v.int, ok, fun p hp => out.tup hp (rpl_range 0 n) (rg_len ok) s⟩
variable {y : V}
theorem sv_lrg2 (h : OpW K .listRange2 [x, y] H Q) : ∃ a b, x = .int a ∧ y = .int b ∧ RgOk a b ∧ ∀ q, H q = none → Q (.ref q) (upd H q (.lst (rgV a b))) := by
  obtain ⟨F, d1, d2, r, s, v1, v2, q0, out⟩ := h.two
  have q : (rng2 d1 d2).map PyData.list = some r := q0
  cases e : rng2 d1 d2 with
  | none => rw [e] at q; cases q
  | some ds =>
    rw [e] at q
    obtain rfl := Option.some.inj q
    obtain ⟨a, b, e1, e2, e3, ok⟩ := rng2_of e
    subst e1 e2 e3
    exact ⟨a, b, v1.int, v2.int, ok, fun p hp => Out.lst out hp (rpl_range a b) (rg_len ok)⟩
theorem sv_trg2 (h : OpW K .tupRange2 [x, y] H Q) : ∃ a b, x = .int a ∧ y = .int b ∧ RgOk a b ∧ ∀ q, H q = none → Q (.ref q) (upd H q (.tup (rgV a b))) := by
  obtain ⟨F, d1, d2, r, s, v1, v2, q0, out⟩ := h.two
  have q : (rng2 d1 d2).map PyData.tuple = some r := q0
  cases e : rng2 d1 d2 with
  | none => rw [e] at q; cases q
  | some ds =>
    rw [e] at q
    obtain rfl := Option.some.inj q
    obtain ⟨a, b, e1, e2, e3, ok⟩ := rng2_of e
    subst e1 e2 e3
    exact ⟨a, b, v1.int, v2.int, ok, fun p hp => out.tup hp (rpl_range a b) (rg_len ok) s⟩
/-! ### str -/
theorem cr_str : CallR X (.type "str") (fun xs H Q => (∃ i, xs = [.int i] ∧ i.natAbs.log2 < 1920 ∧ Q (.str (toString i)) H) ∨ ∃ a, xs = [.str a] ∧ Q (.str a) H) := fun pins s σ H xs us Q I r h => h.elim (call_str_int pins s σ H xs us Q I r) (SkE.call_str_str pins s σ H xs us Q I r)
set_option exponentiation.threshold 3000 in
theorem toString_len {i : Int} (h : i.natAbs.log2 < 1920) : (Str.ofString (toString i)).length ≤ sizeLine := by
  have hb : i.natAbs < 10 ^ 2000 := by
    have h1 : i.natAbs < 2 ^ 1920 := by
      by_cases z : i.natAbs = 0
      · rw [z]; exact Nat.pow_pos (by decide)
      · exact (Nat.log2_lt z).mp h
    exact Nat.lt_trans h1 (by decide +kernel)
  have key : ∀ m : Nat, m < 10 ^ 2000 → (Str.ofString (toString (m : Int))).length ≤ 2000 := fun m hm => toString_length_le (by omega) (by decide) (by exact_mod_cast hm)
  rw [sizeLine_eq]
  cases i with
  | ofNat m => exact Nat.le_trans (key m (by simpa using hb)) (by decide)
  | negSucc m =>
    have k := key (m + 1) (by simpa using hb)
    have e : toString (Int.negSucc m) = "-" ++ toString ((m + 1 : Nat) : Int) := rfl
    rw [e, PySem.ofString_length, String.length_append]
    rw [PySem.ofString_length] at k
    have l1 : "-".length = 1 := rfl
    rw [l1]
    omega
theorem sv_str (h : OpW K .str [x] H Q) : (∃ i, [x] = [.int i] ∧ i.natAbs.log2 < 1920 ∧ Q (.str (toString i)) H) ∨ ∃ a, [x] = [.str a] ∧ Q (.str a) H := by
  obtain ⟨F, d, r, s, v, q0, out⟩ := h.one
  have q : sStr d = some r := q0
  clear q0
  cases d with
  | int i =>
    have q : (if i.natAbs.log2 < 1920 then some (PyData.str (toString i)) else none) = some r := q
    split at q
    · rename_i hi
      obtain rfl := Option.some.inj q
      exact .inl ⟨i, by rw [v.int], hi, out.rp (.str _ (toString_len hi)) rfl⟩
    · cases q
  | str a =>
    obtain rfl := Option.some.inj q
    exact .inr ⟨a, by rw [v.str.1], out.rp (.str _ v.str.2) rfl⟩
  | _ => cases q
end PL
end

section
set_option maxRecDepth 100000
/-! PlCk: which text an expression of the small language stands for. -/
namespace PL
open PySem PySem.Spec PyProof.Rows L2

/-- the names of defs, constants, classes by number -/
structure NT where
  fn : Nat → Option Str
  gl : Nat → Option Str
  cl : Nat → Option Str
  fl : Nat → Option Str
  kw : Nat → Nat → List Nat → Option (List Str)
def isGl (sc : Scope) (x : Str) : Bool := decide (sc.names.lookup x = some .globalImplicit)
def isVis (sc : Scope) (x : Str) : Bool := decide (sc.names.lookup x = some .local) || decide (sc.names.lookup x = some .cell) || decide (sc.names.lookup x = some .free)
def isTg (sc : Scope) (x : Str) : Bool := decide (sc.names.lookup x = some .local) || decide (sc.names.lookup x = some .cell)
def odd (x : Str) : Bool := (x == ("__debug__" : Str)) || (x == ("__classdict__" : Str)) || (x == ("__name__" : Str))
def slotOk (N : List Str) (sc : Scope) (i : Nat) (x : Str) : Bool := decide (N[i]? = some x) && isVis sc x && !odd x
def starless : Expr → Bool
  | .Starred _ _ => false
  | _ => true
def cstOk (d : D) (c : Const) : Bool := match d, c with
  | .none, .none => true
  | .bool a, .bool b => a == b
  | .int a, .int b => a == b
  | .str a, .str b => decide (a = b) && decide (a.length ≤ maxLen)
  | _, _ => false
def binOf : Op → Option Operator
  | .add => some .Add
  | .sub => some .Sub
  | .mul => some .Mult
  | .fdiv => some .FloorDiv
  | .mod => some .Mod
  | .pow => some .Pow
  | _ => none
def cmpOf : Op → Option CmpOp
  | .eq => some .Eq
  | .ne => some .NotEq
  | .lt => some .Lt
  | .le => some .LtE
  | .gt => some .Gt
  | .ge => some .GtE
  | .isin => some .In
  | .notin => some .NotIn
  | _ => none
/-- built-ins called by their names, with how many arguments -/
def bltOf : Op → Option (Str × Nat)
  | .len => some ("len", 1)
  | .abs => some ("abs", 1)
  | .int => some ("int", 1)
  | .list => some ("list", 1)
  | .tuple => some ("tuple", 1)
  | .sum => some ("sum", 1)
  | .max => some ("max", 1)
  | .min => some ("min", 1)
  | .all => some ("all", 1)
  | .any => some ("any", 1)
  | .sorted => some ("sorted", 1)
  | .max2 => some ("max", 2)
  | .min2 => some ("min", 2)
  | .str => some ("str", 1)
  | _ => none
def bltNames : List Str := ["len", "abs", "int", "list", "tuple", "sum", "max", "min", "all", "any", "sorted", "isinstance", "bool", "str", "range", "zip", "enumerate", "set", "dict", "ValueError", "LookupError", "super"]
def tyS (t : Ty) : Str := match t with
  | .int => "int" | .bool => "bool" | .str => "str" | .list => "list" | .tuple => "tuple"
def noSet : Expr → Bool
  | .Set _ _ _ => false
  | _ => true
/-- the classes of an isinstance, as names -/
def tyNames (sc : Scope) : List Ty → List Expr → Bool
  | [], [] => true
  | t :: ts, .Name x _ :: xs => decide (x = tyS t) && isGl sc x && tyNames sc ts xs
  | _, _ => false
def tst : Expr → Bool
  | .IfExp _ _ _ _ => false
  | _ => true
def opBin (o : Op) (a : Expr) (op : Operator) (b : Expr) : Option (List Expr) := if binOf o = some op then some [a, b] else none
def opUn (o : Op) (u : UnaryOp) (a : Expr) : Option (List Expr) := match u with
  | .USub => if o = .neg then some [a] else none
  | .Not => if o = .not ∧ tst a = true then some [a] else none
  | _ => none
def isNone : Expr → Bool
  | .Constant c _ _ => (match c with | .none => true | _ => false)
  | _ => false
def opCmp1 (o : Op) (a : Expr) (op : CmpOp) (b : Expr) : Option (List Expr) :=
  if cmpOf o = some op ∧ noSet b = true then some [a, b] else
  if o = .isN ∧ op = .Is ∧ isNone b = true then some [a] else
  if o = .notN ∧ op = .IsNot ∧ isNone b = true then some [a] else none
def opCmp (o : Op) (a : Expr) (ops : List CmpOp) (bs : List Expr) : Option (List Expr) := match ops, bs with
  | [op], [b] => opCmp1 o a op b
  | _, _ => none
def opSlice (o : Op) (a : Expr) (lo hi : Option Expr) : Option (List Expr) := match lo, hi with
  | none, none => if o = .sl then some [a] else none
  | some l, none => if o = .sla then some [a, l] else none
  | none, some h => if o = .slb then some [a, h] else none
  | _, _ => none
def ixOk : Expr → Bool
  | .Slice _ _ _ _ => false
  | .Tuple _ _ _ => false
  | _ => true
def isMinus1 : Expr → Bool
  | .UnaryOp .USub (.Constant (.int i) _ _) _ => decide (i = 1)
  | _ => false
def opSub (o : Op) (a b : Expr) : Option (List Expr) := match b with
  | .Slice lo hi none _ => opSlice o a lo hi
  | .Slice lo hi (some st) _ => if o = .rev ∧ lo.isNone = true ∧ hi.isNone = true ∧ isMinus1 st = true then some [a] else none
  | b => if o = .ix ∧ ixOk b = true then some [a, b] else none
/-- the classes asked for -/
def isiTs : Op → Option (List Ty)
  | .isi ts => some ts
  | _ => none
def tyOk (sc : Scope) (ts : List Ty) : Expr → Bool
  | .Name y _ => (match ts with
    | [t] => decide (y = tyS t) && isGl sc y
    | _ => false)
  | .Tuple ys _ _ => tyNames sc ts ys && decide (ts.length ≤ 100)
  | _ => false
def opIsi (sc : Scope) (ts : List Ty) (x : Str) (args : List Expr) : Option (List Expr) := match args with
  | [a, c] => if x = "isinstance" ∧ isGl sc x = true ∧ tyOk sc ts c = true then some [a] else none
  | _ => none
def opBlt (sc : Scope) (o : Op) (x : Str) (args : List Expr) : Option (List Expr) := match bltOf o with
  | some (y, n) => if x = y ∧ args.length = n ∧ isGl sc x = true then some args else none
  | none => none
/-- a built-in around a built-in: outer, inner, how many arguments -/
def nestOf : Op → Option (Str × Str × Nat)
  | .sortedSet => some ("sorted", "set", 1)
  | .lenSet => some ("len", "set", 1)
  | .listRange1 => some ("list", "range", 1)
  | .listRange2 => some ("list", "range", 2)
  | .tupRange1 => some ("tuple", "range", 1)
  | .tupRange2 => some ("tuple", "range", 2)
  | _ => none
def opNest (sc : Scope) (a b : Str) (n : Nat) (x : Str) (args : List Expr) : Option (List Expr) := match args with
  | [.Call (.Name y _) ys [] _] => if x = a ∧ y = b ∧ ys.length = n ∧ isGl sc x = true ∧ isGl sc y = true then some ys else none
  | _ => none
def opName (sc : Scope) (o : Op) (x : Str) (args : List Expr) : Option (List Expr) := match isiTs o with
  | some ts => opIsi sc ts x args
  | none => (match nestOf o with
    | some (a, b, n) => opNest sc a b n x args
    | none => opBlt sc o x args)
def opCall (sc : Scope) (o : Op) (f : Expr) (args : List Expr) (kws : List Keyword) : Option (List Expr) := match f, kws with
  | .Name x _, [] => opName sc o x args
  | _, _ => none
/-- the operands of an op in its text, in the order in which they come -/
def opForm (sc : Scope) (o : Op) : Expr → Option (List Expr)
  | .BinOp a op b _ => opBin o a op b
  | .UnaryOp u a _ => opUn o u a
  | .Compare a ops bs _ => opCmp o a ops bs
  | .Subscript a b _ => opSub o a b
  | .Call f args kws _ => opCall sc o f args kws
  | _ => none
/-- one value comes (no row of values) -/
def one : E → Bool
  | .nil | .cons _ _ | .star _ _ | .iter _ _ => false
  | .and _ b => one b
  | .or _ b => one b
  | .ite _ a b => one a && one b
  | _ => true
/-- a row without stars -/
def plain : E → Bool
  | .nil => true
  | .cons _ es => plain es
  | _ => false

theorem bind_eq_ok {α β : Type} {r : R α} {f : α → Env → R β} {b : β} {env' : Env} (h : r.bind f = .ok b env') : ∃ a env1, r = .ok a env1 ∧ f a env1 = .ok b env' := by
  cases r with
  | ok a env1 => exact ⟨a, env1, rfl, h⟩
  | exc _ _ => cases h
  | bad _ => cases h
theorem oneKD_ok {m : String} {r : R (List Item)} {f : KD → Env → R (List Item)} {xs : List Item} {env' : Env} (h : oneKD m r f = .ok xs env') : ∃ kd env1, r = .ok [.val kd] env1 ∧ f kd env1 = .ok xs env' := by
  obtain ⟨a, env1, h1, h2⟩ := bind_eq_ok h
  match a, h2 with
  | [.val kd], h2 => exact ⟨kd, env1, h1, h2⟩
  | [], h2 => exact nomatch h2
  | [.slot _], h2 => exact nomatch h2
  | x :: y :: z, h2 =>
    have h3 : (R.bad m : R (List Item)) = .ok xs env' := by
      cases x <;> exact h2
    exact nomatch h3
theorem opR_one {o : Op} {xs ys : List Item} {env env' : Env} (h : opR o xs env = .ok ys env') : ∃ kd, ys = [.val kd] := by
  unfold opR at h
  split at h
  · split at h
    · cases h; exact ⟨_, rfl⟩
    · cases h
  · cases h
theorem callR_one {fns : Nat → Option FnDef} {call : CallF} {f : Nat} {xs ys : List Item} {env env' : Env} (h : callR fns call f xs env = .ok ys env') : ∃ kd, ys = [.val kd] := by
  unfold callR at h
  split at h
  · exact nomatch h
  · split at h
    · exact nomatch h
    · split at h
      · exact nomatch h
      · split at h
        · split at h
          · split at h
            · cases h; exact ⟨_, rfl⟩
            · exact nomatch h
          · split at h <;> exact nomatch h
          · exact nomatch h
        · exact nomatch h
theorem compR_one {m : Nat} {p : Pat} {cond : Option (Env → R (List Item))} {elt : Env → R (List Item)} {it : R (List Item)} {ys : List Item} {env' : Env} (h : compR m p cond elt it = .ok ys env') : ∃ kd, ys = [.val kd] := by
  obtain ⟨a, env1, _, h2⟩ := bind_eq_ok h
  split at h2
  · exact nomatch h2
  · obtain ⟨b, env2, _, h3⟩ := bind_eq_ok h2
    cases h3; exact ⟨_, rfl⟩
theorem comp2R_one {p p2 : Pat} {cond cond2 : Option (Env → R (List Item))} {it2 elt : Env → R (List Item)} {it : R (List Item)} {ys : List Item} {env' : Env} (h : comp2R p p2 cond it2 cond2 elt it = .ok ys env') : ∃ kd, ys = [.val kd] := by
  obtain ⟨a, env1, _, h2⟩ := bind_eq_ok h
  split at h2
  · exact nomatch h2
  · obtain ⟨b, env2, _, h3⟩ := bind_eq_ok h2
    cases h3; exact ⟨_, rfl⟩
theorem dcompR_one {p : Pat} {k v : Env → R (List Item)} {it : R (List Item)} {ys : List Item} {env' : Env} (h : dcompR p k v it = .ok ys env') : ∃ kd, ys = [.val kd] := by
  obtain ⟨a, env1, _, h2⟩ := bind_eq_ok h
  split at h2
  · exact nomatch h2
  · obtain ⟨b, env2, _, h3⟩ := bind_eq_ok h2
    cases h3; exact ⟨_, rfl⟩
theorem popR_one {i : Nat} {ys : List Item} {env env' : Env} (h : popR i env = .ok ys env') : ∃ kd, ys = [.val kd] := by
  unfold popR at h
  split at h
  · split at h
    · cases h; exact ⟨_, rfl⟩
    · exact nomatch h
  · exact nomatch h
theorem popatR_one {i : Nat} {kd : KD} {ys : List Item} {env env' : Env} (h : popatR i kd env = .ok ys env') : ∃ kd, ys = [.val kd] := by
  unfold popatR at h
  split at h
  · split at h
    · split at h
      · cases h; exact ⟨_, rfl⟩
      · exact nomatch h
    · exact nomatch h
  · exact nomatch h
theorem keyedR_one {o : KeyOp} {i : Nat} {body : Env → R (List Item)} {r : R (List Item)} {ys : List Item} {env' : Env} (h : keyedR o i body r = .ok ys env') : ∃ kd, ys = [.val kd] := by
  obtain ⟨kd, env1, _, h2⟩ := oneKD_ok h
  split at h2
  · exact nomatch h2
  · split at h2
    · exact nomatch h2
    · split at h2
      · split at h2
        · cases h2; exact ⟨_, rfl⟩
        · exact nomatch h2
      · split at h2
        · cases h2; exact ⟨_, rfl⟩
        · exact nomatch h2
theorem ev_one (C : Cf) : ∀ (e : E), one e = true → ∀ env xs env', evC C e env = .ok xs env' → ∃ x, xs = [x]
  | .nil, h, _, _, _, _ => by cases h
  | .cons _ _, h, _, _, _, _ => by cases h
  | .star _ _, h, _, _, _, _ => by cases h
  | .iter _ _, h, _, _, _, _ => by cases h
  | .cst d, _, env, xs, env', e => by cases e; exact ⟨_, rfl⟩
  | .var i, _, env, xs, env', e => by
    simp only [evC, ev] at e
    split at e
    · cases e; exact ⟨_, rfl⟩
    · cases e
  | .bor i, _, env, xs, env', e => by
    simp only [evC, ev] at e
    split at e
    · cases e; exact ⟨_, rfl⟩
    · cases e
  | .mov i, _, env, xs, env', e => by
    simp only [evC, ev] at e
    split at e
    · cases e; exact ⟨_, rfl⟩
    · cases e
  | .glb i, _, env, xs, env', e => by
    simp only [evC, ev] at e
    split at e
    · cases e; exact ⟨_, rfl⟩
    · cases e
  | .op o es, _, env, xs, env', e => by
    simp only [evC, ev] at e
    obtain ⟨a, env1, _, h2⟩ := bind_eq_ok e
    obtain ⟨kd, h⟩ := opR_one h2
    exact ⟨_, h⟩
  | .and a b, h, env, xs, env', e => by
    simp only [evC, ev] at e
    obtain ⟨kd, env1, _, h2⟩ := oneKD_ok e
    split at h2
    · exact ev_one C b h _ _ _ h2
    · cases h2; exact ⟨_, rfl⟩
  | .or a b, h, env, xs, env', e => by
    simp only [evC, ev] at e
    obtain ⟨kd, env1, _, h2⟩ := oneKD_ok e
    split at h2
    · cases h2; exact ⟨_, rfl⟩
    · exact ev_one C b h _ _ _ h2
  | .ite c a b, h, env, xs, env', e => by
    have h : (one a && one b) = true := h
    rw [Bool.and_eq_true] at h
    simp only [evC, ev] at e
    obtain ⟨kd, env1, _, h2⟩ := oneKD_ok e
    split at h2
    · exact ev_one C a h.1 _ _ _ h2
    · exact ev_one C b h.2 _ _ _ h2
  | .chain o1 o2 a b c, _, env, xs, env', e => by
    simp only [evC, ev] at e
    obtain ⟨ka, env1, _, h2⟩ := oneKD_ok e
    obtain ⟨kb, env2, _, h3⟩ := oneKD_ok h2
    split at h3
    · obtain ⟨kc, env3, _, h4⟩ := oneKD_ok h3
      split at h4
      · cases h4; exact ⟨_, rfl⟩
      · cases h4
    · cases h3; exact ⟨_, rfl⟩
    · cases h3
  | .cut a b c, _, env, xs, env', e => by
    simp only [evC, ev] at e
    obtain ⟨xs1, env1, _, h2⟩ := bind_eq_ok e
    obtain ⟨kb, env2, _, h3⟩ := oneKD_ok h2
    split at h3
    · obtain ⟨zs, env3, _, h4⟩ := bind_eq_ok h3
      obtain ⟨kd, h⟩ := opR_one h4
      exact ⟨_, h⟩
    · cases h3
  | .tup es, _, env, xs, env', e => by
    simp only [evC, ev] at e
    obtain ⟨a, env1, _, h2⟩ := bind_eq_ok e
    unfold mkTup at h2
    split at h2
    · split at h2
      · cases h2; exact ⟨_, rfl⟩
      · cases h2
    · cases h2
  | .lst m es, _, env, xs, env', e => by
    simp only [evC, ev] at e
    obtain ⟨a, env1, _, h2⟩ := bind_eq_ok e
    unfold mkLst at h2
    split at h2
    · split at h2
      · cases h2; exact ⟨_, rfl⟩
      · cases h2
    · cases h2
  | .dnew m, _, env, xs, env', e => by cases e; exact ⟨_, rfl⟩
  | .dct es, _, env, xs, env', e => by
    simp only [evC, ev] at e
    obtain ⟨a, env1, _, h2⟩ := bind_eq_ok e
    split at h2
    · split at h2
      · cases h2; exact ⟨_, rfl⟩
      · cases h2
    · cases h2
  | .call f es, _, env, xs, env', e => by
    simp only [evC, ev] at e
    obtain ⟨a, env1, _, h2⟩ := bind_eq_ok e
    obtain ⟨kd, h⟩ := callR_one h2
    exact ⟨_, h⟩
  | .callk f np perm es, _, env, xs, env', e => by
    simp only [evC, ev] at e
    obtain ⟨a, env1, _, h2⟩ := bind_eq_ok e
    obtain ⟨kd, h⟩ := callR_one h2
    exact ⟨_, h⟩
  | .comp m e p it c, _, env, xs, env', h => let ⟨_, h⟩ := compR_one h; ⟨_, h⟩
  | .comp2 e p it c p2 it2 c2, _, env, xs, env', h => let ⟨_, h⟩ := comp2R_one h; ⟨_, h⟩
  | .dcomp k v p it, _, env, xs, env', h => let ⟨_, h⟩ := dcompR_one h; ⟨_, h⟩
  | .pop i, _, env, xs, env', h => let ⟨_, h⟩ := popR_one h; ⟨_, h⟩
  | .popat i e, _, env, xs, env', h => by
    simp only [evC, ev] at h
    split at h
    · obtain ⟨kd, env1, _, h2⟩ := oneKD_ok h
      let ⟨_, h⟩ := popatR_one h2
      exact ⟨_, h⟩
    · cases h
  | .keyed o i body e, _, env, xs, env', h => let ⟨_, h⟩ := keyedR_one h; ⟨_, h⟩

/-! ### the ops' rules -/
section
variable {X : Cx}
theorem bin_ok {o : Op} {op : Operator} (h : binOf o = some op) : ∃ r : R2, OpR X (binaryOp op) r ∧ ∀ x y H Q, OpW X.K o [x, y] H Q → r x y H Q := by
  cases o <;> first | (cases h; done) | skip
  all_goals cases h
  · exact ⟨_, or_add, fun _ _ _ _ => sv_add⟩
  · exact ⟨_, opI (C := fun _ _ => True) fun _ _ _ _ _ _ _ _ q => sub_int q, fun _ _ _ _ => sv_sub⟩
  · exact ⟨_, or_mul, fun _ _ _ _ => sv_mul⟩
  · exact ⟨_, or_fdiv, fun _ _ _ _ => sv_fdiv⟩
  · exact ⟨_, or_mod, fun _ _ _ _ => sv_mod⟩
  · exact ⟨_, op_pow, fun _ _ _ _ => sv_pow⟩
theorem rI_true {g : Int → Int → V} {x y : V} {H : Hp} {Q : VK} (h : rI (fun _ _ => True) g x y H Q) : rI0 g x y H Q :=
  let ⟨i, j, e1, e2, _, q⟩ := h; ⟨i, j, e1, e2, q⟩
theorem cmp_ok {o : Op} {op : CmpOp} (hu : X.A.units + 65 < cLine) (h : cmpOf o = some op) : ∃ r : R2, OpR X (compareOp op) r ∧ ∀ x y H Q, OpW X.K o [x, y] H Q → r x y H Q := by
  have h1 : X.A.units + 64 < cLine := by omega
  have h2 : X.A.units < cLine := by omega
  cases o <;> first | (cases h; done) | skip
  all_goals cases h
  · exact ⟨_, op_eqD h1, fun _ _ _ _ => sv_eq⟩
  · exact ⟨_, op_neD h1, fun _ _ _ _ => sv_ne⟩
  · exact ⟨_, or_lt h2, fun _ _ _ _ => sv_lt⟩
  · exact ⟨_, op_le, fun _ _ _ _ h => rI_true (sv_le h)⟩
  · exact ⟨_, op_gt, fun _ _ _ _ => sv_gt⟩
  · exact ⟨_, op_ge, fun _ _ _ _ h => rI_true (sv_ge h)⟩
  · exact ⟨_, or_in hu, fun _ _ _ _ => sv_isin⟩
  · exact ⟨_, or_notin hu, fun _ _ _ _ => sv_notin⟩
/-- comparisons give bools -/
theorem cmp_bool {o : Op} {op : CmpOp} (h : cmpOf o = some op) {ds : List D} {r : D} (e : semOp o ds = some r) : ∃ b, r = .bool b := by
  have two : ∀ {a b : D} {f : D → D → Option Bool}, (f a b).map PyData.bool = some r → ∃ b, r = .bool b := fun {a b f} e => by
    cases h : f a b with
    | none => rw [h] at e; cases e
    | some c => rw [h] at e; exact ⟨c, (Option.some.inj e).symm⟩
  match ds, e with
  | [], e => cases e
  | [a], e => cases o <;> first | (cases h; done) | cases e
  | [a, b], e =>
    cases o <;> first | (cases h; done) | skip
    · exact two (f := sEq) e
    · exact two (f := fun a b => (sEq a b).map fun c => !c) (by
        have e : (sEq a b).map (fun c => PyData.bool (!c)) = some r := e
        rw [Option.map_map]; exact e)
    · exact two (f := sLt) e
    · have e : sLe a b = some r := e
      cases a <;> cases b <;> first | (cases e; done) | exact ⟨_, (Option.some.inj e).symm⟩
    · exact two (f := sGt) e
    · have e : sLe b a = some r := e
      cases a <;> cases b <;> first | (cases e; done) | exact ⟨_, (Option.some.inj e).symm⟩
    · exact two (f := sIn) e
    · exact two (f := fun a b => (sIn a b).map fun c => !c) (by
        have e : (sIn a b).map (fun c => PyData.bool (!c)) = some r := e
        rw [Option.map_map]; exact e)
  | [a, b, c], e => cases o <;> first | (cases h; done) | cases e
  | _ :: _ :: _ :: _ :: _, e => cases e
/-- the built-ins -/
theorem blt_ok {o : Op} {x : Str} {n : Nat} (hc : X.calm = true) (h : bltOf o = some (x, n)) :
    ∃ r : List V → Hp → VK → Prop, ((∃ id, bootBuiltins x = some (.builtin id) ∧ CallR X (.builtin id) r) ∨ ∃ T, bootBuiltins x = some (.type T) ∧ CallR X (.type T) r) ∧
      (∀ vs H Q, vs.length = n → OpW X.K o vs H Q → r vs H Q) ∧ x ≠ "__name__" ∧ (x == ("__debug__" : Str)) = false ∧ x ∈ bltNames := by
  have one1 : ∀ {P : V → Prop} {vs : List V}, vs.length = 1 → (∀ x, vs = [x] → P x) → ∃ x, vs = [x] ∧ P x := fun {P vs} hl f => by
    match vs, hl with
    | [x], _ => exact ⟨x, rfl, f x rfl⟩
  have g1 : ∀ {r : List V → Hp → VK → Prop}, (∀ x H Q, OpW X.K o [x] H Q → r [x] H Q) → ∀ vs H Q, vs.length = 1 → OpW X.K o vs H Q → r vs H Q := fun {r} f vs H Q hl w => by
    match vs, hl with
    | [x], _ => exact f x H Q w
  have g2 : ∀ {r : List V → Hp → VK → Prop}, (∀ x y H Q, OpW X.K o [x, y] H Q → r [x, y] H Q) → ∀ vs H Q, vs.length = 2 → OpW X.K o vs H Q → r vs H Q := fun {r} f vs H Q hl w => by
    match vs, hl with
    | [x, y], _ => exact f x y H Q w
  cases o <;> first | (cases h; done) | skip
  all_goals cases h
  · exact ⟨_, .inl ⟨_, boot_len, call_len⟩, g1 fun _ _ _ w => sv_len w, by decide, by decide, by decide +kernel⟩
  · exact ⟨_, .inl ⟨_, by decide +kernel, call_abs⟩, g1 fun _ _ _ w => sv_abs w, by decide, by decide, by decide +kernel⟩
  · exact ⟨_, .inr ⟨_, by decide +kernel, call_int1⟩, g1 fun _ _ _ w => sv_int w, by decide, by decide, by decide +kernel⟩
  · exact ⟨_, .inr ⟨_, by decide +kernel, call_list_of⟩, g1 fun _ _ _ w => sv_list w, by decide, by decide, by decide +kernel⟩
  · exact ⟨_, .inr ⟨_, by decide +kernel, call_tuple_of⟩, g1 fun _ _ _ w => sv_tuple w, by decide, by decide, by decide +kernel⟩
  · exact ⟨_, .inl ⟨_, by decide +kernel, cr_sum hc⟩, g1 fun _ _ _ w => sv_sum w, by decide, by decide, by decide +kernel⟩
  · exact ⟨_, .inl ⟨_, by decide +kernel, cr_max hc⟩, g1 fun _ _ _ w => sv_max w, by decide, by decide, by decide +kernel⟩
  · exact ⟨_, .inl ⟨_, by decide +kernel, cr_min hc⟩, g1 fun _ _ _ w => sv_min w, by decide, by decide, by decide +kernel⟩
  · exact ⟨_, .inl ⟨_, by decide +kernel, cr_all hc⟩, g1 fun _ _ _ w => sv_all w, by decide, by decide, by decide +kernel⟩
  · exact ⟨_, .inl ⟨_, by decide +kernel, cr_any hc⟩, g1 fun _ _ _ w => sv_any w, by decide, by decide, by decide +kernel⟩
  · exact ⟨_, .inl ⟨_, by decide +kernel, cr_sortedI⟩, g1 fun _ _ _ w => sv_sorted w, by decide, by decide, by decide +kernel⟩
  · exact ⟨_, .inr ⟨_, by decide +kernel, cr_str⟩, g1 fun _ _ _ w => sv_str w, by decide, by decide, by decide +kernel⟩
  · exact ⟨_, .inl ⟨_, by decide +kernel, call_max2 hc⟩, g2 fun _ _ _ _ w => sv_max2 w, by decide, by decide, by decide +kernel⟩
  · exact ⟨_, .inl ⟨_, by decide +kernel, call_min2 hc⟩, g2 fun _ _ _ _ w => sv_min2 w, by decide, by decide, by decide +kernel⟩
end
end PL
end

section
set_option maxRecDepth 100000
/-! PlSn1: the context that is good for the small language; patterns. -/
namespace PL
open PySem PySem.Spec PyProof.Rows L2


/-- what a def's parameters hold behind it -/
inductive RetI : List V → List (Option KD) → List It → Prop
  | nil : RetI [] [] []
  | gone {v : V} {vs : List V} {os : List (Option KD)} {I : List It} : RetI vs os I → RetI (v :: vs) (none :: os) I
  | has {v : V} {kd : KD} {vs : List V} {os : List (Option KD)} {I : List It} : RetI vs os I → RetI (v :: vs) (some kd :: os) ((v, kd) :: I)
/-- the promise of a def: its arguments are held, beside anything else; the evaluator's result then -/
def spF (K : PySem.W.Frag) (C : Cf) (f np : Nat) : Sp := fun vs H Q E => vs.length = np ∧ ∃ F A T args, args.length = np ∧ Ok K F H A (vs.zip args ++ T) ∧
  match C.call f args with
  | .ok kd outs => ∀ F' H' v os, Same F F' → RetI vs outs os → Ok K F' H' A ((v, kd) :: (os ++ T)) → Q v H'
  | .exc x outs => ∀ F' H' cls dd os, Same F F' → RetI vs outs os → Ok K F' H' A (os ++ T) → ExR K C F' H' x cls dd → E cls dd H'
  | .bad _ => False

/-- how a def's parameters are bound by np values and keywords named ks -/
def KwB (K : PySem.W.Frag) (fdat : FuncData) (ps : List Str) (np : Nat) (perm : List Nat) (ks : List Str) : Prop :=
  ∀ (s : Shared) (us ws : List Value), K.In s.heap → us.length = np → ws.length = ks.length → BindsTo s fdat ⟨us, ks.zip ws⟩ (ps.zip (permL (us ++ ws) perm))
/-- the context -/
structure Gd (X : Cx) (C : Cf) (nt : NT) (n : Nat) (sc tg : Scope) : Prop where
  nod : X.N.Nodup
  esc : X.env.scope = sc
  tg : ∀ x, isTg tg x = true → L2.Loc sc x ∧ (X.fn x = true ∨ X.env.scope.names.lookup x = some .local)
  calm : X.calm = true
  room : Room n X.A
  blt : ∀ x ∈ bltNames, X.mg x = none
  fn : ∀ f fd, C.fns f = some fd → ∃ nm ad fdat ps, nt.fn f = some nm ∧ X.mg nm = some (.ref ad) ∧ PySem.W.keepIn X.K (.ref ad) = true ∧ Binds X.K fdat ps [] ∧ ps.length = fd.pm.length ∧ (∀ np perm ks, nt.kw f np perm = some ks → KwB X.K fdat ps np perm ks) ∧
    FnOk X.prog X.w X.K X.mg X.base (L2.CX X.prog X.w) n ad fdat ps (spF X.K C f fd.pm.length)
  fnd : ∀ f nm, nt.fn f = some nm → (C.fns f).isSome = true
  gld : ∀ g nm, nt.gl g = some nm → (C.glb g).isSome = true
  ex : ∀ c cd, C.cls c = some cd → ∃ nm ca, nt.cl c = some nm ∧ nt.fl c = cd.fld ∧ X.mg nm = some (.ref ca) ∧ C.cad c = some ca ∧ ErrOk X.K X.prog X.mg ca cd
  exd : ∀ c nm, nt.cl c = some nm → (C.cls c).isSome = true
  exm : ∀ c1 c2 a1 a2, C.cad c1 = some a1 → C.cad c2 = some a2 → (C.cls c1).isSome = true → (C.cls c2).isSome = true → PySem.W.exmOne X.K (.ref a1) (.ref a2) = some (c1 == c2)
  gl : ∀ x d, C.glb x = some d → ∃ nm v u, nt.gl x = some nm ∧ X.mg nm = some u ∧ RelV v u ∧ ∀ F, Rp X.K F v d
variable {X : Cx} {C : Cf} {nt : NT} {n : Nat} {sc tg : Scope} {W : WX}

/-! ### what a list of expressions asks -/
theorem starless_each {e : Expr} {es : List Expr} {env : PySem.Env} (h : starless e = true) : starEach (e :: es) env = (false, eval e env) :: starEach es env := by
  cases e <;> first | rfl | exact nomatch h
theorem starless_none {pos : Pos} {env : PySem.Env} : ∀ {es : List Expr}, es.all starless = true → (backTo pos (starEach es env)).any (·.1) = false
  | [], _ => rfl
  | e :: es, h => by
    rw [List.all_cons, Bool.and_eq_true] at h
    rw [starless_each h.1]
    have ih := starless_none (pos := pos) (env := env) h.2
    unfold backTo at ih ⊢
    simp only [List.map_cons, List.any_cons, Bool.false_or] at ih ⊢
    exact ih
theorem assign_each {e : Expr} {es : List Expr} {env : PySem.Env} (h : starless e = true) : assignEach (e :: es) env = (false, assign e env) :: assignEach es env := by
  cases e <;> first | rfl | exact nomatch h
theorem assign_len {env : PySem.Env} : ∀ {es : List Expr}, (assignEach es env).length = es.length
  | [] => rfl
  | e :: es => by
    cases e <;> exact congrArg (· + 1) (assign_len (env := env) (es := es))
theorem assign_none {env : PySem.Env} : ∀ {es : List Expr}, es.all starless = true → (assignEach es env).findIdx? (·.1) = none
  | [], _ => rfl
  | e :: es, h => by
    rw [List.all_cons, Bool.and_eq_true] at h
    rw [assign_each h.1, List.findIdx?_cons]
    simp [assign_none (env := env) h.2]

/-! ### patterns -/
mutual
def ckP (N : List Str) (tg : Scope) : Pat → Expr → Bool
  | .v i, .Name x _ => decide (N[i]? = some x) && isTg tg x
  | .v _, _ => false
  | p, .Tuple es _ _ => ckPs N tg p es
  | _, _ => false
def ckPs (N : List Str) (tg : Scope) : Pat → List Expr → Bool
  | .nil, [] => true
  | .cons p ps, e :: es => ckP N tg p e && ckPs N tg ps es && starless e
  | _, _ => false
end
theorem ckPs_star {N : List Str} {tg : Scope} : ∀ {es : List Expr} {p : Pat}, ckPs N tg p es = true → es.all starless = true
  | [], _, _ => rfl
  | e :: es, .cons p ps, h => by
    simp only [ckPs, Bool.and_eq_true] at h
    rw [List.all_cons, Bool.and_eq_true]
    exact ⟨h.2, ckPs_star h.1.2⟩
  | e :: es, .nil, h => by simp [ckPs] at h
  | e :: es, .v i, h => by simp [ckPs] at h
/-- off the slots of the pattern nothing is changed -/
def Off (is : List Nat) (σ σ' : L2.St) : Prop := σ'.length = σ.length ∧ ∀ j, j ∉ is → σ'[j]? = σ[j]?
def tP (K : PySem.W.Frag) (C : Cf) (p : Pat) : TG := fun v σ H Q => ∃ L F A T env d env', Lko C L ∧ In K L F env σ H A ((v, (0, d)) :: T) ∧ bindPat p d env = some env' ∧ (slotsP p).all (free C.lk) = true ∧
  ∀ σ', In K L F env' σ' H A T → Off (slotsP p) σ σ' → Q σ' H
def tPs (K : PySem.W.Frag) (C : Cf) (p : Pat) : TGs := fun vs σ H Q => ∃ L F A T env ds env', Lko C L ∧ In K L F env σ H A T ∧ RpL K F vs ds ∧ bindPats p ds env = some env' ∧ (slotsP p).all (free C.lk) = true ∧
  ∀ σ', In K L F env' σ' H A T → Off (slotsP p) σ σ' → Q σ' H
theorem PG.mono {e : Expr} {t t' : TG} (h : PG X e t) (f : ∀ v σ H Q, t' v σ H Q → t v σ H Q) : PG X e t' := ⟨fun pins s σ H v u Q I r hw => h.run pins s σ H v u Q I r (f v σ H Q hw)⟩
theorem PG.or {e : Expr} {t t' : TG} (h : PG X e t) (h' : PG X e t') : PG X e (fun v σ H Q => t v σ H Q ∨ t' v σ H Q) := ⟨fun pins s σ H v u Q I r hw => hw.elim (h.run pins s σ H v u Q I r) (h'.run pins s σ H v u Q I r)⟩
theorem PGs.mono {e : List Expr} {t t' : TGs} (h : PGs X e t) (f : ∀ v σ H Q, t' v σ H Q → t v σ H Q) : PGs X e t' := ⟨fun pins s σ H v u Q I r hw => h.run pins s σ H v u Q I r (f v σ H Q hw)⟩
theorem bindPats_len : ∀ {p : Pat} {ds : List D} {env env' : Env} {N : List Str} {tg : Scope} {es : List Expr}, bindPats p ds env = some env' → ckPs N tg p es = true → ds.length = es.length
  | .nil, ds, env, env', N, tg, es, h, c => by
    cases ds with
    | nil => cases es with
      | nil => rfl
      | cons e es => simp [ckPs] at c
    | cons d ds => simp [bindPats] at h
  | .v i, ds, env, env', N, tg, es, h, c => by simp [bindPats] at h
  | .cons p ps, ds, env, env', N, tg, es, h, c => by
    cases ds with
    | nil => simp [bindPats] at h
    | cons d ds =>
      cases es with
      | nil => simp [ckPs] at c
      | cons e es =>
        simp only [bindPats] at h
        simp only [ckPs, Bool.and_eq_true] at c
        cases h1 : bindPat p d env with
        | none => rw [h1] at h; cases h
        | some env1 =>
          rw [h1] at h
          exact congrArg (· + 1) (bindPats_len (p := ps) h c.1.2)
theorem off_cons {a b : List Nat} {σ σ1 σ2 : L2.St} (h1 : Off a σ σ1) (h2 : Off b σ1 σ2) : Off (a ++ b) σ σ2 :=
  ⟨h2.1.trans h1.1, fun j hj => (h2.2 j fun z => hj (List.mem_append_right _ z)).trans (h1.2 j fun z => hj (List.mem_append_left _ z))⟩
theorem bindPat_seq {p : Pat} {d : D} {env env' : Env} (hp : ∀ i, p ≠ .v i) (h : bindPat p d env = some env') : ∃ ds, seqOf d = some ds ∧ bindPats p ds env = some env' := by
  cases p with
  | v i => exact absurd rfl (hp i)
  | nil =>
    rw [bindPat_nil] at h
    cases e : seqOf d with
    | none => rw [e] at h; cases h
    | some ds => rw [e] at h; exact ⟨ds, rfl, h⟩
  | cons p ps =>
    rw [bindPat_cons] at h
    cases e : seqOf d with
    | none => rw [e] at h; cases h
    | some ds => rw [e] at h; exact ⟨ds, rfl, h⟩
theorem SqT.mono' {K : PySem.W.Frag} {F H : Hp} {a : Addr} {xs : List V} (s : Same F H) (h : SqT K F a xs) : SqT K H a xs := sqT_mono s h
/-- a row of data, held -/
theorem rp_seq {K : PySem.W.Frag} {F H : Hp} {v : V} {d : D} {ds : List D} (s : Same F H) (r : Rp K F v d) (e : seqOf d = some ds) : ∃ a xs, v = .ref a ∧ (SqT K H a xs ∨ SqL K H a xs) ∧ RpL K F xs ds := by
  cases r with
  | lst h hz r => cases e; exact ⟨_, _, rfl, .inr (h.mono s).sql, r⟩
  | tup h hz r => cases e; exact ⟨_, _, rfl, .inl (sqT_mono s h), r⟩
  | _ => cases e
theorem slots_free {p : Pat} {C : Cf} {L : List (Nat × V)} {i : Nat} (hl : Lko C L) (h : (slotsP p).all (free C.lk) = true) (hi : i ∈ slotsP p) : ∀ q ∈ L, q.1 ≠ i := fun q hq e => by
  have h1 := hl q hq
  have h2 := List.all_eq_true.mp h i hi
  rw [e, h2] at h1
  cases h1
theorem pg_seq {es : List Expr} {k : Nat} {pos : Pos} {p : Pat} (hc : X.calm = true) (hp : ∀ i, p ≠ .v i) (hs : es.all starless = true) (hlen : ∀ {ds env env'}, bindPats p ds env = some env' → ds.length = es.length) (hg : PGs X es (tPs X.K C p)) :
    PG X (.Tuple es k pos) (tP X.K C p) := by
  have h1 := pg_tup (pos := pos) (k := k) hc hg (n := es.length) assign_len (assign_none hs)
  have h2 := pg_lst (pos := pos) (k := k) hc hg (n := es.length) assign_len (assign_none hs)
  refine PG.mono (PG.or h1 h2) fun v σ H Q hw => ?_
  obtain ⟨L, F, A, T, env, d, env', hl, i, b, fr, q⟩ := hw
  obtain ⟨ds, e1, b'⟩ := bindPat_seq hp b
  have r : Rp X.K F v d := by
    obtain ⟨I, s, o, l⟩ := i
    exact Ok.rp (I := I ++ T) (o.perm List.perm_middle)
  obtain ⟨a, xs, ev, hx, rl⟩ := rp_seq i.same r e1
  have hn : xs.length = es.length := rl.length.trans (hlen b')
  have t : tPs X.K C p xs σ H Q := ⟨L, F, A, T, env, ds, env', hl, i.drop1, rl, b', fr, q⟩
  rcases hx with hx | hx
  · exact .inl ⟨a, xs, ev, hx, hn, t⟩
  · exact .inr ⟨a, xs, ev, hx, hn, t⟩
mutual
theorem pg_pat (G : Gd X C nt n sc tg) : ∀ (p : Pat) (e : Expr), ckP X.N tg p e = true → PG X e (tP X.K C p)
  | .v i, e, h => by
    cases e with
    | Name x pos =>
      simp only [ckP, Bool.and_eq_true, decide_eq_true_eq] at h
      obtain ⟨h1, h2⟩ := h
      obtain ⟨hL, hF⟩ := G.tg x h2
      refine PG.mono (pg_name (pos := pos) G.nod h1 (by rw [G.esc]; exact hL) hF) fun v σ H Q hw => ?_
      obtain ⟨L, F, A, T, env, d, env', hl, hi, b, fr, q⟩ := hw
      have b : (if i < env.length then some (env.set i (some (0, d))) else none) = some env' := by simpa only [bindPat] using b
      split at b
      · rename_i hlt
        cases b
        exact q _ (hi.put hlt (slots_free (p := .v i) hl fr (by simp [slotsP]))) ⟨by simp, fun j hj => by rw [List.getElem?_set_ne]; intro z; exact hj (by simp [slotsP, z])⟩
      · cases b
    | _ => simp [ckP] at h
  | .nil, e, h => by
    cases e with
    | Tuple es k pos =>
      have h : ckPs X.N tg .nil es = true := by simpa only [ckP] using h
      exact pg_seq G.calm (fun i z => nomatch z) (ckPs_star h) (fun b => bindPats_len b h) (pgs_pat G .nil es h)
    | _ => simp [ckP] at h
  | .cons p ps, e, h => by
    cases e with
    | Tuple es k pos =>
      have h : ckPs X.N tg (.cons p ps) es = true := by simpa only [ckP] using h
      exact pg_seq G.calm (fun i z => nomatch z) (ckPs_star h) (fun b => bindPats_len b h) (pgs_pat G (.cons p ps) es h)
    | _ => simp [ckP] at h
theorem pgs_pat (G : Gd X C nt n sc tg) : ∀ (p : Pat) (es : List Expr), ckPs X.N tg p es = true → PGs X es (tPs X.K C p)
  | .v i, es, h => by cases es <;> simp [ckPs] at h
  | .nil, es, h => by
    cases es with
    | cons e es => simp [ckPs] at h
    | nil =>
      refine PGs.mono pgs_nil fun vs σ H Q hw => ?_
      obtain ⟨L, F, A, T, env, ds, env', hl, hi, r, b, fr, q⟩ := hw
      cases ds with
      | cons d ds => simp [bindPats] at b
      | nil =>
        have b : some env = some env' := by simpa only [bindPats] using b
        cases b
        cases r
        exact ⟨rfl, q σ hi ⟨rfl, fun _ _ => rfl⟩⟩
  | .cons p ps, es, h => by
    cases es with
    | nil => simp [ckPs] at h
    | cons e es =>
      simp only [ckPs, Bool.and_eq_true] at h
      refine PGs.mono (pgs_cons (pg_pat G p e h.1.1) (pgs_pat G ps es h.1.2) (by rw [assign_each h.2]; rfl)) fun vs σ H Q hw => ?_
      obtain ⟨L, F, A, T, env, ds, env', hl, hi, r, b, fr, q⟩ := hw
      cases ds with
      | nil => simp [bindPats] at b
      | cons d ds =>
        cases r with
        | cons r rs =>
          rename_i v vs
          have b : ((bindPat p d env).bind fun env1 => bindPats ps ds env1) = some env' := by simpa only [bindPats] using b
          cases e1 : bindPat p d env with
          | none => rw [e1] at b; cases b
          | some env1 =>
            rw [e1] at b
            rw [slotsP, List.all_append, Bool.and_eq_true] at fr
            refine ⟨v, vs, rfl, L, F, A, T, env, d, env1, hl, ?_, e1, fr.1, fun σ1 i1 o1 => ?_⟩
            · obtain ⟨I, s, o, l⟩ := hi
              exact ⟨I, s, (o.addRp r).perm List.perm_middle.symm, l⟩
            · exact ⟨L, F, A, T, env1, ds, env', hl, i1, rs, b, fr.2, fun σ2 i2 o2 => q σ2 i2 (off_cons o1 o2)⟩
end
end PL
end

section
set_option maxRecDepth 100000
/-! PlSn2: what is walked. -/
namespace PL
open PySem PySem.Spec PyProof.Rows L2

/-- a walk over the data ds -/
def Wk (K : PySem.W.Frag) (F : Hp) (J : L2.It) (ds : List D) : Prop := ∃ G Y, Walk J ds.length G Y ∧ (∀ H, Same F H → G H) ∧
  ∀ i H x H' d F2, Same F F2 → ds[i]? = some d → Y i H x H' → ∀ A I, Ok K F2 H A I → ∃ F', Same F2 F' ∧ Ok K F' H' A ((x, (0, d)) :: I)
def tI (K : PySem.W.Frag) (C : Cf) (W : WX) (e : E) : TI := fun σ H R => ∃ L F A T env, Lko C L ∧ In K L F env σ H A T ∧
  Post K C W L F A T σ (evC C e env) fun xs env' F' H' => ∃ ds, ksD xs = some ds ∧ (ds.length ≤ sizeLine → ∀ J, Wk K F' J ds → In K L F' env' σ H' A T → R J H')
variable {X : Cx} {C : Cf} {nt : NT} {n : Nat} {sc tg : Scope} {W : WX} {K : PySem.W.Frag}
theorem PI.mono {e t : Expr} {a b : TI} (h : PI X t e a) (f : ∀ σ H R, b σ H R → a σ H R) : PI X t e b := ⟨fun pins s σ H R I hw => h.run pins s σ H R I (f σ H R hw)⟩
theorem PI.or {e t : Expr} {a b : TI} (h : PI X t e a) (h' : PI X t e b) : PI X t e (fun σ H R => a σ H R ∨ b σ H R) := ⟨fun pins s σ H R I hw => hw.elim (h.run pins s σ H R I) (h'.run pins s σ H R I)⟩

/-- new values are frozen -/
theorem In.rps {L : List (Nat × V)} {env : Env} {σ : L2.St} {A : List Addr} : ∀ {xs : List Item} {vs : List V} {T' T : List It} {ds : List D} {F H : Hp}, In K L F env σ H A (T' ++ T) → IT σ xs vs T' → ksD xs = some ds →
    ∃ F', Same F F' ∧ In K L F' env σ H A T ∧ RpL K F' vs ds := by
  intro xs vs T' T ds F H i it
  revert ds F H
  induction it with
  | nil =>
    intro ds F H i e
    cases e
    exact ⟨F, Same.refl F, i, .nil⟩
  | slot _ _ =>
    intro ds F H i e
    cases e
  | @val kd xs v vs T' it ih =>
    intro ds F H i e
    obtain ⟨k, d⟩ := kd
    have e : (ksD xs).map (d :: ·) = some ds := e
    cases e1 : ksD xs with
    | none => rw [e1] at e; cases e
    | some ds' =>
      rw [e1] at e
      cases e
      obtain ⟨I, s, o, l⟩ := i
      have o : Ok K F H A ((v, (k, d)) :: (I ++ (T' ++ T))) := o.perm (by
        show (I ++ ((v, (k, d)) :: T' ++ T)).Perm _
        exact List.perm_middle)
      obtain ⟨F1, s1, o1⟩ := o.lower (Nat.zero_le k)
      obtain ⟨F2, s2, i2, r2⟩ := ih (F := F1) (H := H) ⟨I, s, o1.drop, l⟩ e1
      exact ⟨F2, s1.trans s2, i2, .cons (o1.rp.mono s2) r2⟩
theorem rpl_len {F : Hp} {xs : List V} {ds : List D} (h : RpL K F xs ds) : xs.length = ds.length := h.length
/-- rows as they stand -/
theorem rowL {F H : Hp} {v : V} {ds : List D} (s : Same F H) (r : Rp K F v (.list ds)) : ∃ a xs, v = .ref a ∧ (∀ H, Same F H → SqL K H a xs) ∧ RpL K F xs ds ∧ xs.length ≤ sizeLine := by
  cases r with
  | lst h hz r => exact ⟨_, _, rfl, fun H s => (h.mono s).sql, r, hz⟩
theorem rowT {F H : Hp} {v : V} {ds : List D} (s : Same F H) (r : Rp K F v (.tuple ds)) : ∃ a xs, v = .ref a ∧ (∀ H, Same F H → SqT K H a xs) ∧ RpL K F xs ds ∧ xs.length ≤ sizeLine := by
  cases r with
  | tup h hz r => exact ⟨_, _, rfl, fun H s => sqT_mono s h, r, hz⟩
theorem wk_at {F : Hp} {J : L2.It} {xs : List V} {ds : List D} {G : Hp → Prop} (w : Walk J xs.length G (YAt xs)) (g : ∀ H, Same F H → G H) (r : RpL K F xs ds) : Wk K F J ds := by
  refine ⟨G, YAt xs, r.length ▸ w, g, fun i H x H' d F2 s e y A I o => ?_⟩
  obtain ⟨e1, e2⟩ := y
  subst e1
  obtain ⟨d', e3, rx⟩ := r.getV e2
  rw [e] at e3
  cases e3
  exact ⟨F2, Same.refl _, o.addRp (rx.mono s)⟩
theorem wk_list {F : Hp} {a : Addr} {xs : List V} {ds : List D} (g : ∀ H, Same F H → SqL K H a xs) (r : RpL K F xs ds) : Wk K F (Itl K a) ds := wk_at walk_list g r
theorem wk_tup {F : Hp} {a : Addr} {xs : List V} {ds : List D} (g : ∀ H, Same F H → SqT K H a xs) (r : RpL K F xs ds) : Wk K F (Itt K a) ds := wk_at walk_tup g r
theorem rangeD_len {a b : Int} : (rangeD a b).length = (b - a).toNat := by unfold rangeD; simp
theorem wk_range {F : Hp} {a b : Int} : Wk K F (Itr a (b - a).toNat) (rangeD a b) := by
  have w : Walk (Itr a (b - a).toNat) (rangeD a b).length (fun _ => True) (YFn fun i => .int (a + i)) := by rw [rangeD_len]; exact walk_range
  refine ⟨_, _, w, fun _ _ => trivial, fun i H x H' d F2 s e y A I o => ?_⟩
  obtain ⟨e1, e2⟩ := y
  subst e1 e2
  have e : d = .int (a + i) := by
    unfold rangeD at e
    rw [List.getElem?_map] at e
    cases e4 : (List.range (b - a).toNat)[i]? with
    | none => rw [e4] at e; cases e
    | some j =>
      rw [e4] at e
      obtain ⟨h1, h2⟩ := List.getElem?_eq_some_iff.mp e4
      rw [List.getElem_range] at h2
      subst h2
      exact (Option.some.inj e).symm
  subst e
  exact ⟨F2, Same.refl _, o.addRp (.int _)⟩
/-- a new tuple, frozen at once -/
theorem Ok.pair {F H : Hp} {A : List Addr} {I : List It} {p : Addr} {vs : List V} {ds : List D} (o : Ok K F H A I) (hp : H p = none) (r : RpL K F vs ds) (hz : vs.length ≤ sizeLine) :
    ∃ F', Same F F' ∧ Ok K F' (upd H p (.tup vs)) A ((.ref p, (0, .tuple ds)) :: I) := by
  have o1 := o.alloc (o := .tup vs) hp
  obtain ⟨s2, o2⟩ := o1.ice (upd_same (H := H))
  refine ⟨_, s2, o2.addRp (.tup (.inl (.inl upd_same)) hz (r.mono s2))⟩
theorem wk_pair {F : Hp} {J : L2.It} {xs ys : Nat → Option V} {ds : List D} {G : Hp → Prop} (w : Walk J ds.length G (YPair xs ys)) (g : ∀ H, Same F H → G H)
    (r : ∀ i d x y, ds[i]? = some d → xs i = some x → ys i = some y → ∃ a b, d = .tuple [a, b] ∧ Rp K F x a ∧ Rp K F y b) : Wk K F J ds := by
  refine ⟨G, _, w, g, fun i H v H' d F2 s e y A I o => ?_⟩
  obtain ⟨T, x, y, e1, e2, e3, e4, e5⟩ := y
  subst e1 e3
  obtain ⟨a, b, e6, r1, r2⟩ := r i d x y e e4 e5
  subst e6
  exact o.pair e2 (.cons (r1.mono s) (.cons (r2.mono s) .nil)) (by show 2 ≤ sizeLine; decide)
theorem enumD_len : ∀ {ds : List D} {k : Nat}, (enumD k ds).length = ds.length
  | [], _ => rfl
  | _ :: ds, k => congrArg (· + 1) (enumD_len (ds := ds) (k := k + 1))
theorem enumD_get : ∀ {ds : List D} {k i : Nat} {d : D}, (enumD k ds)[i]? = some d → ∃ x, ds[i]? = some x ∧ d = .tuple [.int ((k + i : Nat) : Int), x]
  | [], _, _, _, h => by simp [enumD] at h
  | x :: ds, k, 0, d, h => by
    simp [enumD] at h
    exact ⟨x, by simp, by rw [← h]; simp⟩
  | x :: ds, k, i + 1, d, h => by
    obtain ⟨y, e1, e2⟩ := enumD_get (ds := ds) (k := k + 1) (i := i) (by simpa [enumD] using h)
    refine ⟨y, by simpa using e1, ?_⟩
    rw [e2]
    have e3 : k + 1 + i = k + (i + 1) := by omega
    rw [e3]
theorem wk_enum {F : Hp} {a : Addr} {xs : List V} {ds : List D} (g : ∀ H, Same F H → SqL K H a xs) (r : RpL K F xs ds) : Wk K F (Ite K a) (enumD 0 ds) := by
  refine wk_pair (xs := fun i => some (.int (i : Nat))) (ys := fun i => xs[i]?) ?_ g fun i d x y e e1 e2 => ?_
  · rw [enumD_len, ← r.length]
    exact walk_enum
  · cases e1
    obtain ⟨z, e3, e4⟩ := enumD_get e
    obtain ⟨v, e5, rv⟩ := r.get e3
    have e2 : xs[i]? = some y := e2
    rw [e2] at e5
    cases e5
    refine ⟨_, z, e4, ?_, rv⟩
    rw [Nat.zero_add]
    exact .int _
theorem walk_enumT {a : Addr} {xs : List V} : Walk (IteT K a) xs.length (fun H => SqT K H a xs) (YPair (fun i => some (.int (i : Nat))) (fun i => xs[i]?)) := by
  refine ⟨fun i _ hi q => ⟨xs, xs[i], q, by simp [hi]⟩, fun _ q => ⟨xs, q, Nat.le_refl _⟩, fun i H v H' _ q y => ?_⟩
  obtain ⟨T, x, h1, h2, h3, h4⟩ := y
  exact ⟨T, _, x, h1, h2, h3, rfl, h4 xs q⟩
theorem wk_enumT {F : Hp} {a : Addr} {xs : List V} {ds : List D} (g : ∀ H, Same F H → SqT K H a xs) (r : RpL K F xs ds) : Wk K F (IteT K a) (enumD 0 ds) := by
  refine wk_pair (xs := fun i => some (.int (i : Nat))) (ys := fun i => xs[i]?) ?_ g fun i d x y e e1 e2 => ?_
  · rw [enumD_len, ← r.length]
    exact walk_enumT
  · cases e1
    obtain ⟨z, e3, e4⟩ := enumD_get e
    obtain ⟨v, e5, rv⟩ := r.get e3
    have e2 : xs[i]? = some y := e2
    rw [e2] at e5
    cases e5
    refine ⟨_, z, e4, ?_, rv⟩
    rw [Nat.zero_add]
    exact .int _
theorem zipD_len : ∀ {xs ys : List D}, (zipD xs ys).length = min xs.length ys.length
  | [], ys => by simp [zipD]
  | x :: xs, [] => by simp [zipD]
  | x :: xs, y :: ys => by simp [zipD, zipD_len (xs := xs) (ys := ys), Nat.succ_min_succ]
theorem zipD_get : ∀ {xs ys : List D} {i : Nat} {d : D}, (zipD xs ys)[i]? = some d → ∃ x y, xs[i]? = some x ∧ ys[i]? = some y ∧ d = .tuple [x, y]
  | [], ys, i, d, h => by simp [zipD] at h
  | x :: xs, [], i, d, h => by simp [zipD] at h
  | x :: xs, y :: ys, 0, d, h => by
    simp [zipD] at h
    exact ⟨x, y, by simp, by simp, h.symm⟩
  | x :: xs, y :: ys, i + 1, d, h => by
    obtain ⟨a, b, e1, e2, e3⟩ := zipD_get (xs := xs) (ys := ys) (i := i) (by simpa [zipD] using h)
    exact ⟨a, b, by simpa using e1, by simpa using e2, e3⟩
theorem zip_rp {F : Hp} {xs ys : List V} {ds es : List D} (r : RpL K F xs ds) (q : RpL K F ys es) : ∀ (i : Nat) (d : D) (x y : V), (zipD ds es)[i]? = some d → xs[i]? = some x → ys[i]? = some y → ∃ a b, d = .tuple [a, b] ∧ Rp K F x a ∧ Rp K F y b := by
  intro i d x y e e1 e2
  obtain ⟨a, b, e3, e4, e5⟩ := zipD_get e
  obtain ⟨a', e6, r1⟩ := r.getV e1
  obtain ⟨b', e7, r2⟩ := q.getV e2
  rw [e3] at e6; cases e6
  rw [e4] at e7; cases e7
  exact ⟨a, b, e5, r1, r2⟩
theorem wk_zip {F : Hp} {a b : Addr} {xs ys : List V} {ds es : List D} (g : ∀ H, Same F H → SqL K H a xs) (r : RpL K F xs ds) (g2 : ∀ H, Same F H → SqL K H b ys) (q : RpL K F ys es) : Wk K F (Itz K a b) (zipD ds es) := by
  exact wk_pair (walk_zip (by rw [zipD_len, r.length, q.length])) (fun H s => ⟨g H s, g2 H s⟩) (zip_rp r q)
theorem walk_zipT {a b : Addr} {xs ys : List V} {n : Nat} (hn : n = min xs.length ys.length) : Walk (RZ.ItzT K a b) n (fun H => SqT K H a xs ∧ SqT K H b ys) (YPair (fun i => xs[i]?) (fun i => ys[i]?)) := by
  subst hn
  refine ⟨fun i _ hi q => ?_, fun _ q => ⟨xs, ys, q.1, q.2, by omega⟩, fun i H v H' _ q y => ?_⟩
  · have h1 : i < xs.length := by omega
    have h2 : i < ys.length := by omega
    exact ⟨xs, ys, xs[i], ys[i], q.1, q.2, by simp [h1], by simp [h2]⟩
  · obtain ⟨T, x, z, h1, h2, h3, h4, h5⟩ := y
    exact ⟨T, x, z, h1, h2, h3, h4 xs q.1, h5 ys q.2⟩
theorem wk_zipT {F : Hp} {a b : Addr} {xs ys : List V} {ds es : List D} (g : ∀ H, Same F H → SqT K H a xs) (r : RpL K F xs ds) (g2 : ∀ H, Same F H → SqT K H b ys) (q : RpL K F ys es) : Wk K F (RZ.ItzT K a b) (zipD ds es) := by
  exact wk_pair (walk_zipT (by rw [zipD_len, r.length, q.length])) (fun H s => ⟨g H s, g2 H s⟩) (zip_rp r q)
theorem wk_str {F : Hp} {z : Str} : Wk K F (Its z) (z.cps.toList.map fun c => .str ⟨#[c]⟩) := by
  have hn : (z.cps.toList.map fun c => PyData.str ⟨#[c]⟩).length = z.cps.size := by simp
  refine ⟨_, _, hn ▸ walk_str, fun _ _ => trivial, fun i H x H' d F2 s e y A I o => ?_⟩
  obtain ⟨e1, c, e2, e3⟩ := y
  subst e1 e3
  have e : d = .str ⟨#[c]⟩ := by
    rw [List.getElem?_map, Array.getElem?_toList, e2] at e
    exact (Option.some.inj e).symm
  subst e
  exact ⟨F2, Same.refl _, o.addRp (.str _ (by show 1 ≤ sizeLine; decide))⟩

/-- an iteration's operands -/
def IW (K : PySem.W.Frag) (k : Ik) (vs : List V) (H : Hp) (R : L2.It → Hp → Prop) : Prop :=
  ∃ F ds ws, Same F H ∧ RpL K F vs ds ∧ iterOf k ds = some ws ∧ (ws.length ≤ sizeLine → ∀ J, Wk K F J ws → R J H)
theorem ksD_vals : ∀ {ws : List D}, ksD (ws.map fun v => Item.val (0, v)) = some ws
  | [] => rfl
  | w :: ws => by
    show (ksD (ws.map fun v => Item.val (0, v))).map (w :: ·) = _
    rw [ksD_vals (ws := ws)]; rfl
theorem tI_of {k : Ik} {es : E} {σ : L2.St} {H : Hp} {R : L2.It → Hp → Prop} (h : tI K C W (.iter k es) σ H R) : tX K C W es σ H fun vs H1 => IW K k vs H1 R := by
  obtain ⟨L, F, A, T, env, hl, i, p⟩ := h
  refine ⟨L, F, A, T, env, hl, i, ?_⟩
  have p : Post K C W L F A T σ ((evC C es env).bind fun xs env1 => match ksD xs with
    | none => .bad "iter"
    | some ds => (match iterOf k ds with
      | some vs => .ok (vs.map fun v => Item.val (0, v)) env1
      | none => .bad "iter of")) _ := p
  refine Post.step [] p fun xs env' F' H' e s q vs T' it i' => ?_
  cases e1 : ksD xs with
  | none => simp only [e1] at q; exact q.elim
  | some ds =>
    simp only [e1] at q
    cases e2 : iterOf k ds with
    | none => simp only [e2] at q; exact q.elim
    | some ws =>
      simp only [e2] at q
      obtain ⟨F2, s2, i2, r2⟩ := i'.rps it e1
      obtain ⟨ds', e3, f⟩ := q F2 H' s2
      rw [ksD_vals] at e3
      cases e3
      exact ⟨F2, ds, ws, i2.same, r2, e2, fun hz J w => f hz J w i2⟩
/-! ### the kinds -/
theorem rp_strlen {F : Hp} {v : V} {z : Str} (r : Rp K F v (.str z)) : v = .str z ∧ z.length ≤ sizeLine := by
  cases r with
  | str _ h => exact ⟨rfl, h⟩
theorem rp_int {F : Hp} {v : V} {i : Int} (r : Rp K F v (.int i)) : v = .int i := by
  cases r; rfl
theorem le_max {n : Nat} (h : n ≤ maxLen) : n ≤ sizeLine := h
theorem tX_imp {e : E} {σ : L2.St} {H : Hp} {Q Q' : List V → Hp → Prop} (h : tX K C W e σ H Q) (f : ∀ vs H, Q vs H → Q' vs H) : tX K C W e σ H Q' := by
  obtain ⟨L, F, A, T, env, hl, i, p⟩ := h
  exact ⟨L, F, A, T, env, hl, i, Post.mono p (Same.refl _) fun xs env' F' H' _ _ q vs T' it i' => f vs H' (q vs T' it i')⟩
theorem tE_one {e : E} {σ : L2.St} {H : Hp} {Q : List V → Hp → Prop} (h1 : one e = true) (h : tX K C W e σ H Q) : tE K C W e σ H fun v H1 => Q [v] H1 := by
  obtain ⟨L, F, A, T, env, hl, i, p⟩ := h
  refine ⟨L, F, A, T, env, hl, i, Post.mono p (Same.refl _) fun xs env' F' H' _ e q vs T' it i' => ?_⟩
  obtain ⟨x, ex⟩ := ev_one C _ h1 _ _ _ e
  subst ex
  obtain ⟨v, ev⟩ := one_val it
  subst ev
  exact ⟨v, rfl, q _ _ it i'⟩
theorem pi_seq {tg e : Expr} {te : TE} (he : PE X e te) : PI X tg e (fun σ H R => te σ H fun v H1 => IW X.K .seq [v] H1 R) := by
  refine ⟨fun pins s σ H R I h => ?_⟩
  refine thn (he.run pins s σ H _ I h) fun u s1 ⟨v, H1, I1, r1, F, ds, ws, s0, r, e, f⟩ => ?_
  cases r with
  | cons r rr =>
    cases rr
    rename_i d
    cases d with
    | list xs =>
      cases e
      obtain ⟨a, vs, e1, g, rl, hz⟩ := rowL s0 r
      subst e1
      cases r1
      obtain ⟨its, rv, p, _⟩ := I1.list (g H1 s0)
      exact wpAny_pyIter_list p.isList (pi_one (tk := s1.toks) I1 _ (turn_list a _) ⟨_, Heap.get?_push_size _ rfl, rfl, rfl⟩ (f (rl.length ▸ hz) _ (wk_list g rl)))
    | tuple xs =>
      cases e
      obtain ⟨a, vs, e1, g, rl, hz⟩ := rowT s0 r
      subst e1
      cases r1
      obtain ⟨its, rv, p, _⟩ := I1.tuple (g H1 s0)
      exact wpAny_pyIter_tuple (show s1.heap.IsTuple a its.toArray from p) (pi_one (tk := s1.toks) I1 _ (turn_tuple a _) ⟨_, Heap.get?_push_size _ rfl, rfl, rfl⟩ (f (rl.length ▸ hz) _ (wk_tup g rl)))
    | str x =>
      cases e
      obtain ⟨e1, hz⟩ := rp_strlen r
      subst e1
      obtain ⟨t, rfl⟩ := r1
      have q := f (by rw [List.length_map, Array.length_toList]; exact hz) _ wk_str
      cases ha : x.cps.all (· < 128)
      · exact wpAny_pyIter_wide ha (pi_one (tk := s1.toks) I1 _ (turn_str _ x t "str_iterator" (.inr rfl)) ⟨_, Heap.get?_push_size _ rfl, rfl, rfl⟩ q)
      · exact wpAny_pyIter_ascii ha (pi_one (tk := s1.toks) I1 _ (turn_str _ x t "str_ascii_iterator" (.inl rfl)) ⟨_, Heap.get?_push_size _ rfl, rfl, rfl⟩ q)
    | _ => cases e
theorem iw_rng1 {vs : List V} {H : Hp} {R : L2.It → Hp → Prop} (h : IW K .range1 vs H R) : ∃ j, vs = [V.int j] ∧ -2 ^ 62 ≤ j ∧ j < 2 ^ 62 ∧ R (Itr 0 (Int.toNat j)) H := by
  obtain ⟨F, ds, ws, s0, r, e, f⟩ := h
  match ds, r, e with
  | [], _, e => cases e
  | [d], .cons r .nil, e =>
    have e0 : rng1 d = some ws := e
    clear e
    cases d <;> first | (cases e0; done) | skip
    rename_i j
    have e : (if szOk j.toNat && decide (-(2 ^ 62) ≤ j) then some (rangeD 0 j) else none) = some ws := e0
    clear e0
    split at e
    · rename_i hc
      rw [Bool.and_eq_true, decide_eq_true_eq] at hc
      have hz : j.toNat ≤ 16777216 := of_decide_eq_true hc.1
      cases e
      rw [rp_int r]
      refine ⟨j, rfl, hc.2, by omega, ?_⟩
      have := f (by rw [rangeD_len]; rw [Int.sub_zero]; exact hz) (Itr 0 (j - 0).toNat) wk_range
      rwa [Int.sub_zero] at this
    · cases e
  | [d, d2], .cons r _, e => cases e
  | _ :: _ :: _ :: _, _, e => cases e
theorem iw_rng2 {vs : List V} {H : Hp} {R : L2.It → Hp → Prop} (h : IW K .range2 vs H R) : ∃ i j, vs = [V.int i, V.int j] ∧ (-2 ^ 62 ≤ i ∧ i < 2 ^ 62 ∧ -2 ^ 62 ≤ j ∧ j < 2 ^ 62) ∧ R (Itr i (Int.toNat (j - i))) H := by
  obtain ⟨F, ds, ws, s0, r, e, f⟩ := h
  match ds, r, e with
  | [], _, e => cases e
  | [d], .cons r _, e => cases e
  | [d, d2], .cons r (.cons r2 .nil), e =>
    have e0 : rng2 d d2 = some ws := e
    clear e
    cases d <;> cases d2 <;> first | (cases e0; done) | skip
    rename_i i j
    have e : (if szOk (j - i).toNat && (decide (-(2 ^ 62) ≤ i) && decide (i < 2 ^ 62) && decide (-(2 ^ 62) ≤ j) && decide (j < 2 ^ 62)) then some (rangeD i j) else none) = some ws := e0
    clear e0
    split at e
    · rename_i hc
      simp only [Bool.and_eq_true, decide_eq_true_eq] at hc
      obtain ⟨h0, ⟨⟨h1, h2⟩, h3⟩, h4⟩ := hc
      have hz : (j - i).toNat ≤ 16777216 := of_decide_eq_true h0
      cases e
      rw [rp_int r, rp_int r2]
      exact ⟨i, j, rfl, ⟨h1, h2, h3, h4⟩, f (by rw [rangeD_len]; exact hz) _ wk_range⟩
    · cases e
  | _ :: _ :: _ :: _, _, e => cases e
theorem iw_enum {vs : List V} {H : Hp} {R : L2.It → Hp → Prop} (h : IW K .enum vs H R) : ∃ a xs, vs = [.ref a] ∧ ((SqL K H a xs ∧ R (Ite K a) H) ∨ (SqT K H a xs ∧ R (IteT K a) H)) := by
  obtain ⟨F, ds, ws, s0, r, e, f⟩ := h
  match ds, r, e with
  | [], _, e => cases e
  | [d], .cons r .nil, e =>
    have e : (seqOf d).map (enumD 0) = some ws := e
    cases d <;> first | (cases e; done) | skip
    · cases e
      obtain ⟨a, xs, e1, g, rl, hz⟩ := rowL s0 r
      subst e1
      exact ⟨a, xs, rfl, .inl ⟨g H s0, f (by rw [enumD_len, ← rl.length]; exact hz) _ (wk_enum g rl)⟩⟩
    · cases e
      obtain ⟨a, xs, e1, g, rl, hz⟩ := rowT s0 r
      subst e1
      exact ⟨a, xs, rfl, .inr ⟨g H s0, f (by rw [enumD_len, ← rl.length]; exact hz) _ (wk_enumT g rl)⟩⟩
  | [d, d2], .cons r _, e => cases e
  | _ :: _ :: _ :: _, _, e => cases e
theorem iw_zip {vs : List V} {H : Hp} {R : L2.It → Hp → Prop} (h : IW K .zip vs H R) : ∃ a b xs ys, vs = [.ref a, .ref b] ∧ ((SqL K H a xs ∧ SqL K H b ys ∧ R (Itz K a b) H) ∨ (SqT K H a xs ∧ SqT K H b ys ∧ R (RZ.ItzT K a b) H)) := by
  obtain ⟨F, ds, ws, s0, r, e, f⟩ := h
  match ds, r, e with
  | [], _, e => cases e
  | [d], .cons r _, e => cases e
  | [d, d2], .cons r (.cons r2 .nil), e =>
    have e : (if isListD d == isListD d2 || beyond then sZip d d2 else none) = some ws := e
    split at e
    · rename_i hc
      cases d <;> first | (cases e; done) | skip
      all_goals cases d2 <;> first | (cases e; done) | (simp [isListD, beyond] at hc; done) | skip
      · cases e
        obtain ⟨a, xs, e1, g, rl, hz⟩ := rowL s0 r
        obtain ⟨b, ys, e2, g2, rl2, hz2⟩ := rowL s0 r2
        subst e1 e2
        exact ⟨a, b, xs, ys, rfl, .inl ⟨g H s0, g2 H s0, f (by rw [zipD_len, ← rl.length]; exact Nat.le_trans (Nat.min_le_left _ _) hz) _ (wk_zip g rl g2 rl2)⟩⟩
      · cases e
        obtain ⟨a, xs, e1, g, rl, hz⟩ := rowT s0 r
        obtain ⟨b, ys, e2, g2, rl2, hz2⟩ := rowT s0 r2
        subst e1 e2
        exact ⟨a, b, xs, ys, rfl, .inr ⟨g H s0, g2 H s0, f (by rw [zipD_len, ← rl.length]; exact Nat.le_trans (Nat.min_le_left _ _) hz) _ (wk_zipT g rl g2 rl2)⟩⟩
    · cases e
  | _ :: _ :: _ :: _, _, e => cases e
end PL
end

section
set_option maxRecDepth 100000
/-! PlSn3: the readings taken apart. -/
namespace PL
open PySem PySem.Spec PyProof.Rows L2
variable {X : Cx} {C : Cf} {nt : NT} {n : Nat} {sc tg : Scope} {W : WX} {K : PySem.W.Frag} {σ : L2.St} {H : Hp}

/-! ### single values -/
theorem tE_var {i : Nat} {Q : VK} (h : tE K C W (.var i) σ H Q) : tVar i σ H Q := by
  obtain ⟨L, F, A, T, env, hl, hi, p⟩ := h
  simp only [evC, ev] at p
  cases e : getS env i with
  | none => rw [e] at p; exact p.elim
  | some kd =>
    obtain ⟨k, d⟩ := kd
    rw [e] at p
    obtain ⟨v, J, e1, o, f, g⟩ := hi.pick e
    obtain ⟨F1, s1, o1⟩ := o.lower (Nat.zero_le k)
    have r := o1.rp
    have i1 : In K L F1 (env.set i (some (0, d))) σ H A T := f _ _ _ _ _ o1
    have ef : freezeS env i = env.set i (some (0, d)) := by unfold freezeS; rw [e]
    obtain ⟨v', ev, q⟩ := p F1 H s1 [v] [(v, (0, d))] (.val .nil) (by
      rw [ef]
      exact i1.ext (U := [(v, (0, d))]) fun I o => o.addRp r)
    cases ev
    exact ⟨v, e1, q⟩
theorem tE_mov {i : Nat} {Q : VK} (h : tE K C W (.mov i) σ H Q) : tVar i σ H Q := by
  obtain ⟨L, F, A, T, env, hl, hi, p⟩ := h
  simp only [evC, ev] at p
  cases e : getS env i with
  | none => rw [e] at p; exact p.elim
  | some kd =>
    obtain ⟨k, d⟩ := kd
    rw [e] at p
    obtain ⟨v, J, e1, o, f, g⟩ := hi.pick e
    obtain ⟨v', ev, q⟩ := p F H (Same.refl _) [v] [(v, (k, d))] (.val .nil) (g _ _ _ _ (o.perm List.perm_middle.symm))
    cases ev
    exact ⟨v, e1, q⟩
theorem tE_bor {i : Nat} {Q : VK} (h : tE K C W (.bor i) σ H Q) : tVar i σ H Q := by
  obtain ⟨L, F, A, T, env, hl, hi, p⟩ := h
  simp only [evC, ev] at p
  cases e : getS env i with
  | none => rw [e] at p; exact p.elim
  | some kd =>
    rw [e] at p
    obtain ⟨v, e1⟩ := hi.var e
    obtain ⟨v', ev, q⟩ := p F H (Same.refl _) [v] [] (.slot e1 .nil) hi
    cases ev
    exact ⟨v, e1, q⟩
theorem tE_cst {d : D} {v : V} {Q : VK} (r : ∀ F, Rp K F v d) (h : tE K C W (.cst d) σ H Q) : tC v σ H Q := by
  obtain ⟨L, F, A, T, env, hl, hi, p⟩ := h
  obtain ⟨v', ev, q⟩ := p F H (Same.refl _) [v] [(v, (0, d))] (.val .nil) (hi.ext (U := [(v, (0, d))]) fun I o => o.addRp (r F))
  cases ev
  exact q
theorem tE_glb {g : Nat} {Q : VK} (r : ∀ d, C.glb g = some d → ∃ v, (∀ F, Rp K F v d)) (h : tE K C W (.glb g) σ H Q) : ∃ d, C.glb g = some d ∧ ∀ v, (∀ F, Rp K F v d) → tC v σ H Q := by
  obtain ⟨L, F, A, T, env, hl, hi, p⟩ := h
  simp only [evC, ev] at p
  cases e : C.glb g with
  | none => rw [e] at p; exact p.elim
  | some d =>
    rw [e] at p
    refine ⟨d, rfl, fun v rv => ?_⟩
    obtain ⟨v', ev, q⟩ := p F H (Same.refl _) [v] [(v, (0, d))] (.val .nil) (hi.ext (U := [(v, (0, d))]) fun I o => o.addRp (rv F))
    cases ev
    exact q

/-! ### rows -/
theorem tX_nil {Q : List V → Hp → Prop} (h : tX K C W .nil σ H Q) : tNil σ H Q := by
  obtain ⟨L, F, A, T, env, hl, hi, p⟩ := h
  exact p F H (Same.refl _) [] [] .nil hi
theorem in_swap {L : List (Nat × V)} {F : Hp} {env : Env} {A : List Addr} {T T' T2 : List It} (i2 : In K L F env σ H A (T2 ++ (T' ++ T))) : In K L F env σ H A ((T' ++ T2) ++ T) := by
  refine i2.perm ?_
  rw [← List.append_assoc]
  exact List.Perm.append_right T List.perm_append_comm
theorem tX_cons {a es : E} {Q : List V → Hp → Prop} (ha : one a = true) (h : tX K C W (.cons a es) σ H Q) : tCons (tE K C W a) (tX K C W es) σ H Q := by
  obtain ⟨L, F, A, T, env, hl, i, p⟩ := h
  refine ⟨L, F, A, T, env, hl, i, ?_⟩
  have p : Post K C W L F A T σ ((evC C a env).bind fun xs env1 => (evC C es env1).bind fun ys env2 => R.ok (xs ++ ys) env2) _ := p
  refine Post.step [] p fun xs env' F' H' e s q vs T' it i' => ?_
  obtain ⟨x, ex⟩ := ev_one C _ ha _ _ _ e
  subst ex
  obtain ⟨v, ev⟩ := one_val it
  subst ev
  refine ⟨v, rfl, L, F', A, T' ++ T, env', hl, i', ?_⟩
  refine Post.step T' q fun ys env2 F2 H2 e2 s2 q2 ws T2 it2 i2 => ?_
  exact q2 F2 H2 (Same.refl _) (v :: ws) (T' ++ T2) (it.append it2) (in_swap i2)
theorem rpl_it {F : Hp} {vs : List V} {ds : List D} (r : RpL K F vs ds) : ∃ T', IT σ (ds.map fun d => Item.val (0, d)) vs T' ∧ ∀ L (env : Env) H A T, In K L F env σ H A T → In K L F env σ H A (T' ++ T) := by
  induction vs generalizing ds with
  | nil => cases r; exact ⟨[], .nil, fun _ _ _ _ _ i => i⟩
  | cons v vs ih =>
    cases r with
    | cons r rs =>
      rename_i d ds'
      obtain ⟨T', it, f⟩ := ih rs
      refine ⟨(v, (0, d)) :: T', .val it, fun L env H A T i => ?_⟩
      exact (f L env H A T i).ext (U := [(v, (0, d))]) fun I o => o.addRp r
theorem tX_star {a es : E} {Q : List V → Hp → Prop} (ha : one a = true) (h : tX K C W (.star a es) σ H Q) : StX.tStar K (tE K C W a) (tX K C W es) σ H Q := by
  obtain ⟨L, F, A, T, env, hl, i, p⟩ := h
  refine ⟨L, F, A, T, env, hl, i, ?_⟩
  have p : Post K C W L F A T σ ((evC C a env).bind fun xs env1 => match xs with
    | [.val (_, d)] => (match seqOf d with
      | some ds => (evC C es env1).bind fun ys env2 => .ok (ds.map (fun d => Item.val (0, d)) ++ ys) env2
      | none => .bad "star")
    | _ => .bad "star") _ := p
  refine Post.step [] p fun xs env' F' H' e s q vs T' it i' => ?_
  obtain ⟨x, ex⟩ := ev_one C _ ha _ _ _ e
  subst ex
  cases x with
  | slot j => exact q.elim
  | val kd =>
    obtain ⟨k, d⟩ := kd
    cases e1 : seqOf d with
    | none => simp only [e1] at q; exact q.elim
    | some ds =>
      simp only [e1] at q
      cases it with
      | val it =>
        cases it
        rename_i v
        obtain ⟨F1, s1, i1, r⟩ := i'.rps (xs := [.val (k, d)]) (.val .nil) (show ksD [.val (k, d)] = some [d] from rfl)
        cases r with
        | cons r rr =>
          obtain ⟨a, ws, e2, hx, rl⟩ := rp_seq i1.same r e1
          refine ⟨v, rfl, a, ws, e2, hx, ?_⟩
          obtain ⟨T1, it1, f1⟩ := rpl_it (σ := σ) rl
          refine ⟨L, F1, A, T1 ++ T, env', hl, f1 _ _ _ _ _ i1, ?_⟩
          have q : Post K C W L F1 A T σ _ _ := Post.mono q s1 fun _ _ _ _ _ _ z => z
          refine Post.step T1 q fun ys env2 F2 H2 e2 s2 q2 us T2 it2 i2 => ?_
          exact q2 F2 H2 (Same.refl _) (ws ++ us) (T1 ++ T2) (it1.append it2) (in_swap i2)
/-- three operands -/
theorem tE_op3 {o : Op} {a b c : E} {Q : VK} (ha : one a = true) (hb : one b = true) (hc : one c = true) (h : tE K C W (.op o (.cons a (.cons b (.cons c .nil)))) σ H Q) :
    tE K C W a σ H fun x H1 => tE K C W b σ H1 fun y H2 => tE K C W c σ H2 fun z H3 => OpW K o [x, y, z] H3 Q := by
  have h2 := tX_cons ha (tX_op h)
  obtain ⟨L, F, A, T, env, hl, i, p⟩ := h2
  refine ⟨L, F, A, T, env, hl, i, Post.mono p (Same.refl _) fun xs env' F' H' _ _ q vs T' it i' => ?_⟩
  obtain ⟨x, ex, q⟩ := q vs T' it i'
  refine ⟨x, ex, ?_⟩
  obtain ⟨L, F, A, T, env, hl, i, p⟩ := tX_cons hb q
  refine ⟨L, F, A, T, env, hl, i, Post.mono p (Same.refl _) fun xs env' F' H' _ _ q vs T' it i' => ?_⟩
  obtain ⟨y, ey, q⟩ := q vs T' it i'
  refine ⟨y, ey, ?_⟩
  obtain ⟨L, F, A, T, env, hl, i, p⟩ := tX_cons hc q
  refine ⟨L, F, A, T, env, hl, i, Post.mono p (Same.refl _) fun xs env' F' H' _ _ q vs T' it i' => ?_⟩
  obtain ⟨z, ez, q⟩ := q vs T' it i'
  exact ⟨z, ez, tX_nil q⟩
theorem tE_imp {e : E} {Q Q' : VK} (h : tE K C W e σ H Q) (f : ∀ v H, Q v H → Q' v H) : tE K C W e σ H Q' := tX_imp h fun vs H ⟨v, e, q⟩ => ⟨v, e, f v H q⟩

/-! ### tests -/
theorem View.ofRp {F : Hp} {v : V} {d : D} (r : Rp K F v d) : View K F H v d := .inl r
theorem tT_truth {e : E} {Q : Bool → Hp → Prop} (h : tT K C W e σ H Q) : tE K C W e σ H fun v H' => ∃ k, TruV K v H' k ∧ Q k H' := by
  obtain ⟨L, F, A, T, env, hl, i, p⟩ := h
  refine ⟨L, F, A, T, env, hl, i, Post.mono p (Same.refl _) fun xs env' F' H' _ _ q vs T' it i' => ?_⟩
  obtain ⟨x, kd, e, e2, q⟩ := q
  subst e
  obtain ⟨k, d⟩ := kd
  cases it with
  | @val _ _ v _ _ it =>
    cases it
    cases e2
    have i0 := i'
    obtain ⟨F1, s1, i1, r⟩ := i'.rps (xs := [.val (k, d)]) (.val .nil) (show ksD [.val (k, d)] = some [d] from rfl)
    cases r with
    | cons r rr => exact ⟨v, rfl, _, truV_of i1.same (View.ofRp r), q i0.drop1⟩
  | @slot j _ v _ _ hv it =>
    cases it
    obtain ⟨v', J, e1, o, _, _⟩ := i'.pick (kd := (k, d)) e2
    rw [hv] at e1
    cases e1
    obtain ⟨F1, s1, o1⟩ := o.lower (Nat.zero_le k)
    exact ⟨v, rfl, _, truV_of o1.same (View.ofRp o1.rp), q i'⟩
theorem tT_bool {e : E} {Q : Bool → Hp → Prop} (hb : ∀ env xs env', evC C e env = .ok xs env' → ∃ k b, xs = [.val (k, .bool b)]) (h : tT K C W e σ H Q) : tE K C W e σ H fun v H' => ∃ k, v = .bl k ∧ Q k H' := by
  obtain ⟨L, F, A, T, env, hl, i, p⟩ := h
  refine ⟨L, F, A, T, env, hl, i, Post.mono p (Same.refl _) fun xs env' F' H' _ e q vs T' it i' => ?_⟩
  obtain ⟨k, b, ex⟩ := hb _ _ _ e
  obtain ⟨x, kd, e, e2, q⟩ := q
  rw [ex] at e
  cases e
  cases e2
  subst ex
  cases it with
  | val it =>
    cases it
    rename_i v
    have i0 := i'
    obtain ⟨F1, s1, i1, r⟩ := i'.rps (xs := [.val (k, .bool b)]) (.val .nil) (show ksD [.val (k, .bool b)] = some [.bool b] from rfl)
    cases r with
    | cons r rr =>
      cases r
      exact ⟨_, rfl, b, rfl, q i0.drop1⟩
theorem op_bool {o : Op} {op : CmpOp} (h : cmpOf o = some op) {es : E} : ∀ env xs env', evC C (.op o es) env = .ok xs env' → ∃ k b, xs = [.val (k, .bool b)] := fun env xs env' e => by
  simp only [evC, ev] at e
  obtain ⟨ys, env1, _, h2⟩ := bind_eq_ok e
  unfold opR at h2
  split at h2
  · split at h2
    · rename_i kds _ d hd
      obtain ⟨b, eb⟩ := cmp_bool h hd
      cases h2
      exact ⟨_, b, by rw [eb]⟩
    · cases h2
  · cases h2

/-! ### and, or, if -/
theorem one_kd {m : String} {r : R (List Item)} {f : KD → Env → R (List Item)} {L : List (Nat × V)} {F : Hp} {A : List Addr} {T : List It} {Q : List Item → Env → Hp → Hp → Prop} {Q1 : List Item → Env → Hp → Hp → Prop}
    (h : Post K C W L F A T σ (oneKD m r f) Q) (k : ∀ kd env' F' H', r = .ok [.val kd] env' → Same F F' → Post K C W L F' A T σ (f kd env') Q → Q1 [.val kd] env' F' H') : Post K C W L F A T σ r Q1 := by
  unfold oneKD at h
  refine Post.step [] h fun xs env' F' H' e s q => ?_
  match xs, e, q with
  | [.val kd], e, q => exact k kd env' F' H' e s q
  | [], e, q => exact q.elim
  | [.slot _], e, q => exact q.elim
  | x :: y :: z, e, q => cases x <;> exact q.elim
/-- a value and what is told by its truth -/
theorem tE_tru {a : E} {m : String} {f : KD → Env → R (List Item)} {Q : VK} {Qf : Bool → V → Hp → Prop} {L : List (Nat × V)} {F : Hp} {A : List Addr} {T : List It} {env : Env} (hl : Lko C L) (i : In K L F env σ H A T)
    {Qx : List Item → Env → Hp → Hp → Prop} (p : Post K C W L F A T σ (oneKD m (evC C a env) f) Qx)
    (g : ∀ v kd env' F' H', Same F F' → In K L F' env' σ H' A ((v, kd) :: T) → Post K C W L F' A T σ (f kd env') Qx → Qf (truth kd.2) v H') :
    tE K C W a σ H fun v H' => ∃ k, TruV K v H' k ∧ Qf k v H' := by
  refine ⟨L, F, A, T, env, hl, i, one_kd p fun kd env' F' H' e s q vs T' it i' => ?_⟩
  cases it with
  | val it =>
    cases it
    rename_i v
    obtain ⟨k, d⟩ := kd
    have i0 : In K L F' env' σ H' A ((v, (k, d)) :: T) := i'
    obtain ⟨F1, s1, i1, r⟩ := i'.rps (xs := [.val (k, d)]) (.val .nil) (show ksD [.val (k, d)] = some [d] from rfl)
    cases r with
    | cons r rr => exact ⟨v, rfl, _, truV_of i1.same (View.ofRp r), g v (k, d) env' F' H' s i0 q⟩
theorem tE_and {a b : E} {Q : VK} (h : tE K C W (.and a b) σ H Q) : tAndT K (tE K C W a) (tE K C W b) σ H Q := by
  obtain ⟨L, F, A, T, env, hl, i, p⟩ := h
  refine tE_tru (m := "and") (f := fun kd env1 => if truth kd.2 then evC C b env1 else .ok [.val kd] env1) (Qf := fun k v H1 => if k = true then tE K C W b σ H1 Q else Q v H1) (Q := Q) hl i p fun v kd env' F' H' s i' q => ?_
  cases hk : truth kd.2 with
  | true =>
    simp only [hk, if_true] at q ⊢
    exact ⟨L, F', A, T, env', hl, i'.drop1, q⟩
  | false =>
    simp only [hk, Bool.false_eq_true, if_false] at q ⊢
    obtain ⟨v', e, q⟩ := q F' H' (Same.refl _) [v] [(v, kd)] (.val .nil) i'
    cases e
    exact q
theorem tE_or {a b : E} {Q : VK} (h : tE K C W (.or a b) σ H Q) : tOrT K (tE K C W a) (tE K C W b) σ H Q := by
  obtain ⟨L, F, A, T, env, hl, i, p⟩ := h
  refine tE_tru (m := "or") (f := fun kd env1 => if truth kd.2 then .ok [.val kd] env1 else evC C b env1) (Qf := fun k v H1 => if k = true then Q v H1 else tE K C W b σ H1 Q) (Q := Q) hl i p fun v kd env' F' H' s i' q => ?_
  cases hk : truth kd.2 with
  | false =>
    simp only [hk, Bool.false_eq_true, if_false] at q ⊢
    exact ⟨L, F', A, T, env', hl, i'.drop1, q⟩
  | true =>
    simp only [hk, if_true] at q ⊢
    obtain ⟨v', e, q⟩ := q F' H' (Same.refl _) [v] [(v, kd)] (.val .nil) i'
    cases e
    exact q
theorem tE_ite {c a b : E} {Q : VK} (h : tE K C W (.ite c a b) σ H Q) : tIf (tT K C W c) (tE K C W a) (tE K C W b) σ H Q := by
  obtain ⟨L, F, A, T, env, hl, i, p⟩ := h
  refine ⟨L, F, A, T, env, hl, i, one_kd (f := fun kd env1 => if truth kd.2 then evC C a env1 else evC C b env1) p fun kd env' F' H' e s q => ⟨_, kd, rfl, rfl, fun i' => ?_⟩⟩
  cases hk : truth kd.2 with
  | true =>
    simp only [hk, if_true] at q ⊢
    exact ⟨L, F', A, T, env', hl, i', q⟩
  | false =>
    simp only [hk, Bool.false_eq_true, if_false] at q ⊢
    exact ⟨L, F', A, T, env', hl, i', q⟩
theorem tT_and {a b : E} {Q : Bool → Hp → Prop} (h : tT K C W (.and a b) σ H Q) : tAnd (tT K C W a) (tT K C W b) σ H Q := by
  obtain ⟨L, F, A, T, env, hl, i, p⟩ := h
  refine ⟨L, F, A, T, env, hl, i, one_kd (f := fun kd env1 => if truth kd.2 then evC C b env1 else .ok [.val kd] env1) p fun kd env' F' H' e s q => ⟨_, kd, rfl, rfl, fun i' => ?_⟩⟩
  cases hk : truth kd.2 with
  | true =>
    simp only [hk, if_true] at q ⊢
    exact ⟨L, F', A, T, env', hl, i', q⟩
  | false =>
    simp only [hk, Bool.false_eq_true, if_false] at q ⊢
    obtain ⟨x, kd', e, e2, q⟩ := q F' H' (Same.refl _)
    cases e
    cases e2
    rw [← hk]
    exact q i'
theorem tT_or {a b : E} {Q : Bool → Hp → Prop} (h : tT K C W (.or a b) σ H Q) : tOr (tT K C W a) (tT K C W b) σ H Q := by
  obtain ⟨L, F, A, T, env, hl, i, p⟩ := h
  refine ⟨L, F, A, T, env, hl, i, one_kd (f := fun kd env1 => if truth kd.2 then .ok [.val kd] env1 else evC C b env1) p fun kd env' F' H' e s q => ⟨_, kd, rfl, rfl, fun i' => ?_⟩⟩
  cases hk : truth kd.2 with
  | false =>
    simp only [hk, Bool.false_eq_true, if_false] at q ⊢
    exact ⟨L, F', A, T, env', hl, i', q⟩
  | true =>
    simp only [hk, if_true] at q ⊢
    obtain ⟨x, kd', e, e2, q⟩ := q F' H' (Same.refl _)
    cases e
    cases e2
    rw [← hk]
    exact q i'
end PL
end

section
set_option maxRecDepth 100000
/-! PlSn4: chains, displays, calls of defs. -/
namespace PL
open PySem PySem.Spec PyProof.Rows L2
variable {X : Cx} {C : Cf} {nt : NT} {n : Nat} {sc tg : Scope} {W : WX} {K : PySem.W.Frag} {σ : L2.St} {H : Hp}

theorem cmp_old {o : Op} {op : CmpOp} (h : cmpOf o = some op) : opK o = 0 := by
  cases o <;> first | (cases h; done) | rfl
/-- one value, frozen -/
theorem one_rp {L : List (Nat × V)} {F : Hp} {env : Env} {A : List Addr} {T : List It} {v : V} {kd : KD} (i : In K L F env σ H A ((v, kd) :: T)) : ∃ F', Same F F' ∧ In K L F' env σ H A T ∧ Rp K F' v kd.2 := by
  obtain ⟨F1, s1, i1, r⟩ := i.rps (xs := [.val kd]) (T' := [(v, kd)]) (.val .nil) (show ksD [.val kd] = some [kd.2] from rfl)
  cases r with
  | cons r rr => exact ⟨F1, s1, i1, r⟩
theorem tE_chain {o1 o2 : Op} {p1 p2 : CmpOp} {a b c : E} {r r' : R2} (h1 : cmpOf o1 = some p1) (h2 : cmpOf o2 = some p2) (s1 : ∀ x y H Q, OpW K o1 [x, y] H Q → r x y H Q) (s2 : ∀ x y H Q, OpW K o2 [x, y] H Q → r' x y H Q)
    {Q : VK} (h : tE K C W (.chain o1 o2 a b c) σ H Q) : tChain r r' (tE K C W a) (tE K C W b) (tE K C W c) σ H Q := by
  obtain ⟨L, F, A, T, env, hl, i, p⟩ := h
  refine ⟨L, F, A, T, env, hl, i, ?_⟩
  have p : Post K C W L F A T σ (oneKD "chain" (evC C a env) fun ka env1 => oneKD "chain" (evC C b env1) fun kb env2 => match semOp o1 [ka.2, kb.2] with
    | some (.bool true) => oneKD "chain" (evC C c env2) fun kc env3 => (match semOp o2 [kb.2, kc.2] with
      | some r => .ok [.val (0, r)] env3
      | none => .bad "chain")
    | some (.bool false) => .ok [.val (0, .bool false)] env2
    | _ => .bad "chain") _ := p
  refine one_kd p fun ka env1 F1 H1 e1 t1 q vs T1 it1 i1 => ?_
  cases it1 with
  | val it1 =>
    cases it1
    rename_i x
    obtain ⟨F1', t1', i1, rx⟩ := one_rp i1
    refine ⟨x, rfl, L, F1', A, T, env1, hl, i1, ?_⟩
    refine one_kd (Post.mono q t1' fun _ _ _ _ _ _ z => z) fun kb env2 F2 H2 e2 t2 q vs T2 it2 i2 => ?_
    cases it2 with
    | val it2 =>
      cases it2
      rename_i y
      obtain ⟨F2', t2', i2, ry⟩ := one_rp i2
      refine ⟨y, rfl, s1 _ _ _ _ ?_⟩
      have q : Post K C W L F2' A T σ _ _ := Post.mono q t2' fun _ _ _ _ _ _ z => z
      have vx : View K F2' H2 x ka.2 := View.ofRp (rx.mono (t2.trans t2'))
      have vy : View K F2' H2 y kb.2 := View.ofRp ry
      cases e3 : semOp o1 [ka.2, kb.2] with
      | none => simp only [e3] at q; exact q.elim
      | some d =>
        obtain ⟨bb, eb⟩ := cmp_bool h1 e3
        subst eb
        rw [e3] at q
        refine ⟨F2', _, .bool bb, i2.same, .cons vx (.cons vy .nil), e3, fun F3 H3 z t3 f => ?_⟩
        have i3 : In K L F3 env2 σ H3 A ((z, (opK o1, .bool bb)) :: T) := i2.ext (U := [(z, (opK o1, .bool bb))]) fun I o => f A I o
        obtain ⟨F3', t3', i3', rz⟩ := one_rp i3
        cases rz
        refine ⟨bb, rfl, ?_⟩
        have q : Post K C W L F3' A T σ _ _ := Post.mono q (t3.trans t3') fun _ _ _ _ _ _ z => z
        cases bb with
        | false =>
          simp only [Bool.false_eq_true, if_false] at q ⊢
          obtain ⟨v', e, q⟩ := q F3' H3 (Same.refl _) [.bl false] [(.bl false, (0, .bool false))] (.val .nil) (i3'.ext (U := [(.bl false, (0, .bool false))]) fun I o => o.addRp (.bl false))
          cases e
          exact q
        | true =>
          simp only [if_true] at q ⊢
          refine ⟨L, F3', A, T, env2, hl, i3', ?_⟩
          refine one_kd q fun kc env3 F4 H4 e4 t4 q vs T4 it4 i4 => ?_
          cases it4 with
          | val it4 =>
            cases it4
            rename_i w
            obtain ⟨F4', t4', i4, rw'⟩ := one_rp i4
            refine ⟨w, rfl, s2 _ _ _ _ ?_⟩
            cases e5 : semOp o2 [kb.2, kc.2] with
            | none => rw [e5] at q; exact q.elim
            | some d =>
              rw [e5] at q
              refine ⟨F4', _, d, i4.same, .cons (View.ofRp (ry.mono (((t3.trans t3').trans t4).trans t4'))) (.cons (View.ofRp rw') .nil), e5, fun F5 H5 v t5 f => ?_⟩
              rw [cmp_old h2] at f
              obtain ⟨v', e, q⟩ := q F5 H5 (t4'.trans t5) [v] [(v, (0, d))] (.val .nil) (i4.ext (U := [(v, (0, d))]) fun I o => f A I o)
              cases e
              exact q
theorem chain_bool {o1 o2 : Op} {p1 p2 : CmpOp} {a b c : E} (h2 : cmpOf o2 = some p2) : ∀ env xs env', evC C (.chain o1 o2 a b c) env = .ok xs env' → ∃ k b, xs = [.val (k, .bool b)] := fun env xs env' e => by
  simp only [evC, ev] at e
  obtain ⟨ka, env1, _, h2'⟩ := oneKD_ok e
  obtain ⟨kb, env2, _, h3⟩ := oneKD_ok h2'
  split at h3
  · obtain ⟨kc, env3, _, h4⟩ := oneKD_ok h3
    split at h4
    · rename_i r hr
      obtain ⟨b, eb⟩ := cmp_bool h2 hr
      cases h4
      exact ⟨_, b, by rw [eb]⟩
    · cases h4
  · cases h3; exact ⟨_, false, rfl⟩
  · cases h3

/-! ### displays -/
theorem vals_ks : ∀ {xs : List Item} {kds : List KD}, valsKD xs = some kds → ksD xs = some (kds.map (·.2))
  | [], kds, e => by cases e; rfl
  | .val kd :: xs, kds, e => by
    have e : (valsKD xs).map (kd :: ·) = some kds := e
    cases e1 : valsKD xs with
    | none => rw [e1] at e; cases e
    | some r =>
      rw [e1] at e
      cases e
      show (ksD xs).map (kd.2 :: ·) = _
      rw [vals_ks e1]
      rfl
  | .slot _ :: xs, kds, e => by cases e
theorem max_line {n : Nat} (h : szOk n = true) : n ≤ sizeLine := of_decide_eq_true h
theorem tE_tup {es : E} {Q : VK} (h : tE K C W (.tup es) σ H Q) : tTup (tX K C W es) σ H Q := by
  obtain ⟨L, F, A, T, env, hl, i, p⟩ := h
  refine ⟨L, F, A, T, env, hl, i, ?_⟩
  refine Post.step [] (show Post K C W L F A T σ ((evC C es env).bind fun xs env1 => mkTup xs env1) _ from p) fun xs env' F' H' e s q vs T' it i' => ?_
  unfold mkTup at q
  cases e1 : valsKD xs with
  | none => rw [e1] at q; exact q.elim
  | some kds =>
    rw [e1] at q
    dsimp only at q
    split at q
    · rename_i hz
      have hz := max_line hz
      obtain ⟨F1, s1, i1, r⟩ := i'.rps it (vals_ks e1)
      have hl' : vs.length ≤ sizeLine := by rw [r.length, List.length_map]; exact hz
      refine ⟨hl', fun p hp => ?_⟩
      obtain ⟨I, si, o, l⟩ := i1
      obtain ⟨F2, s2, o2⟩ := o.pair hp r hl'
      obtain ⟨v', e, q⟩ := q F2 _ (s1.trans s2) [.ref p] [(.ref p, (0, .tuple (kds.map (·.2))))] (.val .nil) ⟨I, si, o2.perm List.perm_middle.symm, l⟩
      cases e
      exact q
    · exact q.elim
/-- new values, owned m deep -/
theorem In.kids {L : List (Nat × V)} {env : Env} {A : List Addr} (m : Nat) : ∀ {xs : List Item} {vs : List V} {T' T : List It} {kds : List KD} {F : Hp}, In K L F env σ H A (T' ++ T) → IT σ xs vs T' → valsKD xs = some kds → kds.all (fun kd => decide (m ≤ kd.1)) = true →
    ∃ F', Same F F' ∧ In K L F' env σ H A (kidsI m vs (kds.map (·.2)) ++ T) ∧ vs.length = kds.length := by
  intro xs vs T' T kds F i it
  revert kds F T
  induction it with
  | nil =>
    intro T kds F i e _
    cases e
    exact ⟨F, Same.refl F, i, rfl⟩
  | slot _ _ =>
    intro T kds F i e
    cases e
  | @val kd xs v vs T' it ih =>
    intro T kds F i e ha
    obtain ⟨k, d⟩ := kd
    have e : (valsKD xs).map ((k, d) :: ·) = some kds := e
    cases e1 : valsKD xs with
    | none => rw [e1] at e; cases e
    | some ds' =>
      rw [e1] at e
      cases e
      rw [List.all_cons, Bool.and_eq_true] at ha
      have hm : m ≤ k := of_decide_eq_true ha.1
      obtain ⟨I, s, o, l⟩ := i
      have o : Ok K F H A ((v, (k, d)) :: (I ++ (T' ++ T))) := o.perm List.perm_middle
      obtain ⟨F1, s1, o1⟩ := o.lower hm
      have i1 : In K L F1 env σ H A (T' ++ ((v, (m, d)) :: T)) := ⟨I, s, o1.perm (by
        rw [← List.append_assoc, ← List.append_assoc]
        exact List.perm_middle.symm), l⟩
      obtain ⟨F2, s2, i2, hl⟩ := ih i1 e1 ha.2
      exact ⟨F2, s1.trans s2, i2.perm List.perm_middle, congrArg (· + 1) hl⟩
theorem In.cls {L : List (Nat × V)} {env : Env} {A : List Addr} {F : Hp} {T : List It} {m : Nat} {vs : List V} {ds : List D} {p : Addr} (i : In K L F env σ H A (kidsI m vs ds ++ T)) (hp : H p = none) (hz : vs.length ≤ sizeLine) (hl : vs.length = ds.length) :
    In K L F env σ (upd H p (.lst vs)) A ((.ref p, (m + 1, .list ds)) :: T) := by
  obtain ⟨I, s, o, l⟩ := i
  have o1 : Ok K F H A (kidsI m vs ds ++ (I ++ T)) := o.perm (by
    rw [← List.append_assoc, ← List.append_assoc]
    exact List.Perm.append_right T List.perm_append_comm)
  have o2 := (o1.alloc (o := .lst vs) hp).cls upd_same hz hl
  exact ⟨I, s, o2.perm List.perm_middle.symm, l⟩
theorem tE_lst {m : Nat} {es : E} {Q : VK} (h : tE K C W (.lst m es) σ H Q) : tLst (tX K C W es) σ H Q := by
  obtain ⟨L, F, A, T, env, hl, i, p⟩ := h
  refine ⟨L, F, A, T, env, hl, i, ?_⟩
  refine Post.step [] (show Post K C W L F A T σ ((evC C es env).bind fun xs env1 => mkLst m xs env1) _ from p) fun xs env' F' H' e s q vs T' it i' => ?_
  unfold mkLst at q
  cases e1 : valsKD xs with
  | none => rw [e1] at q; exact q.elim
  | some kds =>
    rw [e1] at q
    dsimp only at q
    split at q
    · rename_i hz
      rw [Bool.and_eq_true] at hz
      obtain ⟨F1, s1, i1, hl'⟩ := i'.kids m it e1 hz.2
      have hz := max_line hz.1
      have hz' : vs.length ≤ sizeLine := by rw [hl']; exact hz
      refine ⟨hz', fun p hp => ?_⟩
      have i2 := i1.cls hp hz' (by rw [hl', List.length_map])
      obtain ⟨v', e, q⟩ := q F1 _ s1 [.ref p] [(.ref p, (m + 1, .list (kds.map (·.2))))] (.val .nil) i2
      cases e
      exact q
    · exact q.elim

/-! ### calls -/
/-- a slot's item is lent -/
theorem In.lend {L : List (Nat × V)} {env : Env} {A : List Addr} {F : Hp} {T : List It} {i : Nat} {kd : KD} {v : V} (h : In K L F env σ H A T) (e : getS env i = some kd) (hv : σ[i]? = some (some v)) : In K L F (env.set i none) σ H A ((v, kd) :: T) := by
  obtain ⟨v', J, e1, o, _, g⟩ := h.pick e
  rw [hv] at e1
  cases e1
  exact g _ _ _ _ (o.perm List.perm_middle.symm)
/-- .. and given back -/
theorem In.back {L : List (Nat × V)} {env : Env} {A : List Addr} {F : Hp} {T : List It} {i : Nat} {kd : KD} {v : V} (h : In K L F env σ H A ((v, kd) :: T)) (hv : σ[i]? = some (some v)) : In K L F (env.set i (some kd)) σ H A T := by
  obtain ⟨I, s, o, l⟩ := h
  have hi : i < env.length := s.len ▸ (List.getElem?_eq_some_iff.mp hv).1
  obtain ⟨I1, M, I2, e, f, _⟩ := s.put i hi
  subst e
  have es : σ.set i (some v) = σ := by
    apply List.ext_getElem?
    intro j
    by_cases hj : i = j
    · subst hj
      rw [List.getElem?_set_self (s.len ▸ hi), hv]
    · rw [List.getElem?_set_ne hj]
  have f' := f v kd
  rw [es] at f'
  refine ⟨_, f', ?_, l⟩
  refine Ok.dropL (I := M) (o.perm ?_)
  have q : (I1 ++ M ++ I2).Perm (M ++ (I1 ++ I2)) := by
    rw [← List.append_assoc]
    exact List.Perm.append_right I2 List.perm_append_comm
  have p1 : ((I1 ++ M ++ I2) ++ (v, kd) :: T).Perm ((v, kd) :: ((M ++ (I1 ++ I2)) ++ T)) := List.perm_middle.trans ((q.append_right T).cons _)
  refine p1.trans ?_
  have p3 : (M ++ ((I1 ++ (v, kd) :: I2) ++ T)).Perm (M ++ ((v, kd) :: (I1 ++ I2) ++ T)) := (List.perm_middle.append_right T).append_left M
  refine List.Perm.trans ?_ p3.symm
  rw [List.append_assoc]
  exact List.perm_middle.symm
/-- how arguments go with the parameters' modes -/
def modesOk : List Nat → List Item → Bool
  | [], [] => true
  | 0 :: ms, .val _ :: xs => modesOk ms xs
  | (_ + 1) :: ms, _ :: xs => modesOk ms xs
  | _, _ => false
theorem outs_modes : ∀ {pm : List Nat} {xs : List Item} {outs : List (Option KD)} {env env1 : Env}, outsTo env pm xs outs = some env1 → modesOk pm xs = true
  | [], [], _, _, _, _ => rfl
  | 0 :: ms, .val _ :: xs, _ :: os, env, env1, h => outs_modes (pm := ms) (xs := xs) (outs := os) (env := env) h
  | (_ + 1) :: ms, .val _ :: xs, _ :: os, env, env1, h => outs_modes (pm := ms) (xs := xs) (outs := os) (env := env) h
  | (_ + 1) :: ms, .slot i :: xs, some kd :: os, env, env1, h => outs_modes (pm := ms) (xs := xs) (outs := os) (env := env.set i (some kd)) h
  | [], _ :: _, _, _, _, h => by simp [outsTo] at h
  | _ :: _, [], _, _, _, h => by simp [outsTo] at h
  | 0 :: ms, .val _ :: xs, [], _, _, h => by simp [outsTo] at h
  | 0 :: ms, .slot _ :: xs, os, _, _, h => by cases os <;> simp [outsTo] at h
  | (_ + 1) :: ms, .val _ :: xs, [], _, _, h => by simp [outsTo] at h
  | (_ + 1) :: ms, .slot _ :: xs, [], _, _, h => by simp [outsTo] at h
  | (_ + 1) :: ms, .slot _ :: xs, none :: os, _, _, h => by simp [outsTo] at h
/-- off the lent slots the two agree -/
def Ag (xs : List Item) (env envL : Env) : Prop := envL.length = env.length ∧ ∀ j, j ∉ slotsOf xs → envL[j]? = env[j]?
theorem items_off {i : Nat} {y : Option KD} {env : Env} : ∀ {xs : List Item}, i ∉ slotsOf xs → itemsKD (env.set i y) xs = itemsKD env xs
  | [], _ => rfl
  | .val kd :: xs, h => by
    show (itemKD _ _).bind _ = (itemKD _ _).bind _
    rw [items_off (xs := xs) h]; rfl
  | .slot j :: xs, h => by
    have h1 : i ≠ j := fun e => h (by simp [slotsOf, e])
    have h2 : i ∉ slotsOf xs := fun e => h (by simp [slotsOf, e])
    have e : itemKD (env.set i y) (.slot j) = itemKD env (.slot j) := by
      show getS _ _ = getS _ _
      unfold getS
      rw [List.getElem?_set_ne h1]
    show (itemKD _ _).bind _ = (itemKD _ _).bind _
    rw [items_off (xs := xs) h2, e]
theorem In.lendAll {L : List (Nat × V)} {A : List Addr} : ∀ {xs : List Item} {vs : List V} {T' T : List It} {kds args : List KD} {pm : List Nat} {F : Hp} {env : Env}, IT σ xs vs T' → In K L F env σ H A (T' ++ T) → itemsKD env xs = some kds → argsFor pm kds = some args →
    modesOk pm xs = true → (slotsOf xs).Nodup → ∃ F' envL, Same F F' ∧ In K L F' envL σ H A (vs.zip args ++ T) ∧ Ag xs env envL ∧ vs.length = pm.length ∧ args.length = pm.length := by
  intro xs vs T' T kds args pm F env it
  revert T kds args pm F env
  induction it with
  | nil =>
    intro T kds args pm F env i e1 e2 m _
    cases e1
    cases pm with
    | cons _ _ => simp [modesOk] at m
    | nil =>
      cases e2
      exact ⟨F, env, Same.refl F, i, ⟨rfl, fun _ _ => rfl⟩, rfl, rfl⟩
  | @val kd xs v vs T' it ih =>
    intro T kds args pm F env i e1 e2 m nd
    have e1 : (itemsKD env xs).map (kd :: ·) = some kds := e1
    cases e3 : itemsKD env xs with
    | none => rw [e3] at e1; cases e1
    | some kds' =>
      rw [e3] at e1
      cases e1
      obtain ⟨k, d⟩ := kd
      cases pm with
      | nil => cases m
      | cons q ms =>
        have m' : modesOk ms xs = true := by cases q <;> exact m
        have done : ∀ (k' : Nat) (args' : List KD), k' ≤ k → argsFor ms kds' = some args' → args = (k', d) :: args' → ∃ F' envL, Same F F' ∧ In K L F' envL σ H A ((v :: vs).zip args ++ T) ∧ Ag (.val (k, d) :: xs) env envL ∧ (v :: vs).length = (q :: ms).length ∧ args.length = (q :: ms).length := by
          intro k' args' hk e4 e5
          subst e5
          obtain ⟨I, s, o, l⟩ := i
          have o : Ok K F H A ((v, (k, d)) :: (I ++ (T' ++ T))) := o.perm List.perm_middle
          obtain ⟨F1, s1, o1⟩ := o.lower hk
          have i1 : In K L F1 env σ H A (T' ++ ((v, (k', d)) :: T)) := ⟨I, s, o1.perm (by
            rw [← List.append_assoc, ← List.append_assoc]
            exact List.perm_middle.symm), l⟩
          obtain ⟨F2, envL, s2, i2, ag, l1, l2⟩ := ih i1 e3 e4 m' nd
          exact ⟨F2, envL, s1.trans s2, i2.perm List.perm_middle, ag, congrArg (· + 1) l1, congrArg (· + 1) l2⟩
        cases q with
        | zero =>
          have e2 : (argsFor ms kds').map ((0, d) :: ·) = some args := e2
          cases e4 : argsFor ms kds' with
          | none => rw [e4] at e2; cases e2
          | some args' =>
            rw [e4] at e2
            exact done 0 args' (Nat.zero_le _) e4 (Option.some.inj e2).symm
        | succ q =>
          have e2 : (if q < k then (argsFor ms kds').map ((k, d) :: ·) else none) = some args := e2
          split at e2
          · cases e4 : argsFor ms kds' with
            | none => rw [e4] at e2; cases e2
            | some args' =>
              rw [e4] at e2
              exact done k args' (Nat.le_refl _) e4 (Option.some.inj e2).symm
          · cases e2
  | @slot j xs v vs T' hv it ih =>
    intro T kds args pm F env i e1 e2 m nd
    have e1 : ((getS env j).bind fun kd => (itemsKD env xs).map (kd :: ·)) = some kds := e1
    cases e0 : getS env j with
    | none => rw [e0] at e1; cases e1
    | some kd =>
      rw [e0] at e1
      have e1 : (itemsKD env xs).map (kd :: ·) = some kds := e1
      cases e3 : itemsKD env xs with
      | none => rw [e3] at e1; cases e1
      | some kds' =>
        rw [e3] at e1
        cases e1
        obtain ⟨k, d⟩ := kd
        rw [slotsOf, List.nodup_cons] at nd
        cases pm with
        | nil => cases m
        | cons q ms =>
          cases q with
          | zero => cases m
          | succ q =>
            have m : modesOk ms xs = true := m
            have e2 : (if q < k then (argsFor ms kds').map ((k, d) :: ·) else none) = some args := e2
            split at e2
            · cases e4 : argsFor ms kds' with
              | none => rw [e4] at e2; cases e2
              | some args' =>
                rw [e4] at e2
                cases e2
                have i1 := (i.lend e0 hv).perm (T' := T' ++ ((v, (k, d)) :: T)) List.perm_middle.symm
                obtain ⟨F2, envL, s2, i2, ag, l1, l2⟩ := ih i1 (by rw [items_off nd.1]; exact e3) e4 m nd.2
                refine ⟨F2, envL, s2, i2.perm List.perm_middle, ⟨by rw [ag.1, List.length_set], fun j' hj => ?_⟩, congrArg (· + 1) l1, congrArg (· + 1) l2⟩
                have h1 : j ≠ j' := fun e => hj (by simp [slotsOf, e])
                have h2 : j' ∉ slotsOf xs := fun e => hj (by simp [slotsOf, e])
                rw [ag.2 j' h2, List.getElem?_set_ne h1]
            · cases e2
theorem ag_nil {env envL : Env} (a : Ag [] env envL) : envL = env := List.ext_getElem? fun j => a.2 j (by simp [slotsOf])
theorem In.backAll {L : List (Nat × V)} {A : List Addr} : ∀ {xs : List Item} {vs : List V} {T' T : List It} {pm : List Nat} {outs : List (Option KD)} {os : List It} {F : Hp} {env env1 envL : Env}, IT σ xs vs T' → outsTo env pm xs outs = some env1 → RetI vs outs os → Ag xs env envL →
    In K L F envL σ H A (os ++ T) → In K L F env1 σ H A T := by
  intro xs vs T' T pm outs os F env env1 envL it
  revert pm outs os F env env1 envL
  induction it with
  | nil =>
    intro pm outs os F env env1 envL e r ag i
    cases r
    cases pm with
    | cons _ _ => simp [outsTo] at e
    | nil =>
      have e : some env = some env1 := e
      cases e
      rw [ag_nil ag] at i
      exact i
  | @val kd xs v vs T' it ih =>
    intro pm outs os F env env1 envL e r ag i
    cases pm with
    | nil => simp [outsTo] at e
    | cons q ms =>
      cases outs with
      | nil => cases q <;> simp [outsTo] at e
      | cons o os' =>
        have e5 : outsTo env ms xs os' = some env1 := by cases q <;> exact e
        cases r with
        | gone r => exact ih e5 r ag i
        | has r => exact ih e5 r ag i.drop1
  | @slot j xs v vs T' hv it ih =>
    intro pm outs os F env env1 envL e r ag i
    cases pm with
    | nil => simp [outsTo] at e
    | cons q ms =>
      cases outs with
      | nil => cases q <;> simp [outsTo] at e
      | cons o os' =>
        cases q with
        | zero => simp [outsTo] at e
        | succ q =>
          cases r with
          | gone r => simp [outsTo] at e
          | @has _ kd' _ _ _ r =>
            have e : outsTo (env.set j (some kd')) ms xs os' = some env1 := e
            refine ih e r ⟨by rw [List.length_set, List.length_set]; exact ag.1, fun j' hj => ?_⟩ (i.back hv)
            by_cases h1 : j = j'
            · subst h1
              have h2 : j < σ.length := (List.getElem?_eq_some_iff.mp hv).1
              have h3 : j < envL.length := i.len ▸ h2
              rw [List.getElem?_set_self h3, List.getElem?_set_self (ag.1 ▸ h3)]
            · rw [List.getElem?_set_ne h1, List.getElem?_set_ne h1]
              exact ag.2 j' fun z => by
                rcases List.mem_cons.mp z with z | z
                · exact h1 z.symm
                · exact hj z
theorem call_of {fd : FnDef} {f : Nat} {xs : List Item} {vs : List V} {L : List (Nat × V)} {F : Hp} {env : Env} {A : List Addr} {T' T : List It} {Q : VK} (hf : C.fns f = some fd) (it : IT σ xs vs T') (i : In K L F env σ H A (T' ++ T))
    (h : Post K C W L F A T σ (callR C.fns C.call f xs env) fun xs env' F' H' => ∀ vs T', IT σ xs vs T' → In K L F' env' σ H' A (T' ++ T) → ∃ v, vs = [v] ∧ Q v H') : spF K C f fd.pm.length vs H Q (WE W σ) := by
  unfold callR at h
  rw [hf] at h
  dsimp only at h
  cases e1 : itemsKD env xs with
  | none => rw [e1] at h; exact h.elim
  | some kds =>
    rw [e1] at h
    dsimp only at h
    cases e2 : argsFor fd.pm kds with
    | none => rw [e2] at h; exact h.elim
    | some args =>
      rw [e2] at h
      dsimp only at h
      split at h
      · rename_i nd
        have lend : modesOk fd.pm xs = true → ∃ F' envL, Same F F' ∧ In K L F' envL σ H A (vs.zip args ++ T) ∧ Ag xs env envL ∧ vs.length = fd.pm.length ∧ args.length = fd.pm.length := fun m => In.lendAll it i e1 e2 m nd
        cases e3 : C.call f args with
        | bad m => rw [e3] at h; exact h.elim
        | ok kd outs =>
          rw [e3] at h
          dsimp only at h
          cases e4 : outsTo env fd.pm xs outs with
          | none => rw [e4] at h; exact h.elim
          | some env1 =>
            rw [e4] at h
            obtain ⟨F1, envL, s1, i1, ag, l1, l2⟩ := lend (outs_modes e4)
            obtain ⟨I, si, o, l⟩ := i1
            refine ⟨l1, F1, A, I ++ T, args, l2, o.perm ?_, ?_⟩
            · rw [← List.append_assoc, ← List.append_assoc]
              exact List.Perm.append_right T List.perm_append_comm
            · rw [e3]
              intro F2 H2 v os s2 r o2
              have i2 : In K L F2 envL σ H2 A (os ++ ((v, kd) :: T)) := ⟨I, si, o2.perm (by
                have p1 : (I ++ (os ++ (v, kd) :: T)).Perm ((v, kd) :: (I ++ (os ++ T))) := by
                  rw [← List.append_assoc, ← List.append_assoc]
                  exact List.perm_middle
                refine List.Perm.trans ?_ p1.symm
                refine List.Perm.cons _ ?_
                rw [← List.append_assoc, ← List.append_assoc]
                exact List.Perm.append_right T List.perm_append_comm), l⟩
              obtain ⟨v', ev, q⟩ := h F2 H2 (s1.trans s2) [v] [(v, kd)] (.val .nil) (In.backAll it e4 r ag i2)
              cases ev
              exact q
        | exc x outs =>
          rw [e3] at h
          dsimp only at h
          cases e4 : outsTo env fd.pm xs outs with
          | none => rw [e4] at h; exact h.elim
          | some env1 =>
            rw [e4] at h
            obtain ⟨F1, envL, s1, i1, ag, l1, l2⟩ := lend (outs_modes e4)
            obtain ⟨I, si, o, l⟩ := i1
            refine ⟨l1, F1, A, I ++ T, args, l2, o.perm ?_, ?_⟩
            · rw [← List.append_assoc, ← List.append_assoc]
              exact List.Perm.append_right T List.perm_append_comm
            · rw [e3]
              intro F2 H2 cls dd os s2 r o2 ex
              have i2 : In K L F2 envL σ H2 A (os ++ T) := ⟨I, si, o2.perm (by
                rw [← List.append_assoc, ← List.append_assoc]
                exact List.Perm.append_right T List.perm_append_comm), l⟩
              exact h F2 H2 cls dd (s1.trans s2) (In.backAll it e4 r ag i2) ex
      · exact h.elim
theorem tE_call {fd : FnDef} {f : Nat} {es : E} {Q : VK} (hf : C.fns f = some fd) (h : tE K C W (.call f es) σ H Q) : tCallS (spF K C f fd.pm.length) (WE W) (tX K C W es) σ H Q := by
  obtain ⟨L, F, A, T, env, hl, i, p⟩ := h
  refine ⟨L, F, A, T, env, hl, i, ?_⟩
  refine Post.step [] (show Post K C W L F A T σ ((evC C es env).bind fun xs env1 => callR C.fns C.call f xs env1) _ from p) fun xs env' F' H' e s q vs T' it i' => ?_
  exact call_of hf it i' q
end PL
end

section
set_option maxRecDepth 100000
/-! PlSn5: comprehensions. -/
namespace PL
open PySem PySem.Spec PyProof.Rows L2
variable {X : Cx} {C : Cf} {nt : NT} {n : Nat} {sc tg : Scope} {W : WX} {K : PySem.W.Frag} {σ : L2.St} {H F : Hp} {L : List (Nat × V)} {env : Env} {A : List Addr} {T : List It}

theorem In.wipeE : ∀ {is : List Nat}, In K L F env σ H A T → (∀ i ∈ is, ∀ q ∈ L, q.1 ≠ i) → In K L F (PL.wipeE env is) (wipe σ is) H A T
  | [], h, _ => h
  | i :: is, h, f => by
    have h1 := In.wipeE (is := is) h fun j hj => f j (List.mem_cons_of_mem _ hj)
    show In K L F ((PL.wipeE env is).set i none) ((wipe σ is).set i none) H A T
    by_cases hi : i < (PL.wipeE env is).length
    · exact h1.unset hi (f i List.mem_cons_self)
    · rw [List.set_eq_of_length_le (Nat.le_of_not_lt hi), List.set_eq_of_length_le (by rw [h1.len]; exact Nat.le_of_not_lt hi)]
      exact h1
theorem SI.other {σ σ' : L2.St} {env : Env} {I : List It} (h : SI σ env I) : σ'.length = σ.length → (∀ (j : Nat) (v : KD), env[j]? = some (some v) → σ'[j]? = σ[j]?) → SI σ' env I := by
  revert σ'
  induction h with
  | nil =>
    intro σ' e _
    cases σ' with
    | nil => exact .nil
    | cons _ _ => cases e
  | @emp x σ env I h ih =>
    intro σ' e f
    cases σ' with
    | nil => cases e
    | cons y σ' => exact .emp (ih (by simpa using e) fun j v q => by simpa using f (j + 1) v (by simpa using q))
  | @has v kd σ env I h ih =>
    intro σ' e f
    cases σ' with
    | nil => cases e
    | cons y σ' =>
      have e0 : y = some v := by simpa using f 0 kd (by simp)
      subst e0
      exact .has (ih (by simpa using e) fun j v q => by simpa using f (j + 1) v (by simpa using q))
theorem wipe_in {i : Nat} : ∀ {is : List Nat}, i ∈ is → i < σ.length → (wipe σ is)[i]? = some none
  | j :: is, h, hi => by
    show ((wipe σ is).set j none)[i]? = _
    by_cases e : j = i
    · subst e
      rw [List.getElem?_set_self (by rw [wipe_length]; exact hi)]
    · rw [List.getElem?_set_ne e]
      rcases List.mem_cons.mp h with z | z
      · exact absurd z.symm e
      · exact wipe_in z hi
theorem SI.noval {σ : L2.St} {env : Env} {I : List It} (h : SI σ env I) {i : Nat} (e : σ[i]? = some none) : env[i]? = some none := by
  revert i
  induction h with
  | nil => intro i e; simp at e
  | @emp x σ env I h ih =>
    intro i e
    cases i with
    | zero => rfl
    | succ i => simpa using ih (by simpa using e)
  | @has v kd σ env I h ih =>
    intro i e
    cases i with
    | zero => simp at e
    | succ i => simpa using ih (by simpa using e)
/-- the block's slots are empty: the outer slots are as they were -/
theorem In.unwipe {is : List Nat} (h : In K L F env (wipe σ is) H A T) : In K L F env σ H A T := by
  obtain ⟨I, s, o, l⟩ := h
  refine ⟨I, s.other (by rw [wipe_length]) fun j v q => ?_, o, fun p hp => (wipe_some (l p hp)).1⟩
  by_cases hj : j ∈ is
  · have hlt : j < σ.length := by
      have := (List.getElem?_eq_some_iff.mp q).1
      rw [← s.len, wipe_length] at this
      exact this
    rw [s.noval (wipe_in hj hlt)] at q
    cases q
  · exact (wipe_out hj).symm
/-- what the slots at is held, frozen -/
def Fz (K : PySem.W.Frag) (F : Hp) (σ : L2.St) (env0 : Env) (is : List Nat) : Prop := ∀ i ∈ is, ∀ kd, (env0[i]?).join = some kd → ∃ v d, kd = (0, d) ∧ σ[i]? = some (some v) ∧ Rp K F v d
theorem Fz.mono {F' : Hp} {env0 : Env} {is : List Nat} (s : Same F F') (h : Fz K F σ env0 is) : Fz K F' σ env0 is := fun i hi kd e =>
  let ⟨v, d, e1, e2, r⟩ := h i hi kd e; ⟨v, d, e1, e2, r.mono s⟩
theorem In.backE {env0 : Env} : ∀ {is : List Nat}, In K L F env σ H A T → Fz K F σ env0 is → In K L F (PL.backE env0 env is) σ H A T
  | [], h, _ => h
  | i :: is, h, f => by
    have h1 := In.backE (is := is) h fun j hj => f j (List.mem_cons_of_mem _ hj)
    show In K L F ((PL.backE env0 env is).set i ((env0[i]?).join)) σ H A T
    cases e : (env0[i]?).join with
    | none =>
      by_cases hi : i < (PL.backE env0 env is).length
      · exact h1.forget hi
      · rw [List.set_eq_of_length_le (Nat.le_of_not_lt hi)]
        exact h1
    | some kd =>
      obtain ⟨v, d, e1, e2, r⟩ := f i List.mem_cons_self kd e
      subst e1
      exact In.back (h1.ext (U := [(v, (0, d))]) fun I o => o.addRp r) e2
theorem freezeS_other {i j : Nat} (h : j ≠ i) : (PL.freezeS env i)[j]? = env[j]? := by
  unfold PL.freezeS
  split
  · rw [List.getElem?_set_ne (Ne.symm h)]
  · rfl
theorem freezeS_zero {i j : Nat} {kd : KD} (h : (env[j]?).join = some kd) : ∃ k, ((PL.freezeS env i)[j]?).join = some (k, kd.2) ∧ (kd.1 = 0 → k = 0) ∧ (j = i → k = 0) := by
  by_cases e : j = i
  · subst e
    have hj : j < env.length := by
      cases e : env[j]? with
      | none => rw [e] at h; cases h
      | some x => exact (List.getElem?_eq_some_iff.mp e).1
    refine ⟨0, ?_, fun _ => rfl, fun _ => rfl⟩
    unfold PL.freezeS getS
    rw [h]
    obtain ⟨k, d⟩ := kd
    rw [List.getElem?_set_self hj]
    rfl
  · refine ⟨kd.1, ?_, fun z => z, fun z => absurd z e⟩
    rw [freezeS_other e, h]
theorem freezeS_none {i j : Nat} (h : (env[j]?).join = none) : ((PL.freezeS env i)[j]?).join = none := by
  by_cases e : j = i
  · subst e
    unfold PL.freezeS getS
    rw [h]
    exact h
  · rw [freezeS_other e, h]
theorem freezeAll_zero : ∀ {is : List Nat} {env : Env} {j : Nat} {kd : KD}, (env[j]?).join = some kd → ∃ k, ((PL.freezeAll env is)[j]?).join = some (k, kd.2) ∧ (kd.1 = 0 → k = 0) ∧ (j ∈ is → k = 0)
  | [], env, j, kd, h => ⟨kd.1, h, fun z => z, fun z => nomatch z⟩
  | i :: is, env, j, kd, h => by
    obtain ⟨k, e, z, y⟩ := freezeS_zero (i := i) h
    obtain ⟨k', e', z', y'⟩ := freezeAll_zero (is := is) (env := PL.freezeS env i) e
    refine ⟨k', e', fun q => z' (z q), fun q => ?_⟩
    rcases List.mem_cons.mp q with q | q
    · exact z' (y q)
    · exact y' q
theorem freezeAll_none : ∀ {is : List Nat} {env : Env} {j : Nat}, (env[j]?).join = none → ((PL.freezeAll env is)[j]?).join = none
  | [], env, j, h => h
  | i :: is, env, j, h => freezeAll_none (is := is) (env := PL.freezeS env i) (freezeS_none h)
theorem In.fz {is : List Nat} (h : In K L F (PL.freezeAll env is) σ H A T) : Fz K F σ (PL.freezeAll env is) is := fun i hi kd e => by
  have e0 : kd.1 = 0 := by
    cases e1 : (env[i]?).join with
    | none => rw [freezeAll_none e1] at e; cases e
    | some kd0 =>
      obtain ⟨k, e2, _, y⟩ := freezeAll_zero (is := is) e1
      rw [e2] at e
      cases e
      exact y hi
  obtain ⟨k, d⟩ := kd
  cases e0
  obtain ⟨v, J, e1, o, _, _⟩ := h.pick (i := i) (kd := (0, d)) e
  exact ⟨v, d, rfl, e1, o.rp⟩
theorem off_wipe {is : List Nat} {σ' : L2.St} (h : Off is (wipe σ is) σ') : wipe σ' is = wipe σ is := by
  apply List.ext_getElem?
  intro j
  have hl : σ'.length = σ.length := h.1.trans (wipe_length σ is)
  by_cases hj : j ∈ is
  · by_cases hlt : j < σ.length
    · rw [wipe_in hj hlt, wipe_in hj (hl ▸ hlt)]
    · rw [List.getElem?_eq_none (by rw [wipe_length]; omega), List.getElem?_eq_none (by rw [wipe_length]; omega)]
  · rw [wipe_out hj]
    exact h.2 j hj

def W0 : WX := fun _ _ _ _ => False
theorem In.new {p : Addr} {m : Nat} (i : In K L F env σ H A T) (hp : H p = none) : In K L F env σ (upd H p (.lst [])) A ((.ref p, (m + 1, .list [])) :: T) :=
  In.cls (vs := []) (ds := []) i hp (Nat.zero_le _) rfl
/-- an item is put behind a new list's -/
theorem In.push {D : Addr} {m k : Nat} {acc : List PL.D} {y : V} {d : PL.D} (i : In K L F env σ H A ((y, (k, d)) :: (V.ref D, (m + 1, PyData.list acc)) :: T)) (hk : m ≤ k) (hz : acc.length < sizeLine) :
    ∃ F' ws, Same F F' ∧ H D = some (.lst ws) ∧ ws.length < sizeLine ∧ In K L F' env σ (upd H D (.lst (ws ++ [y]))) A ((V.ref D, (m + 1, PyData.list (acc ++ [d]))) :: T) := by
  obtain ⟨I, s, o, l⟩ := i
  have o1 : Ok K F H A ((y, (k, d)) :: (V.ref D, (m + 1, PyData.list acc)) :: (I ++ T)) := o.perm (by
    refine (List.perm_middle).trans (List.Perm.cons _ ?_)
    exact List.perm_middle)
  obtain ⟨F1, s1, o1⟩ := o1.lower hk
  obtain ⟨a, ws, e1, e2, e3, e4, o2⟩ := (o1.perm (List.Perm.swap _ _ _)).opn
  cases e1
  refine ⟨F1, ws, s1, e2, by rw [e4]; exact hz, I, s, ?_, l⟩
  have o3 : Ok K F1 (upd H D (.lst (ws ++ [y]))) (D :: A) (kidsI m ws acc ++ (y, (m, d)) :: (I ++ T)) := o2.fill
  have ek : kidsI m (ws ++ [y]) (acc ++ [d]) = kidsI m ws acc ++ [(y, (m, d))] := by rw [kidsI_append e4]; rfl
  have o4 : Ok K F1 (upd H D (.lst (ws ++ [y]))) (D :: A) (kidsI m (ws ++ [y]) (acc ++ [d]) ++ (I ++ T)) := by
    rw [ek, List.append_assoc]
    exact o3
  exact (o4.cls upd_same (by rw [List.length_append]; show ws.length + 1 ≤ sizeLine; omega) (by rw [List.length_append, List.length_append, e4]; rfl)).perm List.perm_middle.symm

/-- behind the block -/
def compEnd (m : Nat) (p : Pat) (env2 : Env) (r : R (List PL.D)) : R (List Item) := r.bind fun vs env3 => .ok [Item.val (m + 1, .list vs)] (backE env2 env3 (slotsP p))
/-- what is wanted of one value -/
abbrev QF (K : PySem.W.Frag) (L : List (Nat × V)) (A : List Addr) (T : List It) (σ : L2.St) (Q : VK) : List Item → Env → Hp → Hp → Prop := fun xs env' F' H' => ∀ vs T', IT σ xs vs T' → In K L F' env' σ H' A (T' ++ T) → ∃ v, vs = [v] ∧ Q v H'
theorem tE_comp {m : Nat} {e : E} {p : Pat} {it c : E} {tt : TT} {Q : VK} (he : one e = true) (hfr : (slotsP p).all (free C.lk) = true) (ht : (c = .nil ∧ tt = tYes) ∨ ((∀ f, condOf c f = some f) ∧ tt = tT K C W0 c))
    (h : tE K C W (.comp m e p it c) σ H Q) : tLc (tI K C W it) (tP K C p) tt (tE K C W0 e) (slotsP p) σ H Q := by
  obtain ⟨L, F, A, T, env, hl, i, q⟩ := h
  refine ⟨L, F, A, T, env, hl, i, ?_⟩
  refine Post.step [] (show Post K C W L F A T σ ((evC C it env).bind fun xs env1 => match ksD xs with
    | none => .bad "comp iter"
    | some ds => compEnd m p (freezeAll env1 (slotsP p)) (compLoop m p (condOf c (evC C c)) (evC C e) ds [] (wipeE (freezeAll env1 (slotsP p)) (slotsP p)))) (QF K L A T σ Q) from q) fun xs env1 F1 H1 e1 s1 q => ?_
  cases e2 : ksD xs with
  | none => simp only [e2] at q; exact q.elim
  | some ds =>
    simp only [e2] at q
    refine ⟨ds, rfl, fun hz J wk i1 D hD => ?_⟩
    obtain ⟨F2, s2, i2⟩ := i1.freezeAll (is := slotsP p)
    have fz := i2.fz
    generalize PL.freezeAll env1 (slotsP p) = env2 at q i2 fz
    have sf : ∀ i ∈ slotsP p, ∀ q ∈ L, q.1 ≠ i := fun i hi => slots_free hl hfr hi
    obtain ⟨G, Y, w, g, st⟩ := wk
    refine lc_it w (fun k H => ∃ F' env' acc, Same F2 F' ∧ In K L F' env' (wipe σ (slotsP p)) H A ((V.ref D, (m + 1, PyData.list acc)) :: T) ∧ acc.length ≤ k ∧
      Post K C W L F' A T σ (compEnd m p env2 (compLoop m p (condOf c (evC C c)) (evC C e) (ds.drop k) acc env')) (QF K L A T σ Q)) ?_ ?_ ?_ ?_
    · exact ⟨F2, _, [], Same.refl _, (i2.wipeE sf).new hD, Nat.le_refl _, Post.mono q s2 fun _ _ _ _ _ _ z => z⟩
    · rintro k H _ ⟨F', env', acc, s3, i3, _, _⟩
      exact g H ((s2.trans s3).trans i3.same)
    · rintro k x H H' hk ⟨F', env', acc, s3, i3, hac, q3⟩ y
      have hd : ds[k]? = some ds[k] := List.getElem?_eq_getElem hk
      have hdrop : ds.drop k = ds[k] :: ds.drop (k + 1) := List.drop_eq_getElem_cons hk
      obtain ⟨I, si, o, l⟩ := i3
      obtain ⟨F4, s4, o4⟩ := st k H x H' ds[k] F' (s2.trans s3) hd y A _ o
      have i4 : In K L F4 env' (wipe σ (slotsP p)) H' A ((x, (0, ds[k])) :: (V.ref D, (m + 1, PyData.list acc)) :: T) := ⟨I, si, o4.perm List.perm_middle.symm, l⟩
      rw [hdrop] at q3
      generalize ds[k] = d at q3 i4
      rw [compLoop] at q3
      cases e5 : bindPat p d env' with
      | none => rw [e5] at q3; exact q3.elim
      | some env5 =>
        rw [e5] at q3
        dsimp only at q3
        refine ⟨L, F4, A, _, env', d, env5, hl, i4, e5, hfr, fun σ5 i5 off => ⟨off_wipe off, ?_⟩⟩
        have back : ∀ {F6 : Hp} {env6 : Env} {H6 : Hp} {T6 : List It}, In K L F6 env6 σ5 H6 A T6 → In K L F6 (PL.wipeE env6 (slotsP p)) (wipe σ (slotsP p)) H6 A T6 := fun i6 => by
          have := i6.wipeE sf
          rw [off_wipe off] at this
          exact this
        have elt : ∀ {F6 : Hp} {env6 : Env} {H6 : Hp}, Same F4 F6 → In K L F6 env6 σ5 H6 A ((V.ref D, (m + 1, PyData.list acc)) :: T) →
            Post K C W L F6 A T σ (compEnd m p env2 (match evC C e env6 with
              | .ok [Item.val (k', v)] env3 => if m ≤ k' then compLoop m p (condOf c (evC C c)) (evC C e) (ds.drop (k + 1)) (acc ++ [v]) (wipeE env3 (slotsP p)) else .bad "comp element mode"
              | .ok _ _ => .bad "comp element"
              | .exc _ _ => .bad "comp raises"
              | .bad m => .bad m)) (QF K L A T σ Q) →
            tE K C W0 e σ5 H6 fun y H4 => ∃ acc', H4 D = some (.lst acc') ∧ acc'.length < sizeLine ∧ ∃ F' env' acc, Same F2 F' ∧ In K L F' env' (wipe σ (slotsP p)) (upd H4 D (.lst (acc' ++ [y]))) A ((V.ref D, (m + 1, PyData.list acc)) :: T) ∧ acc.length ≤ k + 1 ∧
              Post K C W L F' A T σ (compEnd m p env2 (compLoop m p (condOf c (evC C c)) (evC C e) (ds.drop (k + 1)) acc env')) (QF K L A T σ Q) := by
          intro F6 env6 H6 s6 i6 q6
          refine ⟨L, F6, A, _, env6, hl, i6, ?_⟩
          cases e7 : evC C e env6 with
          | bad m => rw [e7] at q6; exact q6.elim
          | exc x env7 => rw [e7] at q6; exact q6.elim
          | ok xs env7 =>
            rw [e7] at q6
            obtain ⟨x1, ex1⟩ := ev_one C e he _ _ _ e7
            subst ex1
            intro F7 H7 s7 vs T7 it7 i7
            cases x1 with
            | slot j => exact q6.elim
            | val kd =>
              obtain ⟨k', v⟩ := kd
              dsimp only at q6
              split at q6
              · rename_i hm
                cases it7 with
                | val it7 =>
                  cases it7
                  rename_i yv
                  obtain ⟨F8, ws, s8, e8, hz8, i8⟩ := In.push i7 hm (by omega)
                  refine ⟨yv, rfl, ws, e8, hz8, F8, _, acc ++ [v], ((((s3.trans s4).trans s6).trans s7).trans s8), back i8, by rw [List.length_append]; show acc.length + 1 ≤ k + 1; omega, Post.mono q6 (s7.trans s8) fun _ _ _ _ _ _ z => z⟩
              · exact q6.elim
        rcases ht with ⟨hc, htt⟩ | ⟨hc, htt⟩
        · subst hc htt
          unfold tYes
          simp only [if_true]
          exact elt (Same.refl _) i5 (Post.mono q3 s4 fun _ _ _ _ _ _ z => z)
        · subst htt
          rw [hc] at q3
          refine ⟨L, F4, A, _, env5, hl, i5, ?_⟩
          dsimp only [testR] at q3
          cases e7 : evC C c env5 with
          | bad m => rw [e7] at q3; exact q3.elim
          | exc x env7 => rw [e7] at q3; exact q3.elim
          | ok xs env7 =>
            rw [e7] at q3
            intro F7 H7 s7
            match xs, q3 with
            | [], q3 => exact q3.elim
            | [.slot _], q3 => exact q3.elim
            | x :: y :: z, q3 => cases x <;> exact q3.elim
            | [.val (k', b)], q3 =>
              refine ⟨_, (k', b), rfl, rfl, fun i7 => ?_⟩
              dsimp only at q3
              cases hb : truth b with
              | true =>
                rw [hb] at q3
                rw [if_pos rfl]
                exact elt s7 i7 (by
                  rw [hc]
                  exact Post.mono q3 (s4.trans s7) fun _ _ _ _ _ _ z => z)
              | false =>
                rw [hb] at q3
                rw [if_neg (by simp)]
                refine ⟨F7, _, acc, (s3.trans s4).trans s7, back i7, by omega, ?_⟩
                rw [hc]
                exact Post.mono q3 (s4.trans s7) fun _ _ _ _ _ _ z => z
    · rintro H ⟨F', env', acc, s3, i3, hac, q3⟩
      rw [List.drop_length] at q3
      have q3 := q3 F' H (Same.refl _)
      have i4 := (i3.unwipe).backE (fz.mono s3)
      obtain ⟨v, ev, q4⟩ := q3 [V.ref D] [(V.ref D, (m + 1, .list acc))] (.val .nil) i4
      cases ev
      exact q4
end PL
end

section
set_option maxRecDepth 100000
/-! PlSn5b: comprehensions of two clauses. -/
namespace PL
open PySem PySem.Spec PyProof.Rows L2
variable {X : Cx} {C : Cf} {nt : NT} {n : Nat} {sc tg : Scope} {W : WX} {K : PySem.W.Frag} {σ : L2.St} {H F : Hp} {L : List (Nat × V)} {env : Env} {A : List Addr} {T : List It}
theorem it_any {J : L2.It} {N : Nat} {G : Hp → Prop} {Y : Nat → Hp → V → Hp → Prop} (w : Walk J N G Y) {H0 : Hp} {Qd : Hp → Prop} (Pv : Nat → Hp → Prop) (h0 : Pv 0 H0) (hG : ∀ i H, i ≤ N → Pv i H → G H) (Bd : (Hp → Prop) → V → Hp → Prop)
    (hs : ∀ i x H H', i < N → Pv i H → Y i H x H' → Bd (Pv (i + 1)) x H') (hd : ∀ H, Pv N H → Qd H) :
    ∃ Wt : Nat → Nat → Hp → Prop, (∃ m, Wt 0 m H0) ∧ ∀ i m H, Wt i m H → (J.stop i H ∧ Qd H) ∨ (J.go i H ∧ ∃ Nx : Hp → Prop, (∀ H', Nx H' → ∃ m', m' < m ∧ Wt (i + 1) m' H') ∧ ∀ x H', J.yld i H x H' → Bd Nx x H') := by
  refine ⟨fun i m H => m = N - i ∧ i ≤ N ∧ Pv i H, ⟨N, rfl, Nat.zero_le _, h0⟩, fun i m H q => ?_⟩
  obtain ⟨e, hi, p⟩ := q
  have g := hG i H hi p
  rcases Nat.lt_or_ge i N with h | h
  · exact .inr ⟨w.goes i H h g, Pv (i + 1), fun H' p' => ⟨N - (i + 1), by omega, rfl, h, p'⟩, fun x H' y => hs i x H H' h p (w.yields i H x H' h g y)⟩
  · have : i = N := by omega
    subst this
    exact .inl ⟨w.stops H g, hd H p⟩
theorem wipe_sub {is vs : List Nat} {σ σ2 : L2.St} (hs : ∀ i ∈ is, i ∈ vs) (h : Off is (wipe σ vs) σ2) : wipe σ2 vs = wipe σ vs := by
  apply List.ext_getElem?
  intro j
  have hl : σ2.length = σ.length := h.1.trans (wipe_length σ vs)
  by_cases hj : j ∈ vs
  · by_cases hlt : j < σ.length
    · rw [wipe_in hj hlt, wipe_in hj (hl ▸ hlt)]
    · rw [List.getElem?_eq_none (by rw [wipe_length]; omega), List.getElem?_eq_none (by rw [wipe_length]; omega)]
  · rw [wipe_out hj]
    exact h.2 j fun z => hj (hs j z)
theorem wipe_wipe {is vs : List Nat} {σ : L2.St} (hs : ∀ i ∈ is, i ∈ vs) : wipe (wipe σ is) vs = wipe σ vs := by
  apply List.ext_getElem?
  intro j
  by_cases hj : j ∈ vs
  · by_cases hlt : j < σ.length
    · rw [wipe_in hj hlt, wipe_in hj (by rw [wipe_length]; exact hlt)]
    · rw [List.getElem?_eq_none (by rw [wipe_length, wipe_length]; omega), List.getElem?_eq_none (by rw [wipe_length]; omega)]
  · rw [wipe_out hj, wipe_out hj, wipe_out fun z => hj (hs j z)]
/-- within a block nothing is raised -/
theorem Post.calm {α β : Type} {T T0 : List It} {σ1 : L2.St} {r : R α} {f : α → Env → R β} {g : β → Env → R (List Item)} {Q : List Item → Env → Hp → Hp → Prop} {Q1 : α → Env → Hp → Hp → Prop} (h : Post K C W L F A T σ ((r.calm f).bind g) Q)
    (k : ∀ a env' F' H', r = .ok a env' → Same F F' → Post K C W L F' A T σ ((f a env').bind g) Q → Q1 a env' F' H') : Post K C W0 L F A T0 σ1 r Q1 := by
  cases r with
  | ok a env' => exact fun F' H' s' => k a env' F' H' rfl s' (Post.mono h s' fun _ _ _ _ _ _ z => z)
  | exc x env' => exact h.elim
  | bad m => exact h.elim
theorem calm_ok {α β : Type} (a : α) (env : Env) (f : α → Env → R β) : (R.ok a env).calm f = f a env := rfl
/-- a block's test -/
theorem tst_any {T0 : List It} {σ1 : L2.St} {c : E} {tt : TT} {β : Type} {f : Bool → Env → R β} {g : β → Env → R (List Item)} {Q : List Item → Env → Hp → Hp → Prop} {Q2 : Bool → Hp → Prop} (hl : Lko C L) (i : In K L F env σ1 H A T0) (ht : (c = .nil ∧ tt = tYes) ∨ ((∀ f, condOf c f = some f) ∧ tt = tT K C W0 c))
    (h : Post K C W L F A T σ (((testR (condOf c (evC C c)) env).calm f).bind g) Q) (k : ∀ b env' F' H', Same F F' → In K L F' env' σ1 H' A T0 → Post K C W L F' A T σ ((f b env').bind g) Q → Q2 b H') : tt σ1 H Q2 := by
  rcases ht with ⟨hc, htt⟩ | ⟨hc, htt⟩
  · subst hc htt
    exact k true env F H (Same.refl _) i h
  · subst htt
    rw [hc] at h
    refine ⟨L, F, A, T0, env, hl, i, ?_⟩
    dsimp only [testR] at h
    cases e7 : evC C c env with
    | bad m => rw [e7] at h; exact h.elim
    | exc x env7 => rw [e7] at h; exact h.elim
    | ok xs env7 =>
      rw [e7] at h
      intro F7 H7 s7
      match xs, h with
      | [], h => exact h.elim
      | [.slot _], h => exact h.elim
      | x :: y :: z, h => cases x <;> exact h.elim
      | [.val (k', b)], h => exact ⟨_, (k', b), rfl, rfl, fun i7 => k (truth b) env7 F7 H7 s7 i7 (Post.mono h s7 fun _ _ _ _ _ _ z => z)⟩
/-- behind the block -/
def compEnd2 (vs : List Nat) (env2 : Env) (l : List PL.D) (env3 : Env) : R (List Item) := .ok [Item.val (1, .list l)] (backE env2 env3 vs)
theorem calm_bind {α β γ : Type} (r : R α) (f : α → Env → R β) (g : β → Env → R γ) : (r.calm f).bind g = r.calm fun a env => (f a env).bind g := by cases r <;> rfl
theorem calm_calm {α β γ : Type} (r : R α) (f : α → Env → R β) (g : β → Env → R γ) : (r.calm f).calm g = r.calm fun a env => (f a env).calm g := by cases r <;> rfl
theorem tE_comp2 {e : E} {p p2 : Pat} {it c it2 c2 : E} {tt tt2 : TT} {Q : VK} (he : one e = true) (hfr : (slotsP p ++ slotsP p2).all (free C.lk) = true) (ht : (c = .nil ∧ tt = tYes) ∨ ((∀ f, condOf c f = some f) ∧ tt = tT K C W0 c))
    (ht2 : (c2 = .nil ∧ tt2 = tYes) ∨ ((∀ f, condOf c2 f = some f) ∧ tt2 = tT K C W0 c2)) (h : tE K C W (.comp2 e p it c p2 it2 c2) σ H Q) :
    tLc2 (tI K C W it) (tP K C p) tt (tI K C W0 it2) (tP K C p2) tt2 (tE K C W0 e) (slotsP p ++ slotsP p2) (slotsP p2) σ H Q := by
  obtain ⟨L, F, A, T, env, hl, i, q⟩ := h
  refine ⟨L, F, A, T, env, hl, i, ?_⟩
  generalize hvs : slotsP p ++ slotsP p2 = vs at *
  have fr1 : (slotsP p).all (free C.lk) = true := by rw [← hvs, List.all_append, Bool.and_eq_true] at hfr; exact hfr.1
  have fr2 : (slotsP p2).all (free C.lk) = true := by rw [← hvs, List.all_append, Bool.and_eq_true] at hfr; exact hfr.2
  have sub1 : ∀ i ∈ slotsP p, i ∈ vs := fun i hi => by rw [← hvs]; exact List.mem_append_left _ hi
  have sub2 : ∀ i ∈ slotsP p2, i ∈ vs := fun i hi => by rw [← hvs]; exact List.mem_append_right _ hi
  refine Post.step [] (show Post K C W L F A T σ ((evC C it env).bind fun xs env1 => match ksD xs with
    | none => .bad "comp2 iter"
    | some ds => (comp2Loop vs p (comp2Turn p2 (condOf c (evC C c)) (evC C it2) (condOf c2 (evC C c2)) (evC C e)) ds [] (wipeE (freezeAll env1 vs) vs)).bind (compEnd2 vs (freezeAll env1 vs))) (QF K L A T σ Q) by subst hvs; exact q) fun xs env1 F1 H1 e1 s1 q => ?_
  cases e2 : ksD xs with
  | none => simp only [e2] at q; exact q.elim
  | some ds =>
    simp only [e2] at q
    refine ⟨ds, rfl, fun hz J wk i1 D hD => ?_⟩
    obtain ⟨F2, s2, i2⟩ := i1.freezeAll (is := vs)
    have fz := i2.fz
    generalize PL.freezeAll env1 vs = env2 at q i2 fz
    have sf : ∀ i ∈ vs, ∀ q ∈ L, q.1 ≠ i := fun i hi q hq e => by
      have h1 := hl q hq
      have h2 := List.all_eq_true.mp hfr i hi
      rw [e, h2] at h1
      cases h1
    have sf2 : ∀ i ∈ slotsP p2, ∀ q ∈ L, q.1 ≠ i := fun i hi => sf i (sub2 i hi)
    obtain ⟨G, Y, w, g, st⟩ := wk
    refine it_any w (fun k H => ∃ F' env' acc, Same F2 F' ∧ In K L F' env' (wipe σ vs) H A ((V.ref D, (1, PyData.list acc)) :: T) ∧
      Post K C W L F' A T σ ((comp2Loop vs p (comp2Turn p2 (condOf c (evC C c)) (evC C it2) (condOf c2 (evC C c2)) (evC C e)) (ds.drop k) acc env').bind (compEnd2 vs env2)) (QF K L A T σ Q)) ?_ ?_ _ ?_ ?_
    · exact ⟨F2, _, [], Same.refl _, (i2.wipeE sf).new hD, Post.mono q s2 fun _ _ _ _ _ _ z => z⟩
    · rintro k H _ ⟨F', env', acc, s3, i3, _⟩
      exact g H ((s2.trans s3).trans i3.same)
    · rintro k x H H' hk ⟨F', env', acc, s3, i3, q3⟩ y
      have hd : ds[k]? = some ds[k] := List.getElem?_eq_getElem hk
      have hdrop : ds.drop k = ds[k] :: ds.drop (k + 1) := List.drop_eq_getElem_cons hk
      obtain ⟨I, si, o, l⟩ := i3
      obtain ⟨F4, s4, o4⟩ := st k H x H' ds[k] F' (s2.trans s3) hd y A _ o
      have i4 : In K L F4 env' (wipe σ vs) H' A ((x, (0, ds[k])) :: (V.ref D, (1, PyData.list acc)) :: T) := ⟨I, si, o4.perm List.perm_middle.symm, l⟩
      rw [hdrop] at q3
      generalize ds[k] = d at q3 i4
      rw [comp2Loop] at q3
      cases e5 : bindPat p d env' with
      | none => rw [e5] at q3; exact q3.elim
      | some env5 =>
        rw [e5] at q3
        dsimp only at q3
        refine ⟨L, F4, A, _, env', d, env5, hl, i4, e5, fr1, fun σ5 i5 off => ⟨wipe_sub sub1 off, ?_⟩⟩
        have wv : wipe σ5 vs = wipe σ vs := wipe_sub sub1 off
        have back : ∀ {F6 : Hp} {env6 : Env} {H6 : Hp} {T6 : List It} {σ6 : L2.St}, wipe σ6 vs = wipe σ vs → In K L F6 env6 σ6 H6 A T6 → In K L F6 (PL.wipeE env6 vs) (wipe σ vs) H6 A T6 := fun ew i6 => by
          have := i6.wipeE sf
          rw [ew] at this
          exact this
        unfold comp2Turn at q3
        rw [calm_calm] at q3
        refine tst_any hl i5 ht (Post.mono q3 s4 fun _ _ _ _ _ _ z => z) fun b env6 F6 H6 s6 i6 q6 => ?_
        cases b with
        | false => exact ⟨F6, _, acc, (s3.trans s4).trans s6, back wv i6, q6⟩
        | true =>
          rw [if_pos rfl] at q6 ⊢
          rw [calm_calm] at q6
          refine ⟨L, F6, A, _, env6, hl, i6, ?_⟩
          refine Post.calm q6 fun ys env7 F7 H7 e7 s7 q7 => ?_
          cases e8 : ksD ys with
          | none => rw [e8] at q7; exact q7.elim
          | some ds2 =>
            rw [e8] at q7
            refine ⟨ds2, rfl, fun hz2 J1 wk1 i7 => ?_⟩
            obtain ⟨G1, Y1, w1, g1, st1⟩ := wk1
            refine it_any w1 (fun j H => ∃ F' env' acc, Same F7 F' ∧ In K L F' env' (wipe σ5 (slotsP p2)) H A ((V.ref D, (1, PyData.list acc)) :: T) ∧
              Post K C W L F' A T σ (((innerLoop p2 (condOf c2 (evC C c2)) (evC C e) (ds2.drop j) acc env').calm fun acc1 env2' => comp2Loop vs p (comp2Turn p2 (condOf c (evC C c)) (evC C it2) (condOf c2 (evC C c2)) (evC C e)) (ds.drop (k + 1)) acc1 (wipeE env2' vs)).bind (compEnd2 vs env2)) (QF K L A T σ Q)) ?_ ?_ _ ?_ ?_
            · exact ⟨F7, _, acc, Same.refl _, i7.wipeE sf2, q7⟩
            · rintro j H _ ⟨F', env', acc', s9, i9, _⟩
              exact g1 H (s9.trans i9.same)
            · rintro j x2 H8 H9 hj ⟨F9, env9, acc9, s9, i9, q9⟩ y2
              have hd2 : ds2[j]? = some ds2[j] := List.getElem?_eq_getElem hj
              have hdrop2 : ds2.drop j = ds2[j] :: ds2.drop (j + 1) := List.drop_eq_getElem_cons hj
              obtain ⟨I2, si2, o2, l2⟩ := i9
              obtain ⟨Fa, sa, oa⟩ := st1 j H8 x2 H9 ds2[j] F9 s9 hd2 y2 A _ o2
              have ia : In K L Fa env9 (wipe σ5 (slotsP p2)) H9 A ((x2, (0, ds2[j])) :: (V.ref D, (1, PyData.list acc9)) :: T) := ⟨I2, si2, oa.perm List.perm_middle.symm, l2⟩
              rw [hdrop2] at q9
              generalize ds2[j] = d2 at q9 ia
              rw [innerLoop] at q9
              cases eb : bindPat p2 d2 env9 with
              | none => rw [eb] at q9; exact q9.elim
              | some envb =>
                rw [eb] at q9
                dsimp only at q9
                refine ⟨L, Fa, A, _, env9, d2, envb, hl, ia, eb, fr2, fun σb ib offb => ⟨off_wipe offb, ?_⟩⟩
                have backb : ∀ {F6 : Hp} {env6 : Env} {H6 : Hp} {T6 : List It}, In K L F6 env6 σb H6 A T6 → In K L F6 (PL.wipeE env6 (slotsP p2)) (wipe σ5 (slotsP p2)) H6 A T6 := fun i6 => by
                  have := i6.wipeE sf2
                  rw [off_wipe offb] at this
                  exact this
                rw [calm_calm] at q9
                refine tst_any hl ib ht2 (Post.mono q9 sa fun _ _ _ _ _ _ z => z) fun b envc Fc Hc sc ic qc => ?_
                cases b with
                | false => exact ⟨Fc, _, acc9, (s9.trans sa).trans sc, backb ic, qc⟩
                | true =>
                  rw [if_pos rfl] at qc ⊢
                  rw [calm_calm] at qc
                  refine ⟨L, Fc, A, _, envc, hl, ic, ?_⟩
                  refine Post.calm qc fun xs envd Fd Hd ed sd qd vs7 T7 it7 id7 => ?_
                  obtain ⟨x1, ex1⟩ := ev_one C e he _ _ _ ed
                  subst ex1
                  cases x1 with
                  | slot j => exact qd.elim
                  | val kd =>
                    obtain ⟨k', v⟩ := kd
                    dsimp only at qd
                    split at qd
                    · rename_i hsz
                      cases it7 with
                      | val it7 =>
                        cases it7
                        rename_i yv
                        obtain ⟨F8, ws, s8, e8, hz8, i8⟩ := In.push id7 (Nat.zero_le _) (show acc9.length < sizeLine from hsz)
                        exact ⟨yv, rfl, ws, e8, hz8, F8, _, acc9 ++ [v], (((s9.trans sa).trans sc).trans sd).trans s8, backb i8, Post.mono qd s8 fun _ _ _ _ _ _ z => z⟩
                    · exact qd.elim
            · rintro H9 ⟨F9, env9, acc9, s9, i9, q9⟩
              rw [List.drop_length] at q9
              refine ⟨F9, _, acc9, (((s3.trans s4).trans s6).trans s7).trans s9, back (by rw [wipe_wipe sub2]; exact wv) i9, q9⟩
    · rintro H ⟨F', env', acc, s3, i3, q3⟩
      rw [List.drop_length] at q3
      have q3 := q3 F' H (Same.refl _)
      have i4 := (i3.unwipe).backE (fz.mono s3)
      obtain ⟨v, ev, q4⟩ := q3 [V.ref D] [(V.ref D, (1, .list acc))] (.val .nil) i4
      cases ev
      exact q4
end PL
end

section
set_option maxRecDepth 100000
/-! PlSn6: what is shown of an expression; its texts, form by form. -/
namespace PL
open PySem PySem.Spec PyProof.Rows L2
variable {X : Cx} {C : Cf} {nt : NT} {n : Nat} {sc tg : Scope} {W : WX} {K : PySem.W.Frag} {σ : L2.St} {H : Hp}

def isTup : Expr → Bool
  | .Tuple _ _ _ => true
  | _ => false
def itOk : E → Expr → Bool
  | .iter .enum _, t => isTup t
  | .iter .zip _, t => isTup t
  | .iter _ _, _ => true
  | _, _ => false
def notNot (o : UnaryOp) : Bool := match o with
  | UnaryOp.Not => false
  | _ => true
/-- texts whose test is their value's truth -/
def plainT : Expr → Bool
  | .BoolOp _ _ _ => false
  | .UnaryOp u _ _ => notNot u
  | .Compare _ _ _ _ => false
  | .IfExp _ _ _ _ => false
  | _ => true
theorem plain_tr {a : Expr} {env : PySem.Env} (h : plainT a = true) (whole : Sem Value) : PySem.isTrue a env whole = (do
    let v ← whole
    standAt (Expr.pos a)
    holding [v] (truthy v)) := by
  cases a with
  | UnaryOp o e p => cases o <;> first | rfl | cases h
  | _ => first | rfl | cases h

structure P1 (X : Cx) (C : Cf) (W : WX) (e : E) (x : Expr) : Prop where
  pe : one e = true → PE X x (tE X.K C W e)
  pt : one e = true → tst x = true → PT X x (tT X.K C W e)
  pw : one e = true → ∀ o vs pos, x = .BoolOp o vs pos → PW X x (tT X.K C W e)
  pi : ∀ t, itOk e t = true → PI X t x (tI X.K C W e)
def Ps (X : Cx) (C : Cf) (W : WX) : E → List Expr → Prop
  | .cons e es, x :: r => P1 X C W e x ∧ Ps X C W es r
  | _, _ => True
def isL : E → Bool
  | .nil | .cons _ _ | .star _ _ => true
  | _ => false
structure Pn (X : Cx) (C : Cf) (W : WX) (e : E) (xs : List Expr) : Prop where
  pa : isL e = true → PA X xs (tX X.K C W e)
  ps : Ps X C W e xs
  p1 : ∀ x, xs = [x] → P1 X C W e x

theorem PE.mono {x : Expr} {t t' : TE} (h : PE X x t) (f : ∀ σ H Q, t' σ H Q → t σ H Q) : PE X x t' := ⟨fun pins s σ H Q I hw => h.run pins s σ H Q I (f σ H Q hw)⟩
theorem PT.mono {x : Expr} {t t' : TT} (h : PT X x t) (f : ∀ σ H Q, t' σ H Q → t σ H Q) : PT X x t' := ⟨fun pins s σ H Q I hw => h.run pins s σ H Q I (f σ H Q hw)⟩
theorem PW.mono {x : Expr} {t t' : TT} (h : PW X x t) (f : ∀ σ H Q, t' σ H Q → t σ H Q) : PW X x t' := ⟨fun wh pins s σ H Q I hw => h.run wh pins s σ H Q I (f σ H Q hw)⟩
theorem PA.mono {x : List Expr} {t t' : TA} (h : PA X x t) (f : ∀ σ H Q, t' σ H Q → t σ H Q) : PA X x t' := ⟨fun pos pins s σ H Q I hw => h.run pos pins s σ H Q I (f σ H Q hw)⟩
/-- a value whose test is its truth -/
theorem P1.val {e : E} {x : Expr} (hi : ∀ t, itOk e t = false) (hx : plainT x = true) (h : PE X x (tE X.K C W e)) : P1 X C W e x where
  pe := fun _ => h
  pt := fun _ _ => PT.mono (pt_truth h (plain_tr hx)) fun σ H Q q => tT_truth q
  pw := fun _ o vs pos z => by subst z; cases hx
  pi := fun t z => by rw [hi] at z; cases z
/-- a value that is not asked as a test -/
theorem P1.ifx {e : E} {x : Expr} (hi : ∀ t, itOk e t = false) (hx : tst x = false) (hb : ∀ o vs pos, x ≠ .BoolOp o vs pos) (h : PE X x (tE X.K C W e)) : P1 X C W e x where
  pe := fun _ => h
  pt := fun _ z => by rw [hx] at z; cases z
  pw := fun _ o vs pos z => absurd z (hb o vs pos)
  pi := fun t z => by rw [hi] at z; cases z
theorem P1.cmp {e : E} {x : Expr} (hi : ∀ t, itOk e t = false) (hb : ∀ o vs pos, x ≠ .BoolOp o vs pos) (h : PE X x (tE X.K C W e)) (ht : PT X x (tT X.K C W e)) : P1 X C W e x where
  pe := fun _ => h
  pt := fun _ _ => ht
  pw := fun _ o vs pos z => absurd z (hb o vs pos)
  pi := fun t z => by rw [hi] at z; cases z
theorem Pn.of1 {e : E} {x : Expr} (hl : isL e = false) (h : P1 X C W e x) : Pn X C W e [x] where
  pa := fun z => by rw [hl] at z; cases z
  ps := by cases e <;> first | exact trivial | cases hl
  p1 := fun y e => by cases e; exact h

/-! ### names, constants -/
theorem vis_of {x : Str} (h : isVis sc x = true) : Vis sc x := by
  unfold isVis at h
  rw [Bool.or_eq_true, Bool.or_eq_true] at h
  rcases h with (h | h) | h
  · exact .inl (of_decide_eq_true h)
  · exact .inr (.inl (of_decide_eq_true h))
  · exact .inr (.inr (of_decide_eq_true h))
theorem odd_no {x : Str} (h : odd x = false) : (x == ("__debug__" : Str)) = false ∧ (x == ("__classdict__" : Str)) = false ∧ x ≠ "__name__" := by
  unfold odd at h
  rw [Bool.or_eq_false_iff, Bool.or_eq_false_iff] at h
  refine ⟨h.1.1, h.1.2, fun e => ?_⟩
  rw [e] at h
  have := h.2
  simp at this
theorem gl_of (G : Gd X C nt n sc tg) {x : Str} (h : isGl sc x = true) : Gl X x := by
  show X.env.scope.names.lookup x = some .globalImplicit
  rw [G.esc]
  exact of_decide_eq_true h
theorem pe_slot (G : Gd X C nt n sc tg) {i : Nat} {x : Str} {pos : Pos} (h : slotOk X.N sc i x = true) : PE X (.Name x pos) (tVar i) := by
  unfold slotOk at h
  rw [Bool.and_eq_true, Bool.and_eq_true, Bool.not_eq_true'] at h
  obtain ⟨⟨h1, h2⟩, h3⟩ := h
  obtain ⟨o1, o2, _⟩ := odd_no h3
  exact pe_var (of_decide_eq_true h1) (by rw [G.esc]; exact vis_of h2) o1 o2
theorem pe_cst {d : D} {c : Const} {j : Nat} {pos : Pos} (h : cstOk d c = true) : PE X (.Constant c j pos) (tE X.K C W (.cst d)) := by
  cases d <;> cases c <;> first | (cases h; done) | skip
  · exact PE.mono pe_non fun σ H Q q => tE_cst (fun F => .non) q
  · have e := eq_of_beq (show ((_ == _) = true) from h)
    subst e
    exact PE.mono pe_bl fun σ H Q q => tE_cst (fun F => .bl _) q
  · have e := eq_of_beq (show ((_ == _) = true) from h)
    subst e
    exact PE.mono pe_int fun σ H Q q => tE_cst (fun F => .int _) q
  · rw [cstOk, Bool.and_eq_true, decide_eq_true_eq, decide_eq_true_eq] at h
    obtain ⟨e, hz⟩ := h
    subst e
    exact PE.mono pe_str fun σ H Q q => tE_cst (fun F => .str _ hz) q
theorem pe_gl (G : Gd X C nt n sc tg) {g : Nat} {x : Str} {pos : Pos} (h1 : nt.gl g = some x) (h2 : isGl sc x = true) (h3 : odd x = false) (hs : (C.glb g).isSome = true) : PE X (.Name x pos) (tE X.K C W (.glb g)) := by
  cases e : C.glb g with
  | none => rw [e] at hs; cases hs
  | some d =>
    obtain ⟨nm, v, u, e1, e2, r, rp⟩ := G.gl g d e
    rw [h1] at e1
    cases e1
    refine PE.mono (pe_glob (gl_of G h2) e2 r (odd_no h3).1) fun σ H Q q => ?_
    obtain ⟨d', e3, f⟩ := tE_glb (fun d' e' => ⟨v, by rw [e] at e'; cases e'; exact rp⟩) q
    rw [e] at e3
    cases e3
    exact f v rp

/-! ### pops -/
theorem In.pop1 {L : List (Nat × V)} {F : Hp} {env : Env} {A : List Addr} {T : List It} {i k : Nat} {ds : List D} (hi : In K L F env σ H A T) (e : getS env i = some (k + 1, .list ds)) :
    ∃ l vs, σ[i]? = some (some (.ref l)) ∧ H l = some (.lst vs) ∧ vs.length = ds.length ∧ vs.length ≤ sizeLine ∧ ∃ F', Same F F' ∧ RpL K F' vs ds ∧
      ∀ (ws : List V) (es : List D) (F2 : Hp) (T2 : List It), Same F' F2 → RpL K F2 ws es → ws.length ≤ sizeLine → (∀ I, Ok K F' H (l :: A) (I ++ T) → Ok K F2 H (l :: A) (I ++ T2)) → In K L F2 (env.set i (some (1, .list es))) σ (upd H l (.lst ws)) A T2 := by
  obtain ⟨v, J, e1, o, f, g⟩ := hi.pick e
  obtain ⟨F1, s1, o1⟩ := o.lower (show 1 ≤ k + 1 by omega)
  obtain ⟨l, vs, e2, e3, e4, e5, o2⟩ := o1.opn
  subst e2
  have r : RpL K F1 vs ds := kids_rp e5 o2
  have o3 : Ok K F1 H (l :: A) (J ++ T) := o2.dropL
  refine ⟨l, vs, e1, e3, e5, e4, F1, s1, r, fun ws es F2 T2 s2 r2 hz h2 => ?_⟩
  have o4 := (h2 J o3).fill (o := .lst ws)
  exact f _ _ _ _ (1, .list es) (Ok.cls (kids_add r2 o4) upd_same hz r2.length)
theorem dropLast_get {ds : List D} {d : D} (h : ds.getLast? = some d) : ds[ds.length - 1]? = some d := by
  rw [List.getLast?_eq_getElem?] at h
  exact h
theorem RpL.dropLast {F : Hp} {vs : List V} {ds : List D} (r : RpL K F vs ds) : RpL K F vs.dropLast ds.dropLast := by
  rw [List.dropLast_eq_take, List.dropLast_eq_take, r.length]
  exact r.take _
theorem tyV_lst {l : Addr} {vs : List V} (h : H l = some (.lst vs)) : tyV K "list" (.ref l) H := by
  unfold tyV
  exact .inl ⟨rfl, vs, .inl (.inl h)⟩
theorem tE_pop {i : Nat} {Q : VK} (h : tE K C W (.pop i) σ H Q) : tBM0 K "list" rPop (tVar i) σ H Q := by
  obtain ⟨L, F, A, T, env, hl, hi, p⟩ := h
  simp only [evC, ev] at p
  unfold popR at p
  split at p
  · rename_i k ds e
    split at p
    · rename_i d e2
      obtain ⟨l, vs, e1, e3, e4, hz, F1, s1, r, f⟩ := hi.pop1 e
      have hg := dropLast_get e2
      obtain ⟨v, e5, rv⟩ := r.get hg
      rw [← e4] at e5
      refine ⟨.ref l, e1, tyV_lst e3, l, vs, v, rfl, rfl, e3, e5, ?_⟩
      obtain ⟨v', e6, q⟩ := p F1 _ s1 [v] [(v, (0, d))] (.val .nil) (f vs.dropLast ds.dropLast F1 ([(v, (0, d))] ++ T) (Same.refl _) r.dropLast (by rw [List.length_dropLast]; omega) fun I o => by
        exact (o.addRp rv).perm List.perm_middle.symm)
      cases e6
      exact q
    · exact p.elim
  · exact p.elim
theorem ixPos_seq {n : Nat} {j : Int} {k : Nat} (h : ixPos n j = some k) : seqIndex? j n = some k ∧ k < n ∧ (-(n : Int) ≤ j ∧ j < n) := by
  unfold ixPos at h
  split at h
  · split at h
    · cases h
      refine ⟨?_, by omega, by omega⟩
      unfold seqIndex?
      rename_i h0 h1
      simp [h0, h1, show ¬ j < 0 by omega]
    · cases h
  · split at h
    · cases h
      rename_i h0 h1
      refine ⟨?_, by omega, by omega⟩
      unfold seqIndex?
      simp [show j < 0 by omega]
      omega
    · cases h
theorem RpL.eraseIdx {F : Hp} : ∀ {vs : List V} {ds : List D} (i : Nat), RpL K F vs ds → RpL K F (vs.eraseIdx i) (ds.eraseIdx i)
  | _, _, _, .nil => .nil
  | _, _, 0, .cons _ t => t
  | _, _, i + 1, .cons r t => .cons r (RpL.eraseIdx i t)

theorem eraseIdx_len {α : Type} (l : List α) (i : Nat) : (l.eraseIdx i).length ≤ l.length := len_erase l i
theorem tE_popat {i : Nat} {e : E} {Q : VK} (he : one e = true) (h : tE K C W (.popat i e) σ H Q) : tBM K "list" rPopAt (tVar i) (tCons (tE K C W e) tNil) σ H Q := by
  obtain ⟨L, F, A, T, env, hl, hi, p⟩ := h
  simp only [evC, ev] at p
  split at p
  · rename_i k0 ds0 e0
    obtain ⟨v0, J, e1, o, _, _⟩ := hi.pick e0
    refine ⟨v0, e1, ?_, ?_⟩
    · obtain ⟨F1, s1, o1⟩ := o.lower (Nat.zero_le k0)
      obtain ⟨a, xs, ev, g, _, _⟩ := rowL o1.same o1.rp
      subst ev
      exact .inl ⟨rfl, xs, g _ o1.same⟩
    · refine ⟨L, F, A, T, env, hl, hi, ?_⟩
      refine one_kd p fun kd env1 F1 H1 _ s1 q vs T1 it1 i1 => ?_
      cases it1 with
      | val it1 =>
        cases it1
        rename_i x
        refine ⟨x, rfl, ?_⟩
        obtain ⟨kk, dd⟩ := kd
        unfold popatR at q
        split at q
        · rename_i k ds j e2 e3
          have e3 : dd = .int j := e3
          subst e3
          obtain ⟨F2, s2, i2, rx⟩ := one_rp i1
          cases rx
          split at q
          · rename_i m e4
            split at q
            · rename_i d e5
              obtain ⟨l, ws, e6, e7, e8, hz, F3, s3, r, f⟩ := i2.pop1 e2
              rw [e1] at e6
              cases e6
              obtain ⟨y, e9, ry⟩ := r.get e5
              obtain ⟨b1, b2, b3, b4⟩ := ixPos_seq e4
              rw [← e8] at b1 b2 b3 b4
              have hzl : ws.length ≤ 16777216 := hz
              refine ⟨l, ws, j, m, y, rfl, rfl, e7, by omega, by omega, b1, e9, ?_⟩
              obtain ⟨v', e6, q⟩ := q F3 _ (s2.trans s3) [y] [(y, (0, d))] (.val .nil) (f (ws.eraseIdx m) (ds.eraseIdx m) F3 ([(y, (0, d))] ++ T) (Same.refl _) (r.eraseIdx m) (Nat.le_trans (eraseIdx_len _ _) hz) fun I o => by
                exact (o.addRp ry).perm List.perm_middle.symm)
              cases e6
              exact q
            · exact q.elim
          · exact q.elim
        · exact q.elim
  · exact p.elim
end PL
end

section
set_option maxRecDepth 100000
/-! PlSn7: the ops' texts. -/
namespace PL
open PySem PySem.Spec PyProof.Rows L2
variable {X : Cx} {C : Cf} {nt : NT} {n : Nat} {sc tg : Scope} {W : WX} {K : PySem.W.Frag} {σ : L2.St} {H : Hp}

theorem op_it {o : Op} {es : E} : ∀ t, itOk (.op o es) t = false := fun _ => rfl
theorem one_of {e : E} (h : one e = true) : ∀ env xs env', evC C e env = .ok xs env' → ∃ x, xs = [x] := ev_one C e h
/-- one operand and its text -/
theorem row1 {es : E} {a : Expr} (hp : plain es = true) (hl : ∀ e r, es = .cons e r → one e = true) (p : Pn X C W es [a]) (hs : ∀ x r, es = .cons x r → (r = .nil)) (hn : es ≠ .nil) : ∃ e, es = .cons e .nil ∧ one e = true ∧ P1 X C W e a := by
  cases es with
  | nil => exact absurd rfl hn
  | cons e r =>
    have := hs e r rfl
    subst this
    exact ⟨e, rfl, hl _ _ rfl, p.ps.1⟩
  | _ => cases hp
/-- the operands, each with its text -/
inductive Row (X : Cx) (C : Cf) (W : WX) : E → List Expr → Prop
  | nil : Row X C W .nil []
  | cons {e es : E} {x : Expr} {xs : List Expr} : one e = true → starless x = true → P1 X C W e x → Row X C W es xs → Row X C W (.cons e es) (x :: xs)
theorem Row.star {es : E} {xs : List Expr} (r : Row X C W es xs) : xs.all starless = true := by
  induction r with
  | nil => rfl
  | cons h1 h2 _ _ ih => rw [List.all_cons, h2, ih]; rfl
theorem Row.pa {es : E} {xs : List Expr} (r : Row X C W es xs) : PA X xs (tX X.K C W es) := by
  induction r with
  | nil => exact PA.mono pa_nil fun σ H Q q => tX_nil q
  | cons h1 h2 p _ ih => exact PA.mono (pa_cons (p.pe h1) ih (starless_each h2)) fun σ H Q q => tX_cons h1 q
theorem Row.one1 {es : E} {a : Expr} (r : Row X C W es [a]) : ∃ e, es = .cons e .nil ∧ one e = true ∧ P1 X C W e a := by
  cases r with
  | cons h1 h2 p r => cases r; exact ⟨_, rfl, h1, p⟩
theorem Row.two {es : E} {a b : Expr} (r : Row X C W es [a, b]) : ∃ e f, es = .cons e (.cons f .nil) ∧ one e = true ∧ one f = true ∧ P1 X C W e a ∧ P1 X C W f b := by
  cases r with
  | cons h1 h2 p r =>
    cases r with
    | cons h3 h4 q r => cases r; exact ⟨_, _, rfl, h1, h3, p, q⟩
theorem Row.three {es : E} {a b c : Expr} (r : Row X C W es [a, b, c]) : ∃ e f g, es = .cons e (.cons f (.cons g .nil)) ∧ one e = true ∧ one f = true ∧ one g = true ∧ P1 X C W e a ∧ P1 X C W f b ∧ P1 X C W g c := by
  cases r with
  | cons h1 h2 p r =>
    cases r with
    | cons h3 h4 q r =>
      cases r with
      | cons h5 h6 q2 r => cases r; exact ⟨_, _, _, rfl, h1, h3, h5, p, q, q2⟩
theorem Row.len {es : E} {xs : List Expr} (r : Row X C W es xs) : ∀ {σ H Q}, tX X.K C W es σ H Q → tX X.K C W es σ H fun vs H1 => vs.length = xs.length ∧ Q vs H1 := by
  induction r with
  | nil =>
    intro σ H Q q
    obtain ⟨L, F, A, T, env, hl, i, p⟩ := q
    refine ⟨L, F, A, T, env, hl, i, fun F' H' s vs T' it i' => ?_⟩
    cases it
    exact ⟨rfl, p F' H' s _ _ .nil i'⟩
  | @cons e es x xs h1 h2 p r ih =>
    intro σ H Q q
    obtain ⟨L, F, A, T, env, hl, i, p⟩ := q
    refine ⟨L, F, A, T, env, hl, i, Post.mono p (Same.refl _) fun ys env' F' H' _ ee q vs T' it i' => ⟨?_, q vs T' it i'⟩⟩
    have hlen : ∀ (es : E) (xs : List Expr), Row X C W es xs → ∀ env ys env', evC C es env = .ok ys env' → ys.length = xs.length := by
      intro es xs r
      induction r with
      | nil => intro env ys env' e; cases e; rfl
      | @cons e es x xs h1 h2 p r ih =>
        intro env ys env' e5
        obtain ⟨a, env1, e6, e7⟩ := bind_eq_ok (r := evC C e env) (f := fun xs env1 => (evC C es env1).bind fun ys env2 => R.ok (xs ++ ys) env2) e5
        obtain ⟨b, env2, e8, e9⟩ := bind_eq_ok e7
        obtain ⟨z, ez⟩ := ev_one C e h1 _ _ _ e6
        cases e9
        subst ez
        rw [List.length_append, ih _ _ _ e8]
        show 1 + xs.length = xs.length + 1
        omega
    rw [it.length]
    exact hlen _ _ (.cons h1 h2 ‹_› r) _ _ _ ee

theorem sv_sl {x : V} {Q : VK} (h : OpW K .sl [x] H Q) : rSl K x none none H Q := by
  obtain ⟨F, ds, d, s, v, e, o⟩ := h
  match ds, v, e with
  | [d0], .cons v .nil, e =>
    have e : cutOf d0 none none = some d := e
    exact cut_serves rfl s v e (fun z ez => by rw [ez] at e; cases e) o
theorem sv_sla {x y : V} {Q : VK} (h : OpW K .sla [x, y] H Q) : ∃ i, y = .int i ∧ rSl K x (some i) none H Q := by
  obtain ⟨F, ds, d, s, v, e, o⟩ := h
  match ds, v, e with
  | [d0, d1], .cons v (.cons v1 .nil), e =>
    have e0 : sCut d0 (some d1) none = some d := e
    clear e
    cases d1 <;> first | (cases e0; done) | skip
    rename_i i
    have e : cutOf d0 (some i) none = some d := e0
    exact ⟨i, v1.int, cut_serves rfl s v e (fun z ez => by rw [ez] at e; cases e) o⟩
theorem sv_slb {x y : V} {Q : VK} (h : OpW K .slb [x, y] H Q) : ∃ i, y = .int i ∧ rSl K x none (some i) H Q := by
  obtain ⟨F, ds, d, s, v, e, o⟩ := h
  match ds, v, e with
  | [d0, d1], .cons v (.cons v1 .nil), e =>
    have e0 : sCut d0 none (some d1) = some d := e
    clear e
    cases d1 <;> first | (cases e0; done) | skip
    rename_i i
    have e : cutOf d0 none (some i) = some d := e0
    exact ⟨i, v1.int, cut_serves rfl s v e (fun z ez => by rw [ez] at e; cases e) o⟩
theorem sv_slab {x y z : V} {Q : VK} (h : OpW K .slab [x, y, z] H Q) : ∃ i, y = .int i ∧ ∃ j, z = .int j ∧ rSl K x (some i) (some j) H Q := by
  obtain ⟨F, ds, d, s, v, e, o⟩ := h
  match ds, v, e with
  | [d0, d1, d2], .cons v (.cons v1 (.cons v2 .nil)), e =>
    have e0 : sCut d0 (some d1) (some d2) = some d := e
    clear e
    cases d1 <;> cases d2 <;> first | (cases e0; done) | skip
    rename_i i j
    have e : cutOf d0 (some i) (some j) = some d := e0
    exact ⟨i, v1.int, j, v2.int, cut_serves rfl s v e (fun z ez => by rw [ez] at e; cases e) o⟩
theorem ty_boot (t : Ty) : bootBuiltins (tyS t) = some (.type (tyN t)) ∧ tyS t ≠ "__name__" ∧ (tyS t == ("__debug__" : Str)) = false ∧ tyS t ∈ bltNames := by
  cases t <;> exact ⟨by decide +kernel, by decide, by decide, by decide +kernel⟩
theorem pe_ty (G : Gd X C nt n sc tg) {t : Ty} {pos : Pos} (h : isGl sc (tyS t) = true) : PE X (.Name (tyS t) pos) (tC (.ty (tyN t))) := by
  obtain ⟨h1, h2, h3, h4⟩ := ty_boot t
  exact pe_bltn (gl_of G h) (G.blt _ h4) h1 rfl h2 h3
theorem pa_tys (G : Gd X C nt n sc tg) : ∀ {ts : List Ty} {ys : List Expr}, tyNames sc ts ys = true → ys.all starless = true ∧ PA X ys (fun _ H Q => Q (ts.map fun t => V.ty (tyN t)) H)
  | [], [], _ => ⟨rfl, pa_nil⟩
  | t :: ts, .Name x pos :: ys, h => by
    simp only [tyNames, Bool.and_eq_true, decide_eq_true_eq] at h
    obtain ⟨⟨h1, h2⟩, h3⟩ := h
    subst h1
    obtain ⟨hs, hp⟩ := pa_tys G h3
    exact ⟨by rw [List.all_cons, hs]; rfl, PA.mono (pa_cons (pe_ty G h2) hp rfl) fun σ H Q q => q⟩
  | [], _ :: _, h => by cases h
  | _ :: _, [], h => by cases h
  | t :: ts, e :: ys, h => by
    cases e <;> first | cases h | skip
    rename_i x pos
    simp only [tyNames, Bool.and_eq_true, decide_eq_true_eq] at h
    obtain ⟨⟨h1, h2⟩, h3⟩ := h
    subst h1
    obtain ⟨hs, hp⟩ := pa_tys G h3
    exact ⟨by rw [List.all_cons, hs]; rfl, PA.mono (pa_cons (pe_ty G h2) hp rfl) fun σ H Q q => q⟩
theorem tys_len (ts : List Ty) (h : ts.length ≤ 100) : (ts.map fun t => V.ty (tyN t)).length ≤ sizeLine := by
  rw [List.length_map]
  exact Nat.le_trans h (by decide)

/-! ### each text of an op -/
theorem nb_cmp {a : Expr} {ops : List CmpOp} {bs : List Expr} {pos : Pos} : ∀ o vs p, Expr.Compare a ops bs pos ≠ .BoolOp o vs p := fun _ _ _ z => nomatch z
theorem room_u (G : Gd X C nt n sc tg) : X.A.units + 65 < cLine := by
  have := G.room.un
  omega
theorem p1_bin (G : Gd X C nt n sc tg) {o : Op} {op : Operator} {es : E} {a b : Expr} {pos : Pos} (h : binOf o = some op) (r : Row X C W es [a, b]) : P1 X C W (.op o es) (.BinOp a op b pos) := by
  obtain ⟨e, f, ee, h1, h2, p1, p2⟩ := r.two
  subst ee
  obtain ⟨r, ho, sv⟩ := bin_ok (X := X) h
  exact P1.val op_it rfl (PE.mono (pe_op ho (p1.pe h1) (p2.pe h2)) fun σ H Q q => tE_imp (tE_op2 (one_of h1) (one_of h2) q) fun x H1 q => tE_imp q fun y H2 q => sv x y H2 Q q)
theorem p1_cmp (G : Gd X C nt n sc tg) {o : Op} {op : CmpOp} {es : E} {a b : Expr} {pos : Pos} (h : cmpOf o = some op) (hn : noSet b = true) (r : Row X C W es [a, b]) : P1 X C W (.op o es) (.Compare a [op] [b] pos) := by
  obtain ⟨e, f, ee, h1, h2, p1, p2⟩ := r.two
  subst ee
  obtain ⟨r, ho, sv⟩ := cmp_ok (room_u G) h
  have hm : behindInMarks op b = false := by cases b <;> first | rfl | cases hn
  refine P1.cmp op_it nb_cmp (PE.mono (pe_cmpR ho (p1.pe h1) (p2.pe h2) hm) fun σ H Q q => tE_imp (tE_op2 (one_of h1) (one_of h2) q) fun x H1 q => tE_imp q fun y H2 q => sv x y H2 Q q)
    (PT.mono (pt_cmpR ho (p1.pe h1) (p2.pe h2) hm) fun σ H Q q => tE_imp (tE_op2 (one_of h1) (one_of h2) (tT_bool (op_bool h) q)) fun x H1 q => tE_imp q fun y H2 q => sv x y H2 _ q)
theorem p1_neg {es : E} {a : Expr} {pos : Pos} (r : Row X C W es [a]) : P1 X C W (.op .neg es) (.UnaryOp .USub a pos) := by
  obtain ⟨e, ee, h1, p1⟩ := r.one1
  subst ee
  exact P1.val op_it rfl (PE.mono (pe_un un_neg (p1.pe h1)) fun σ H Q q => tE_imp (tE_op1 (one_of h1) q) fun x H1 q => sv_neg q)
theorem tT_not {e : E} {Q : Bool → Hp → Prop} (he : one e = true) (h : tT K C W (.op .not (.cons e .nil)) σ H Q) : tNot (tT K C W e) σ H Q := by
  obtain ⟨L, F, A, T, env, hl, i, p⟩ := h
  refine ⟨L, F, A, T, env, hl, i, ?_⟩
  have p : Post K C W L F A T σ (((evC C e env).bind fun xs env1 => (R.ok [] env1).bind fun ys env2 => R.ok (xs ++ ys) env2).bind fun xs env1 => opR .not xs env1) _ := p
  rw [bind_assoc] at p
  refine Post.step [] p fun xs env' F' H' e' s q => ?_
  obtain ⟨x, ex⟩ := ev_one C _ he _ _ _ e'
  subst ex
  have q : Post K C W L F' A T σ (opR .not [x] env') _ := q
  cases x with
  | val kd =>
    obtain ⟨x', kd', e2, e3, q⟩ := q F' H' (Same.refl _)
    cases e2
    cases e3
    exact ⟨_, kd, rfl, rfl, q⟩
  | slot j =>
    unfold opR at q
    cases e4 : getS env' j with
    | none => simp only [itemsKD, itemKD, e4] at q; exact q.elim
    | some kd =>
      simp only [itemsKD, itemKD, e4] at q
      refine ⟨_, kd, rfl, e4, fun i' => ?_⟩
      obtain ⟨F1, s1, i1⟩ := In.lowerItems (xs := [.slot j]) i'
      obtain ⟨x', kd', e2, e3, q⟩ := q F1 H' s1
      cases e2
      cases e3
      exact q i1
theorem p1_not {es : E} {a : Expr} {pos : Pos} (hx : tst a = true) (r : Row X C W es [a]) : P1 X C W (.op .not es) (.UnaryOp .Not a pos) := by
  obtain ⟨e, ee, h1, p1⟩ := r.one1
  subst ee
  exact P1.cmp op_it (fun _ _ _ z => nomatch z) (PE.mono (pe_notT (p1.pe h1)) fun σ H Q q => tE_imp (tE_op1 (one_of h1) q) fun x H1 q => sv_not q) (PT.mono (pt_not (p1.pt h1 hx)) fun σ H Q q => tT_not h1 q)
theorem isN_bool {o : Op} (h : o = .isN ∨ o = .notN) {es : E} : ∀ env xs env', evC C (.op o es) env = .ok xs env' → ∃ k b, xs = [.val (k, .bool b)] := fun env xs env' e => by
  simp only [evC, ev] at e
  obtain ⟨ys, env1, _, h2⟩ := bind_eq_ok e
  unfold opR at h2
  split at h2
  · split at h2
    · rename_i kds _ _ d hd
      have : ∃ b, d = .bool b := by
        generalize (kds.map (·.2)) = ds at hd
        match ds, hd with
        | [], hd => cases hd
        | [a], hd => rcases h with h | h <;> (subst h; exact ⟨_, (Option.some.inj hd).symm⟩)
        | [a, b], hd => rcases h with h | h <;> (subst h; cases hd)
        | [a, b, c], hd => rcases h with h | h <;> (subst h; cases hd)
        | _ :: _ :: _ :: _ :: _, hd => cases hd
      obtain ⟨b, eb⟩ := this
      cases h2
      exact ⟨_, b, by rw [eb]⟩
    · cases h2
  · cases h2
theorem p1_isN {es : E} {a : Expr} {j : Nat} {pos p2 : Pos} (r : Row X C W es [a]) : P1 X C W (.op .isN es) (.Compare a [.Is] [.Constant .none j p2] pos) := by
  obtain ⟨e, ee, h1, p1⟩ := r.one1
  subst ee
  exact P1.cmp op_it nb_cmp (PE.mono (pe_cmp (pc_isN (p1.pe h1))) fun σ H Q q => tE_imp (tE_op1 (one_of h1) q) fun x H1 q => sv_isN q)
    (PT.mono (pt_cmpR op_isN (p1.pe h1) pe_non rfl) fun σ H Q q => tE_imp (tE_op1 (one_of h1) (tT_bool (isN_bool (.inl rfl)) q)) fun x H1 q => ⟨rfl, sv_isN q⟩)
theorem p1_notN {es : E} {a : Expr} {j : Nat} {pos p2 : Pos} (r : Row X C W es [a]) : P1 X C W (.op .notN es) (.Compare a [.IsNot] [.Constant .none j p2] pos) := by
  obtain ⟨e, ee, h1, p1⟩ := r.one1
  subst ee
  exact P1.cmp op_it nb_cmp (PE.mono (pe_cmp (pc_notN (p1.pe h1))) fun σ H Q q => tE_imp (tE_op1 (one_of h1) q) fun x H1 q => sv_notN q)
    (PT.mono (pt_cmpR op_notN (p1.pe h1) pe_non rfl) fun σ H Q q => tE_imp (tE_op1 (one_of h1) (tT_bool (isN_bool (.inr rfl)) q)) fun x H1 q => ⟨rfl, sv_notN q⟩)
theorem p1_sl {es : E} {a : Expr} {pos p2 : Pos} (r : Row X C W es [a]) : P1 X C W (.op .sl es) (.Subscript a (.Slice none none none p2) pos) := by
  obtain ⟨e, ee, h1, p1⟩ := r.one1
  subst ee
  exact P1.val op_it rfl (PE.mono (pe_slice or_sl (p1.pe h1) po_none po_none) fun σ H Q q => tE_imp (tE_op1 (one_of h1) q) fun x H1 q => sv_sl q)
theorem p1_sla {es : E} {a l : Expr} {pos p2 : Pos} (r : Row X C W es [a, l]) : P1 X C W (.op .sla es) (.Subscript a (.Slice (some l) none none p2) pos) := by
  obtain ⟨e, f, ee, h1, h2, p1, q1⟩ := r.two
  subst ee
  exact P1.val op_it rfl (PE.mono (pe_slice or_sl (p1.pe h1) (po_some (q1.pe h2)) po_none) fun σ H Q q => tE_imp (tE_op2 (one_of h1) (one_of h2) q) fun x H1 q => tE_imp q fun y H2 q => sv_sla q)
theorem p1_slb {es : E} {a l : Expr} {pos p2 : Pos} (r : Row X C W es [a, l]) : P1 X C W (.op .slb es) (.Subscript a (.Slice none (some l) none p2) pos) := by
  obtain ⟨e, f, ee, h1, h2, p1, q1⟩ := r.two
  subst ee
  exact P1.val op_it rfl (PE.mono (pe_slice or_sl (p1.pe h1) po_none (po_some (q1.pe h2))) fun σ H Q q => tE_imp (tE_op2 (one_of h1) (one_of h2) q) fun x H1 q => tE_imp q fun y H2 q => sv_slb q)
theorem tE_cut {a b c : E} {Q : VK} (ha : one a = true) (hc : one c = true) (h : tE K C W (.cut a b c) σ H Q) :
    tSl (rSl K) (tE K C W a) (tPart (tE K C W b)) (tPart (tE K C W c)) σ H Q := by
  obtain ⟨L, F, A, T, env, hl, i, p⟩ := h
  refine ⟨L, F, A, T, env, hl, i, ?_⟩
  refine Post.step [] (show Post K C W L F A T σ ((evC C a env).bind fun xs env1 => oneKD "cut" (evC C b env1) fun kb env2 => match kb.2 with
    | .int _ => (evC C c env2).bind fun zs env3 => opR .slab (xs ++ (.val kb :: zs)) env3
    | _ => .bad "cut") _ from p) fun xs env1 F1 H1 e s1 q vs T1 it1 i1 => ?_
  obtain ⟨x, ex⟩ := ev_one C _ ha _ _ _ e
  subst ex
  obtain ⟨v, ev⟩ := one_val it1
  subst ev
  refine ⟨v, rfl, L, F1, A, T1 ++ T, env1, hl, i1, ?_⟩
  unfold oneKD at q
  refine Post.step T1 q fun ys env2 F2 H2 e2 s2 q us T2 it2 i2 => ?_
  match ys, q, it2 with
  | [], q, it2 => exact q.elim
  | [.slot _], q, it2 => exact q.elim
  | x :: y :: z, q, it2 => cases x <;> exact q.elim
  | [.val (kb, db)], q, it2 =>
    have hj : ∃ j, db = .int j := by
      cases db <;> first | exact ⟨_, rfl⟩ | exact False.elim q
    obtain ⟨j, ej⟩ := hj
    subst ej
    clear e2
    cases it2 with
    | @val _ _ w _ _ it3 =>
      cases it3
      obtain ⟨F3, s3, i3, rw'⟩ := one_rp i2
      cases rw'
      refine ⟨_, rfl, j, rfl, L, F3, A, (.int j, (0, .int j)) :: (T1 ++ T), env2, hl, i3.ext (U := [(V.int j, (0, PyData.int j))]) fun I o => o.addRp (.int j), ?_⟩
      have q : Post K C W L F3 A T σ ((evC C c env2).bind fun zs env3 => opR .slab ([x] ++ (.val (kb, .int j) :: zs)) env3) _ := Post.mono q s3 fun _ _ _ _ _ _ z => z
      refine Post.step ((.int j, (0, .int j)) :: T1) q fun zs env3 F4 H4 e4 s4 q us T4 it4 i4 => ?_
      obtain ⟨z, ez⟩ := ev_one C _ hc _ _ _ e4
      subst ez
      obtain ⟨u, eu⟩ := one_val it4
      subst eu
      have q : Post K C W L F4 A T σ (opR .slab [x, .val (kb, .int j), z] env3) _ := q
      have it : IT σ [x, .val (kb, .int j), z] [v, .int j, u] (T1 ++ ((V.int j, (kb, PyData.int j)) :: T4)) := it1.append (.val it4)
      have i5 : In K L F4 env3 σ H4 A ((T1 ++ ((V.int j, (kb, PyData.int j)) :: T4)) ++ T) := by
        have i6 : In K L F4 env3 σ H4 A (T4 ++ (T1 ++ T)) := by
          refine In.drop1 (x := (V.int j, (0, PyData.int j))) (i4.perm ?_)
          exact List.perm_middle
        have i7 : In K L F4 env3 σ H4 A ((V.int j, (kb, PyData.int j)) :: (T4 ++ (T1 ++ T))) := i6.ext (U := [(V.int j, (kb, PyData.int j))]) fun I o => o.addFlat kb (.int j) rfl
        refine i7.perm ?_
        refine List.Perm.trans (List.Perm.cons _ (?_ : (T4 ++ (T1 ++ T)).Perm (T1 ++ (T4 ++ T)))) ?_
        · rw [← List.append_assoc, ← List.append_assoc]
          exact List.Perm.append_right T List.perm_append_comm
        · rw [List.append_assoc]
          exact List.perm_middle.symm
      obtain ⟨i', e5, j', e6, r⟩ := sv_slab (opw_of it i5 (Same.refl _) q)
      cases e5
      exact ⟨u, rfl, j', e6, r⟩
theorem p1_cut {a b c : E} {x l u : Expr} {pos p2 : Pos} (ha : one a = true) (hb : one b = true) (hc : one c = true) (p : P1 X C W a x) (q : P1 X C W b l) (r : P1 X C W c u) : P1 X C W (.cut a b c) (.Subscript x (.Slice (some l) (some u) none p2) pos) :=
  P1.val (fun _ => rfl) rfl (PE.mono (pe_slice or_sl (p.pe ha) (po_some (q.pe hb)) (po_some (r.pe hc))) fun σ H Q q => tE_cut ha hc q)
theorem plainIx {b : Expr} (h : (match b with | .Slice _ _ _ _ => false | .Tuple _ _ _ => false | _ => true) = true) : PlainIx b := by
  intro o i
  cases b <;> first | rfl | cases h
theorem p1_ix {es : E} {a b : Expr} {pos : Pos} (hb : PlainIx b) (r : Row X C W es [a, b]) : P1 X C W (.op .ix es) (.Subscript a b pos) := by
  obtain ⟨e, f, ee, h1, h2, p1, p2⟩ := r.two
  subst ee
  exact P1.val op_it rfl (PE.mono (pe_ix ix_seq (p1.pe h1) (p2.pe h2) hb) fun σ H Q q => tE_imp (tE_op2 (one_of h1) (one_of h2) q) fun x H1 q => tE_imp q fun y H2 q => sv_ix q)
theorem Row.head {es : E} {x : Expr} {xs : List Expr} (r : Row X C W es (x :: xs)) : starless x = true ∧ xs.all starless = true := by
  have := r.star
  rw [List.all_cons, Bool.and_eq_true] at this
  exact this
theorem p1_blt (G : Gd X C nt n sc tg) {o : Op} {x : Str} {m : Nat} {es : E} {args : List Expr} {p pos : Pos} (h : bltOf o = some (x, m)) (hl : args.length = m) (hg : isGl sc x = true) (r : Row X C W es args) : P1 X C W (.op o es) (.Call (.Name x p) args [] pos) := by
  obtain ⟨rr, cr, sv, n1, n2, hb⟩ := blt_ok (X := X) G.calm h
  cases args with
  | nil =>
    have : m = 0 := hl.symm
    subst this
    cases o <;> cases h
  | cons a as =>
    obtain ⟨s1, s2⟩ := r.head
    have fin : ∀ σ H Q, tE X.K C W (.op o es) σ H Q → tCB rr (tX X.K C W es) σ H Q := fun σ H Q q => tX_imp (r.len (tX_op q)) fun vs H1 ⟨hl2, q⟩ => sv vs H1 Q (hl2.trans hl) q
    rcases cr with ⟨id, e, cr⟩ | ⟨T, e, cr⟩
    · exact P1.val op_it rfl (PE.mono (pe_callB cr (gl_of G hg) (G.blt x hb) e r.pa n1 n2 (starless_each s1) (starless_none s2)) fin)
    · exact P1.val op_it rfl (PE.mono (pe_callTy cr (gl_of G hg) (G.blt x hb) e r.pa n1 n2 (starless_each s1) (starless_none s2)) fin)
theorem p1_isi1 (G : Gd X C nt n sc tg) {t : Ty} {es : E} {a : Expr} {p p2 pos : Pos} (h1 : isGl sc ("isinstance" : Str) = true) (h2 : isGl sc (tyS t) = true) (sa : starless a = true) (r : Row X C W es [a]) :
    P1 X C W (.op (.isi [t]) es) (.Call (.Name ("isinstance" : Str) p) [a, .Name (tyS t) p2] [] pos) := by
  obtain ⟨e, ee, o1, p1⟩ := r.one1
  subst ee
  refine P1.val op_it rfl (PE.mono (pe_callB call_isi (gl_of G h1) (G.blt _ (by decide +kernel)) (by decide +kernel) (pa_cons (p1.pe o1) (pa_cons (pe_ty G h2) pa_nil rfl) (starless_each sa)) (by decide) (by decide) (starless_each sa) (starless_none rfl)) fun σ H Q q => ?_)
  exact tE_imp (tE_op1 (one_of o1) q) fun x H1 q => sv_isi1 q
theorem p1_isiT (G : Gd X C nt n sc tg) {ts : List Ty} {es : E} {a : Expr} {ys : List Expr} {k : Nat} {p p2 pos : Pos} (h1 : isGl sc ("isinstance" : Str) = true) (h2 : tyNames sc ts ys = true) (hz : ts.length ≤ 100) (sa : starless a = true) (r : Row X C W es [a]) :
    P1 X C W (.op (.isi ts) es) (.Call (.Name ("isinstance" : Str) p) [a, .Tuple ys k p2] [] pos) := by
  obtain ⟨e, ee, o1, p1⟩ := r.one1
  subst ee
  obtain ⟨ss, pp⟩ := pa_tys (X := X) G h2
  refine P1.val op_it rfl (PE.mono (pe_callB call_isiT (gl_of G h1) (G.blt _ (by decide +kernel)) (by decide +kernel) (pa_cons (p1.pe o1) (pa_cons (pe_tup pp) pa_nil rfl) (starless_each sa)) (by decide) (by decide) (starless_each sa) (starless_none rfl)) fun σ H Q q => ?_)
  exact tE_imp (tE_op1 (one_of o1) q) fun x H1 q => ⟨tys_len ts hz, fun p hp => sv_isiT q hp⟩
end PL
end

section
set_option maxRecDepth 100000
/-! PlSn8: the checker of expressions; it is sound. -/
namespace PL
open PySem PySem.Spec PyProof.Rows L2
variable {X : Cx} {C : Cf} {nt : NT} {n : Nat} {sc tg : Scope} {W : WX} {K : PySem.W.Frag} {σ : L2.St} {H : Hp}

theorem none_shape {b : Expr} (h : isNone b = true) : ∃ j p, b = .Constant .none j p := by
  cases b with
  | Constant c j p =>
    cases c with
    | none => exact ⟨j, p, rfl⟩
    | _ => cases h
  | _ => cases h
theorem p1_cmp1 (G : Gd X C nt n sc tg) {o : Op} {es : E} {a b : Expr} {op : CmpOp} {pos : Pos} {ys : List Expr} (h : opCmp1 o a op b = some ys) (r : Row X C W es ys) : P1 X C W (.op o es) (.Compare a [op] [b] pos) := by
  unfold opCmp1 at h
  split at h
  · rename_i hc
    cases h
    exact p1_cmp G hc.1 hc.2 r
  · split at h
    · rename_i hc
      obtain ⟨h1, h2, h3⟩ := hc
      obtain ⟨j, p, e⟩ := none_shape h3
      subst h1 h2 e
      cases h
      exact p1_isN r
    · split at h
      · rename_i hc
        obtain ⟨h1, h2, h3⟩ := hc
        obtain ⟨j, p, e⟩ := none_shape h3
        subst h1 h2 e
        cases h
        exact p1_notN r
      · cases h
theorem p1_slice {o : Op} {es : E} {a : Expr} {lo hi : Option Expr} {pos p2 : Pos} {ys : List Expr} (h : opSlice o a lo hi = some ys) (r : Row X C W es ys) : P1 X C W (.op o es) (.Subscript a (.Slice lo hi none p2) pos) := by
  unfold opSlice at h
  cases lo with
  | none =>
    cases hi with
    | none =>
      dsimp only at h
      split at h
      · rename_i e; subst e; cases h; exact p1_sl r
      · cases h
    | some u =>
      dsimp only at h
      split at h
      · rename_i e; subst e; cases h; exact p1_slb r
      · cases h
  | some l =>
    cases hi with
    | none =>
      dsimp only at h
      split at h
      · rename_i e; subst e; cases h; exact p1_sla r
      · cases h
    | some u => cases h
theorem ixOk_plain {b : Expr} (h : ixOk b = true) : PlainIx b := by
  intro o i
  cases b <;> first | rfl | cases h
theorem minus1_ok {s : Expr} (h : isMinus1 s = true) : ∃ k p1 p2, s = .UnaryOp .USub (.Constant (.int 1) k p1) p2 := by
  cases s with
  | UnaryOp u x p =>
    cases u with
    | USub =>
      cases x with
      | Constant c j q =>
        cases c with
        | int i =>
          have h : decide (i = 1) = true := h
          have e := of_decide_eq_true h
          subst e
          exact ⟨_, _, _, rfl⟩
        | _ => cases h
      | _ => cases h
    | _ => cases h
  | _ => cases h
theorem p1_rev {es : E} {a : Expr} {k : Nat} {q1 q2 p2 pos : Pos} (r : Row X C W es [a]) : P1 X C W (.op .rev es) (.Subscript a (.Slice none none (some (.UnaryOp .USub (.Constant (.int 1) k q1) q2)) p2) pos) := by
  obtain ⟨e, ee, o1, p1⟩ := r.one1
  subst ee
  refine P1.val op_it rfl (PE.mono (pe_revA (p1.pe o1)) fun σ H Q q => ?_)
  exact tE_imp (tE_op1 (one_of o1) q) fun x H1 q => sv_rev q
theorem p1_sub {o : Op} {es : E} {a b : Expr} {pos : Pos} {ys : List Expr} (h : opSub o a b = some ys) (r : Row X C W es ys) : P1 X C W (.op o es) (.Subscript a b pos) := by
  have ix : ∀ {b : Expr}, (if o = .ix ∧ ixOk b = true then some [a, b] else none) = some ys → P1 X C W (.op o es) (.Subscript a b pos) := fun {b} h0 => by
    clear h
    split at h0
    · rename_i hc
      obtain ⟨h1, h2⟩ := hc
      subst h1
      cases h0
      exact p1_ix (ixOk_plain h2) r
    · cases h0
  cases b with
  | Slice lo hi st p2 =>
    cases st with
    | none => exact p1_slice h r
    | some s =>
      have h0 : (if o = .rev ∧ lo.isNone = true ∧ hi.isNone = true ∧ isMinus1 s = true then some [a] else none) = some ys := h
      clear h ix
      split at h0
      · rename_i hc
        obtain ⟨h1, h2, h3, h4⟩ := hc
        subst h1
        cases h0
        cases lo with
        | some _ => cases h2
        | none =>
          cases hi with
          | some _ => cases h3
          | none =>
            obtain ⟨k, q1, q2, es⟩ := minus1_ok h4
            subst es
            exact p1_rev r
      · cases h0
  | _ => exact ix h
theorem p1_isi (G : Gd X C nt n sc tg) {ts : List Ty} {x : Str} {es : E} {args ys : List Expr} {p pos : Pos} (h : opIsi sc ts x args = some ys) (r : Row X C W es ys) : P1 X C W (.op (.isi ts) es) (.Call (.Name x p) args [] pos) := by
  match args, h with
  | [], h => cases h
  | [_], h => cases h
  | _ :: _ :: _ :: _, h => cases h
  | [a, c], h0 =>
    clear h
    unfold opIsi at h0
    dsimp only at h0
    split at h0
    · rename_i hc
      obtain ⟨h1, h2, h3⟩ := hc
      subst h1
      cases h0
      cases c with
      | Name y p2 =>
        match ts, h3 with
        | [], h3 => cases h3
        | _ :: _ :: _, h3 => cases h3
        | [t], h3 =>
          have h3 : (decide (y = tyS t) && isGl sc y) = true := h3
          rw [Bool.and_eq_true, decide_eq_true_eq] at h3
          obtain ⟨h4, h5⟩ := h3
          subst h4
          exact p1_isi1 G h2 h5 r.head.1 r
      | Tuple zs k p2 =>
        have h3 : (tyNames sc ts zs && decide (ts.length ≤ 100)) = true := h3
        rw [Bool.and_eq_true, decide_eq_true_eq] at h3
        exact p1_isiT G h2 h3.1 h3.2 r.head.1 r
      | _ => cases h3
    · cases h0
theorem glb_of (G : Gd X C nt n sc tg) {x : Str} (h : x ∈ bltNames) : X.mg x = none := G.blt x h
theorem pe_set1 (G : Gd X C nt n sc tg) {u : Expr} {es : E} {p2 pos2 : Pos} (g : Gl X ("set" : Str)) (r : Row X C W es [u]) : PE X (.Call (.Name ("set" : Str) p2) [u] [] pos2) (tCB (rSetI X.K X.w) (tX X.K C W es)) := by
  obtain ⟨s1, s2⟩ := r.head
  exact pe_callTy (cr_setI G.calm) g (G.blt _ (by decide +kernel)) PyProof.Rows.boot_set r.pa (by decide) (by decide) (starless_each s1) (starless_none s2)
theorem one_star {u : Expr} {env : PySem.Env} (h : starless u = true) : starEach [u] env = (false, eval u env) :: starEach [] env := starless_each h
theorem p1_nest (G : Gd X C nt n sc tg) {o : Op} {a b x : Str} {m : Nat} {es : E} {args ys : List Expr} {p pos : Pos} (hn : nestOf o = some (a, b, m)) (h : opNest sc a b m x args = some ys) (r : Row X C W es ys) : P1 X C W (.op o es) (.Call (.Name x p) args [] pos) := by
  unfold opNest at h
  split at h
  · rename_i y p2 zs pos2
    split at h
    · rename_i hc
      obtain ⟨h1, h2, h3, h4, h5⟩ := hc
      cases h
      subst h1 h2
      have g1 := gl_of G h4
      have g2 := gl_of G h5
      cases o <;> first | (cases hn; done) | skip
      all_goals cases hn
      · -- list(range(u))
        match ys, h3, r with
        | [u], _, r =>
          have s1 := r.head.1
          obtain ⟨e, ee, o1, p1⟩ := r.one1
          subst ee
          refine P1.val op_it rfl (PE.mono (pe_listRg G.calm g1 (G.blt _ (by decide +kernel)) (prg_1 g2 (G.blt _ (by decide +kernel)) (p1.pe o1) (one_star s1))) fun σ H Q q => ?_)
          exact tE_imp (tE_op1 (one_of o1) q) fun x H1 q => sv_lrg1 q
      · match ys, h3, r with
        | [u, v], _, r =>
          have s1 := r.star
          rw [List.all_cons, List.all_cons, Bool.and_eq_true, Bool.and_eq_true] at s1
          obtain ⟨e, f, ee, o1, o2, p1, p2⟩ := r.two
          subst ee
          refine P1.val op_it rfl (PE.mono (pe_listRg G.calm g1 (G.blt _ (by decide +kernel)) (prg_2 g2 (G.blt _ (by decide +kernel)) (p1.pe o1) (p2.pe o2) (starless_each s1.1) (one_star s1.2.1) (starless_none (by rw [List.all_cons, s1.2.1]; rfl)))) fun σ H Q q => ?_)
          exact tE_imp (tE_op2 (one_of o1) (one_of o2) q) fun x H1 q => tE_imp q fun y H2 q => sv_lrg2 q
      · match ys, h3, r with
        | [u], _, r =>
          have s1 := r.head.1
          obtain ⟨e, ee, o1, p1⟩ := r.one1
          subst ee
          refine P1.val op_it rfl (PE.mono (pe_tupRg G.calm g1 (G.blt _ (by decide +kernel)) (prg_1 g2 (G.blt _ (by decide +kernel)) (p1.pe o1) (one_star s1))) fun σ H Q q => ?_)
          exact tE_imp (tE_op1 (one_of o1) q) fun x H1 q => sv_trg1 q
      · match ys, h3, r with
        | [u, v], _, r =>
          have s1 := r.star
          rw [List.all_cons, List.all_cons, Bool.and_eq_true, Bool.and_eq_true] at s1
          obtain ⟨e, f, ee, o1, o2, p1, p2⟩ := r.two
          subst ee
          refine P1.val op_it rfl (PE.mono (pe_tupRg G.calm g1 (G.blt _ (by decide +kernel)) (prg_2 g2 (G.blt _ (by decide +kernel)) (p1.pe o1) (p2.pe o2) (starless_each s1.1) (one_star s1.2.1) (starless_none (by rw [List.all_cons, s1.2.1]; rfl)))) fun σ H Q q => ?_)
          exact tE_imp (tE_op2 (one_of o1) (one_of o2) q) fun x H1 q => tE_imp q fun y H2 q => sv_trg2 q
      · -- sorted(set(u))
        match ys, h3, r with
        | [u], _, r =>
          refine P1.val op_it rfl (PE.mono (pe_callB (cr_sortedSet G.calm) g1 (G.blt _ (by decide +kernel)) (by decide +kernel) (pa_cons (pe_set1 G g2 r) pa_nil) (by decide) (by decide)) fun σ H Q q => ?_)
          exact tX_imp (r.len (tX_op q)) fun vs H1 z => by
            match vs, z with
            | [v], z => exact sv_sortedSet z.2
      · -- len(set(u))
        match ys, h3, r with
        | [u], _, r =>
          refine P1.val op_it rfl (PE.mono (pe_callB cr_lenSet g1 (G.blt _ (by decide +kernel)) (by decide +kernel) (pa_cons (pe_set1 G g2 r) pa_nil) (by decide) (by decide)) fun σ H Q q => ?_)
          exact tX_imp (r.len (tX_op q)) fun vs H1 z => by
            match vs, z with
            | [v], z => exact sv_lenSet z.2
    · cases h
  · cases h
theorem p1_name (G : Gd X C nt n sc tg) {o : Op} {x : Str} {es : E} {args ys : List Expr} {p pos : Pos} (h : opName sc o x args = some ys) (r : Row X C W es ys) : P1 X C W (.op o es) (.Call (.Name x p) args [] pos) := by
  unfold opName at h
  cases e : isiTs o with
  | some ts =>
    rw [e] at h
    cases o <;> first | (cases e; done) | skip
    cases e
    exact p1_isi G h r
  | none =>
    rw [e] at h
    cases e3 : nestOf o with
    | some abm =>
      obtain ⟨a, b, m⟩ := abm
      rw [e3] at h
      exact p1_nest G e3 h r
    | none =>
    rw [e3] at h
    have h : opBlt sc o x args = some ys := h
    unfold opBlt at h
    cases e2 : bltOf o with
    | none => rw [e2] at h; cases h
    | some q =>
      obtain ⟨y, m⟩ := q
      rw [e2] at h
      dsimp only at h
      split at h
      · rename_i hh
        obtain ⟨h1, h2, h3⟩ := hh
        subst h1
        cases h
        exact p1_blt G e2 h2 h3 r
      · cases h
theorem p1_op (G : Gd X C nt n sc tg) {o : Op} {es : E} {x : Expr} {ys : List Expr} (h : opForm sc o x = some ys) (r : Row X C W es ys) : P1 X C W (.op o es) x := by
  cases x with
  | BinOp a op b pos =>
    have h : (if binOf o = some op then some [a, b] else none) = some ys := h
    split at h
    · rename_i hb
      cases h
      exact p1_bin G hb r
    · cases h
  | UnaryOp u a pos =>
    cases u with
    | USub =>
      have h : (if o = .neg then some [a] else none) = some ys := h
      split at h
      · rename_i ho
        subst ho
        cases h
        exact p1_neg r
      · cases h
    | Not =>
      have h0 : (if o = .not ∧ tst a = true then some [a] else none) = some ys := h
      clear h
      split at h0
      · rename_i ho
        obtain ⟨ho, ht⟩ := ho
        subst ho
        cases h0
        exact p1_not ht r
      · cases h0
    | _ => cases h
  | Compare a ops bs pos =>
    match ops, bs, h with
    | [op], [b], h => exact p1_cmp1 G h r
    | [], _, h => cases h
    | [_], [], h => cases h
    | [_], _ :: _ :: _, h => cases h
    | _ :: _ :: _, _, h => cases h
  | Subscript a b pos => exact p1_sub h r
  | Call f args kws pos =>
    cases f with
    | Name y p =>
      cases kws with
      | cons _ _ => cases h
      | nil => exact p1_name G h r
    | _ => cases h
  | _ => cases h
end PL
end

section
set_option maxRecDepth 100000
/-! PlKw: calls with keywords. -/
namespace PL
open PySem PySem.Spec PyProof.Rows L2
variable {X : Cx} {C : Cf} {nt : NT} {n : Nat} {sc tg : Scope} {W : WX} {K : PySem.W.Frag} {σ : L2.St} {H : Hp}

def pick {α : Type} (xs : List α) (is : List (Option Nat)) : List α := is.filterMap fun o => o.bind fun i => xs[i]?
def idxs (perm : List Nat) : List (Option Nat) := (List.range perm.length).map fun j => perm.findIdx? (· == j)
theorem permL_pick {α : Type} (xs : List α) (perm : List Nat) : permL xs perm = pick xs (idxs perm) := by
  unfold permL pick idxs
  rw [List.filterMap_map]
  rfl
theorem vals_pick {vs : List V} {us : List Value} (r : Vals vs us) : ∀ is : List (Option Nat), Vals (pick vs is) (pick us is)
  | [] => .nil
  | none :: is => vals_pick r is
  | some i :: is => by
    have ih := vals_pick r is
    unfold pick at ih ⊢
    cases e : vs[i]? with
    | none =>
      have e2 : us[i]? = none := by
        rw [List.getElem?_eq_none_iff] at e ⊢
        rw [← r.length]
        exact e
      rw [List.filterMap_cons_none (by simp [e]), List.filterMap_cons_none (by simp [e2])]
      exact ih
    | some v =>
      obtain ⟨u, e2, rv⟩ := r.get e
      rw [List.filterMap_cons_some (b := v) (by simp [e]), List.filterMap_cons_some (b := u) (by simp [e2])]
      exact .cons rv ih
theorem pick_map {α β : Type} (f : α → β) (xs : List α) : ∀ is : List (Option Nat), pick (xs.map f) is = (pick xs is).map f
  | [] => rfl
  | none :: is => pick_map f xs is
  | some i :: is => by
    have ih := pick_map f xs is
    unfold pick at ih ⊢
    cases e : xs[i]? with
    | none => rw [List.filterMap_cons_none (by simp [e]), List.filterMap_cons_none (by simp [e])]; exact ih
    | some v => rw [List.filterMap_cons_some (b := f v) (by simp [e]), List.filterMap_cons_some (b := v) (by simp [e]), ih]; rfl
theorem range_pick {α : Type} (xs : List α) : (List.range xs.length).filterMap (fun i => xs[i]?) = xs := by
  induction xs with
  | nil => rfl
  | cons x xs ih =>
    rw [List.length_cons, List.range_succ_eq_map, List.filterMap_cons_some (b := x) (by simp), List.filterMap_map]
    have e : ((fun i => (x :: xs)[i]?) ∘ Nat.succ) = fun i => xs[i]? := by funext i; simp
    rw [e, ih]
theorem pick_range {α : Type} (xs : List α) : ∀ is : List (Option Nat), pick xs is = (pick (List.range xs.length) is).filterMap (fun i => xs[i]?)
  | [] => rfl
  | none :: is => pick_range xs is
  | some i :: is => by
    have ih := pick_range xs is
    unfold pick at ih ⊢
    cases e : xs[i]? with
    | none =>
      have h : ¬ i < xs.length := by rw [List.getElem?_eq_none_iff] at e; omega
      rw [List.filterMap_cons_none (by simp [e]), List.filterMap_cons_none (by simp; omega)]
      exact ih
    | some v =>
      have h : i < xs.length := (List.getElem?_eq_some_iff.mp e).1
      rw [List.filterMap_cons_some (b := v) (by simp [e]), List.filterMap_cons_some (b := i) (by simp [h]), List.filterMap_cons_some (b := v) e, ih]
/-- every argument once -/
def permOk (m : Nat) (perm : List Nat) : Bool := decide ((permL (List.range m) perm).Perm (List.range m))
theorem permL_perm {α : Type} {xs : List α} {perm : List Nat} (h : permOk xs.length perm = true) : (permL xs perm).Perm xs := by
  have h := of_decide_eq_true h
  rw [permL_pick] at h ⊢
  rw [pick_range]
  have := h.filterMap (fun i => xs[i]?)
  rw [range_pick] at this
  exact this
/-- operands, one by one -/
theorem it_list : ∀ {xs : List Item} {vs : List V} {T : List It}, IT σ xs vs T → ∃ l : List (Item × V × List It), xs = l.map (·.1) ∧ vs = l.map (·.2.1) ∧ T = (l.map (·.2.2)).flatten ∧ ∀ q ∈ l, IT σ [q.1] [q.2.1] q.2.2
  | _, _, _, .nil => ⟨[], rfl, rfl, rfl, fun _ h => nomatch h⟩
  | _, _, _, @IT.val _ kd xs v vs T t => by
    obtain ⟨l, e1, e2, e3, f⟩ := it_list t
    subst e1 e2 e3
    refine ⟨(.val kd, v, [(v, kd)]) :: l, rfl, rfl, rfl, fun q hq => ?_⟩
    rcases List.mem_cons.mp hq with e | hq
    · subst e; exact .val .nil
    · exact f q hq
  | _, _, _, @IT.slot _ i xs v vs T hv t => by
    obtain ⟨l, e1, e2, e3, f⟩ := it_list t
    subst e1 e2 e3
    refine ⟨(.slot i, v, []) :: l, rfl, rfl, rfl, fun q hq => ?_⟩
    rcases List.mem_cons.mp hq with e | hq
    · subst e; exact .slot hv .nil
    · exact f q hq
theorem it_join : ∀ {l : List (Item × V × List It)}, (∀ q ∈ l, IT σ [q.1] [q.2.1] q.2.2) → IT σ (l.map (·.1)) (l.map (·.2.1)) (l.map (·.2.2)).flatten
  | [], _ => .nil
  | q :: l, f => by
    have h1 := f q List.mem_cons_self
    have h2 := it_join fun p hp => f p (List.mem_cons_of_mem _ hp)
    exact h1.append h2
theorem it_perm {xs : List Item} {vs : List V} {T : List It} {perm : List Nat} (h : permOk xs.length perm = true) (it : IT σ xs vs T) : ∃ T', T'.Perm T ∧ IT σ (permL xs perm) (permL vs perm) T' := by
  obtain ⟨l, e1, e2, e3, f⟩ := it_list it
  subst e1 e2 e3
  rw [List.length_map] at h
  have p := permL_perm h
  refine ⟨((permL l perm).map (·.2.2)).flatten, (p.map _).flatten, ?_⟩
  rw [permL_pick, permL_pick, pick_map, pick_map, ← permL_pick]
  exact it_join fun q hq => f q (p.mem_iff.mp hq)

/-! ### readings -/
theorem tE_mono {e : E} {Q Q' : VK} (h : tE K C W e σ H Q) (f : ∀ v H', Q v H' → Q' v H') : tE K C W e σ H Q' := by
  obtain ⟨L, F, A, T, env, hl, i, p⟩ := h
  refine ⟨L, F, A, T, env, hl, i, Post.mono p (Same.refl _) fun xs env' F' H' _ _ q vs T' it i' => ?_⟩
  obtain ⟨v, e, z⟩ := q vs T' it i'
  exact ⟨v, e, f v H' z⟩
def tRow (K : PySem.W.Frag) (C : Cf) (W : WX) : E → TA
  | .nil => tNil
  | .cons e es => tCons (tE K C W e) (tRow K C W es)
  | _ => fun _ _ _ => False
theorem tRow_mono {es : E} : ∀ {σ : L2.St} {H : Hp} {Q Q' : List V → Hp → Prop}, tRow K C W es σ H Q → (∀ vs H', Q vs H' → Q' vs H') → tRow K C W es σ H Q' := by
  induction es with
  | nil => exact fun h f => f _ _ h
  | cons e es _ ih => exact fun h f => tE_mono h fun v H' q => ih q fun vs H2 z => f _ _ z
  | _ => exact fun h _ => h.elim
theorem Row.to {es : E} {xs : List Expr} (r : Row X C W es xs) : ∀ {σ H Q}, tX X.K C W es σ H Q → tRow X.K C W es σ H fun vs H' => vs.length = xs.length ∧ Q vs H' := by
  induction r with
  | nil => exact fun h => ⟨rfl, tX_nil h⟩
  | cons h1 h2 p _ ih =>
    intro σ H Q h
    exact tE_mono (tX_cons h1 h) fun v H' q => tRow_mono (ih q) fun vs H2 z => ⟨congrArg (· + 1) z.1, z.2⟩
theorem Row.pr {es : E} {xs : List Expr} (r : Row X C W es xs) : PA X xs (tRow X.K C W es) := by
  induction r with
  | nil => exact pa_nil
  | cons h1 h2 p _ ih => exact pa_cons (p.pe h1) ih (starless_each h2)
theorem Row.pk : ∀ {kws : List Keyword} {es : E}, Row X C W es (kws.map (·.value)) → PK X kws (tRow X.K C W es)
  | [], es, r => by
    cases r
    exact pk_nil
  | ⟨a, v, p⟩ :: kws, es, r => by
    have r : Row X C W es (v :: kws.map (·.value)) := r
    cases r with
    | cons h1 h2 q r => exact pk_cons (q.pe h1) (Row.pk r)
theorem Row.split : ∀ {ys zs : List Expr} {es : E}, Row X C W es (ys ++ zs) → ∃ es1 es2, Row X C W es1 ys ∧ Row X C W es2 zs ∧ ∀ {σ H Q}, tRow X.K C W es σ H Q → tRow X.K C W es1 σ H fun vs H1 => tRow X.K C W es2 σ H1 fun ws H2 => Q (vs ++ ws) H2
  | [], zs, es, r => ⟨.nil, es, .nil, r, fun h => h⟩
  | y :: ys, zs, es, r => by
    have r : Row X C W es (y :: (ys ++ zs)) := r
    cases r with
    | @cons e es' _ _ h1 h2 p r =>
      obtain ⟨es1, es2, r1, r2, f⟩ := Row.split r
      exact ⟨.cons e es1, es2, .cons h1 h2 p r1, r2, fun h => tE_mono h fun v H' q => f q⟩
theorem Row.lens {es : E} {xs : List Expr} (r : Row X C W es xs) : ∀ {σ H Q}, tRow X.K C W es σ H Q → tRow X.K C W es σ H fun vs H' => vs.length = xs.length ∧ Q vs H' := by
  induction r with
  | nil => exact fun h => ⟨rfl, h⟩
  | cons _ _ _ _ ih => exact fun h => tE_mono h fun v H' q => tRow_mono (ih q) fun vs H2 z => ⟨congrArg (· + 1) z.1, z.2⟩

/-! ### the call -/
theorem run_kw {k np : Nat} {f : Addr} {fd : FuncData} {ps ks : List Str} {perm : List Nat} {sp : Sp} {E : XK} {pins : List (Addr × Obj)} {s : Shared} {Q : VK} {us ws : List Value} {vs zs : List V} (F : FnOk X.prog X.w X.K X.mg X.base (L2.CX X.prog X.w) k f fd ps sp) (hr : Room k X.A) (hb : KwB X.K fd ps np perm ks)
    (hx : PassesAt (L2.CX X.prog X.w) X σ E) (I : L2.Inv X pins σ H s) (r : Vals vs us) (rz : Vals zs ws) (l1 : vs.length = np) (l2 : zs.length = ks.length) (h : sp (permL (vs ++ zs) perm) H Q E) : wpAny (model X.prog X.w) X.A (call (.ref f) us (ks.zip ws)) (EP X pins σ Q) X.xe s := by
  have r2 : Vals (permL (vs ++ zs) perm) (permL (us ++ ws) perm) := by
    rw [permL_pick, permL_pick]
    exact vals_pick (r.append rz) _
  have b := hb s us ws I.kIn (r.length.symm.trans l1) (rz.length.symm.trans l2)
  refine wpAny_call (codeAny_mono (F.run X.A X.stack s H ⟨us, ks.zip ws⟩ _ _ Q E hr I.env0 b r2 h) fun res s' hq => ?_)
  cases res with
  | error e => exact hx pins H s e s' I hq
  | ok fl =>
    cases fl with
    | ret u => exact I.after hq
    | next => exact hq.elim
    | brk => exact hq.elim
    | cont => exact hq.elim
def tCallW (sp : Sp) (E : L2.St → XK) (np m : Nat) (perm : List Nat) (t tk : TA) : TE := fun σ H Q => t σ H fun vs H1 => tk σ H1 fun zs H2 => vs.length = np ∧ zs.length = m ∧ sp (permL (vs ++ zs) perm) H2 Q (E σ)
def kwNames : List Keyword → Option (List Str)
  | [] => some []
  | ⟨some a, _, _⟩ :: r => (kwNames r).map (a :: ·)
  | ⟨none, _, _⟩ :: _ => none
theorem kw_facts {pos : Pos} {env : PySem.Env} : ∀ {kws : List Keyword} {ks : List Str}, kwNames kws = some ks → (backToKw pos (keywordEach kws env)).all (·.1.isSome) = true ∧ (backToKw pos (keywordEach kws env)).filterMap (·.1) = ks ∧ (backToKw pos (keywordEach kws env)).any (·.1.isNone) = false
  | [], ks, h => by cases h; exact ⟨rfl, rfl, rfl⟩
  | ⟨some a, v, p⟩ :: r, ks, h => by
    have h : (kwNames r).map (a :: ·) = some ks := h
    cases e : kwNames r with
    | none => rw [e] at h; cases h
    | some ks' =>
      rw [e] at h
      cases h
      obtain ⟨h1, h2, h3⟩ := kw_facts (pos := pos) (env := env) e
      exact ⟨h1, congrArg (a :: ·) h2, h3⟩
  | ⟨none, _, _⟩ :: _, _, h => by cases h
theorem pe_callW {k np : Nat} {f : Addr} {fd : FuncData} {ps ks : List Str} {perm : List Nat} {sp : Sp} {E : L2.St → XK} {x : Str} {p pos : Pos} {ys : List Expr} {kws : List Keyword} {t tk : TA} (F : FnOk X.prog X.w X.K X.mg X.base (L2.CX X.prog X.w) k f fd ps sp) (hr : Room k X.A) (hg : Gl X x) (hm : X.mg x = some (.ref f))
    (hk : PySem.W.keepIn X.K (.ref f) = true) (hb : KwB X.K fd ps np perm ks) (hx : ∀ σ, PassesAt (L2.CX X.prog X.w) X σ (E σ)) (ha : PA X ys t) (hkw : PK X kws tk) (hks : kwNames kws = some ks) (ht : ys = [] → t = tNil) (hdb : (x == ("__debug__" : Str)) = false) (hs : ys.all starless = true) :
    PE X (.Call (.Name x p) ys kws pos) (tCallW sp E np ks.length perm t tk) := by
  refine ⟨fun pins s σ H Q I h => ?_⟩
  obtain ⟨k1, k2, k3⟩ := kw_facts (pos := pos) (env := X.env) hks
  refine wpAny_Call_Name_kw (ld_glob I hg hm ?_ hdb)
  cases ys with
  | nil =>
    have et := ht rfl
    subst et
    have h : tk σ H fun zs H2 => ([] : List V).length = np ∧ zs.length = ks.length ∧ sp (permL ([] ++ zs) perm) H2 Q (E σ) := h
    refine PySem.W.callWith_KW0 (h₀ := X.base) I.ok.mod.kin hk k1 (thn (hkw.run pos pins s σ H _ I h) fun ws s2 ⟨zs, H2, I2, rz, l1, l2, q2⟩ => ⟨I2.kIn, ?_⟩) (by rw [k3]; rfl)
    rw [k2]
    exact run_kw F hr hb (hx σ) I2 .nil rz l1 l2 q2
  | cons e es =>
    rw [List.all_cons, Bool.and_eq_true] at hs
    refine PySem.W.callWith_KW (h₀ := X.base) I.ok.mod.kin hk k1 (thn (ha.run pos pins s σ H _ I h) fun us s1 ⟨vs, H1, I1, r, q⟩ => ?_) (by rw [k3, Bool.or_false]; exact starless_none (by rw [List.all_cons, hs.1, hs.2]; rfl)) (starless_each hs.1)
    refine thn (hkw.run pos pins s1 σ H1 _ I1 q) fun ws s2 ⟨zs, H2, I2, rz, l1, l2, q2⟩ => ⟨I2.kIn, ?_⟩
    rw [k2]
    exact run_kw F hr hb (hx σ) I2 r rz l1 l2 q2
theorem pe_call0W {k : Nat} {f : Addr} {fd : FuncData} {ps : List Str} {sp : Sp} {E : L2.St → XK} {x : Str} {p pos : Pos} (F : FnOk X.prog X.w X.K X.mg X.base (L2.CX X.prog X.w) k f fd ps sp) (hr : Room k X.A) (hg : Gl X x) (hm : X.mg x = some (.ref f)) (hk : PySem.W.keepIn X.K (.ref f) = true)
    (hb : Binds X.K fd ps []) (hx : ∀ σ, PassesAt (L2.CX X.prog X.w) X σ (E σ)) (hdb : (x == ("__debug__" : Str)) = false) : PE X (.Call (.Name x p) [] [] pos) (tCallS sp E tNil) := by
  refine ⟨fun pins s σ H Q I h => ?_⟩
  refine wpAny_Call_Name_kw (ld_glob I hg hm ?_ hdb)
  exact PySem.W.callWith_K0 I.kIn hk (run_fnS (us := []) F hr hb (hx σ) I .nil h)
theorem callk_of {fd : FnDef} {f np : Nat} {perm : List Nat} {es : E} {Q : VK} {xs : List Expr} (hf : C.fns f = some fd) (r : Row X C W es xs) (hp : permOk xs.length perm = true) (h : tE X.K C W (.callk f np perm es) σ H Q) :
    tX X.K C W es σ H fun vs H1 => vs.length = xs.length → spF X.K C f fd.pm.length (permL vs perm) H1 Q (WE W σ) := by
  obtain ⟨L, F, A, T, env, hl, i, p⟩ := h
  refine ⟨L, F, A, T, env, hl, i, ?_⟩
  refine Post.step [] (show Post X.K C W L F A T σ ((evC C es env).bind fun xs env1 => callR C.fns C.call f (permL xs perm) env1) _ from p) fun ys env' F' H' e s q vs T' it i' hl => ?_
  have hn : ys.length = xs.length := it.length.symm.trans hl
  rw [← hn] at hp
  obtain ⟨T2, pp, it2⟩ := it_perm hp it
  exact call_of hf it2 (i'.perm (pp.symm.append_right T)) q
end PL
end

section
set_option maxRecDepth 100000
/-! PlSn9: the checker of expressions. -/
namespace PL
open PySem PySem.Spec PyProof.Rows L2
/-! ### texts taken apart -/
def as1 : List Expr → Option Expr
  | [x] => some x
  | _ => none
theorem as1_ok {xs : List Expr} {x : Expr} (h : as1 xs = some x) : xs = [x] := by
  match xs, h with
  | [y], h => cases h; rfl
def asName : Expr → Option Str
  | .Name x _ => some x
  | _ => none
def asBool : Expr → Option (BoolOp × List Expr × Pos)
  | .BoolOp o vs p => some (o, vs, p)
  | _ => none
def two? : List Expr → Option (Expr × Expr × List Expr)
  | v :: w :: r => some (v, w, r)
  | _ => none
theorem two_ok {vs : List Expr} {v w : Expr} {r : List Expr} (h : two? vs = some (v, w, r)) : vs = v :: w :: r := by
  match vs, h with
  | _ :: _ :: _, h => cases h; rfl
def asIf : Expr → Option (Expr × Expr × Expr)
  | .IfExp u v w _ => some (u, v, w)
  | _ => none
def asCmp2 : Expr → Option (Expr × CmpOp × CmpOp × Expr × Expr)
  | .Compare u ops bs _ => (match ops, bs with
    | [p, q], [v, w] => some (u, p, q, v, w)
    | _, _ => none)
  | _ => none
def asCut : Expr → Option (Expr × Expr × Expr)
  | .Subscript u s _ => (match s with
    | .Slice (some v) (some w) none _ => some (u, v, w)
    | _ => none)
  | _ => none
def asTup : Expr → Option (List Expr)
  | .Tuple ys _ _ => some ys
  | _ => none
def asLst : Expr → Option (List Expr)
  | .List ys _ => some ys
  | _ => none
/-- a call of a name, without keywords -/
def asCall : Expr → Option (Str × List Expr)
  | .Call f ys kws _ => (match f, kws with
    | .Name x _, [] => some (x, ys)
    | _, _ => none)
  | _ => none
/-- a method's call on a name: the name, the method, the arguments -/
def asMeth : Expr → Option (Str × Str × List Expr)
  | .Call f ys kws cpos => (match f, kws with
    | .Attribute (.Name x _) m apos, [] => if (apos.endLine == cpos.line) = true then some (x, m, ys) else none
    | _, _ => none)
  | _ => none
/-- a comprehension of one clause: element, target, iterable, tests, names -/
def asComp : Expr → Option (Expr × Expr × Expr × List Expr × Scope)
  | .ListComp elt gs scope _ => (match gs with
    | [⟨t, iter, ifs, 0⟩] => some (elt, t, iter, ifs, scope)
    | _ => none)
  | _ => none
/-- a call of a name, with keywords -/
def asCallK : Expr → Option (Str × List Expr × List Keyword)
  | .Call f ys kws _ => (match f with
    | .Name x _ => some (x, ys, kws)
    | _ => none)
  | _ => none
theorem callK_ok {x : Expr} {y : Str} {ys : List Expr} {kws : List Keyword} (h : asCallK x = some (y, ys, kws)) : ∃ p p2, x = .Call (.Name y p) ys kws p2 := by
  cases x with
  | Call f zs ks p2 =>
    cases f with
    | Name z p => cases h; exact ⟨_, _, rfl⟩
    | _ => cases h
  | _ => cases h
/-- a comprehension of two clauses -/
def asComp2 : Expr → Option (Expr × Comprehension × Comprehension × Scope)
  | .ListComp elt gs scope _ => (match gs with
    | [⟨t, iter, ifs, 0⟩, ⟨t2, iter2, ifs2, 0⟩] => some (elt, ⟨t, iter, ifs, 0⟩, ⟨t2, iter2, ifs2, 0⟩, scope)
    | _ => none)
  | _ => none
theorem comp2_ok {x elt t iter t2 iter2 : Expr} {ifs ifs2 : List Expr} {a b : Int} {scope : Scope} (h : asComp2 x = some (elt, ⟨t, iter, ifs, a⟩, ⟨t2, iter2, ifs2, b⟩, scope)) : ∃ p, x = .ListComp elt [⟨t, iter, ifs, 0⟩, ⟨t2, iter2, ifs2, 0⟩] scope p := by
  cases x with
  | ListComp e gs s p =>
    match gs, h with
    | [⟨_, _, _, 0⟩, ⟨_, _, _, 0⟩], h => cases h; exact ⟨p, rfl⟩
  | _ => cases h
def ownOf (N : List Str) (p : Pat) : List (Str × Nat) := (slotsP p).map fun i => ((N[i]?).getD ("" : Str), i)
theorem own_slots {N : List Str} {p : Pat} : (ownOf N p).map (·.2) = slotsP p := by
  unfold ownOf
  rw [List.map_map]
  exact List.map_id _
def isNilE : E → Bool
  | .nil => true
  | _ => false
def ckName (N : List Str) (sc : Scope) (i : Nat) (xs : List Expr) : Bool := match (as1 xs).bind asName with
  | some x => slotOk N sc i x
  | none => false
/-- how an iterable is written: its operands -/
def itArgs (sc : Scope) (k : Ik) (xs : List Expr) : Option (List Expr) := match k with
  | .seq => (as1 xs).map fun x => [x]
  | .range1 => ((as1 xs).bind asCall).bind fun c => if c.1 = ("range" : Str) ∧ isGl sc c.1 = true ∧ c.2.length = 1 then some c.2 else none
  | .range2 => ((as1 xs).bind asCall).bind fun c => if c.1 = ("range" : Str) ∧ isGl sc c.1 = true ∧ c.2.length = 2 then some c.2 else none
  | .enum => ((as1 xs).bind asCall).bind fun c => if c.1 = ("enumerate" : Str) ∧ isGl sc c.1 = true ∧ c.2.length = 1 then some c.2 else none
  | .zip => ((as1 xs).bind asCall).bind fun c => if c.1 = ("zip" : Str) ∧ isGl sc c.1 = true ∧ c.2.length = 2 then some c.2 else none
  | _ => none
def ck (nt : NT) (lk : List Nat) (N : List Str) : E → Scope → Scope → List Expr → Bool
  | .nil, _, _, xs => xs.isEmpty
  | .cons e es, sc, tg, xs => (match xs with
    | x :: r => ck nt lk N e sc tg [x] && one e && starless x && isL es && ck nt lk N es sc tg r
    | [] => false)
  | .star e es, sc, tg, xs => (match xs with
    | .Starred x _ :: r => ck nt lk N e sc tg [x] && one e && ck nt lk N es sc tg r && isL es
    | _ => false)
  | .cst d, _, _, xs => (match as1 xs with
    | some (.Constant c _ _) => cstOk d c
    | _ => false)
  | .var i, sc, _, xs => ckName N sc i xs
  | .mov i, sc, _, xs => ckName N sc i xs
  | .bor i, sc, _, xs => ckName N sc i xs
  | .glb g, sc, _, xs => (match (as1 xs).bind asName with
    | some x => decide (nt.gl g = some x) && isGl sc x && !odd x
    | none => false)
  | .op o es, sc, tg, xs => (match (as1 xs).bind (opForm sc o) with
    | some ys => ck nt lk N es sc tg ys && plain es
    | none => false)
  | .and a b, sc, tg, xs => (match (as1 xs).bind asBool with
    | some (.And, vs, pos) => (match two? vs with
      | some (v, w, rest) => one a && one b && ck nt lk N a sc tg [v] && tst v && tst w && ck nt lk N b sc tg [if rest.isEmpty then w else .BoolOp .And (w :: rest) pos]
      | none => false)
    | _ => false)
  | .or a b, sc, tg, xs => (match (as1 xs).bind asBool with
    | some (.Or, vs, pos) => (match two? vs with
      | some (v, w, rest) => one a && one b && ck nt lk N a sc tg [v] && tst v && tst w && ck nt lk N b sc tg [if rest.isEmpty then w else .BoolOp .Or (w :: rest) pos]
      | none => false)
    | _ => false)
  | .ite c a b, sc, tg, xs => (match (as1 xs).bind asIf with
    | some (u, v, w) => one c && one a && one b && tst u && ck nt lk N c sc tg [u] && ck nt lk N a sc tg [v] && ck nt lk N b sc tg [w]
    | none => false)
  | .chain o1 o2 a b c, sc, tg, xs => (match (as1 xs).bind asCmp2 with
    | some (u, p1, p2, v, w) => decide (cmpOf o1 = some p1) && decide (cmpOf o2 = some p2) && one a && one b && one c && noSet w && ck nt lk N a sc tg [u] && ck nt lk N b sc tg [v] && ck nt lk N c sc tg [w]
    | none => false)
  | .cut a b c, sc, tg, xs => (match (as1 xs).bind asCut with
    | some (u, v, w) => one a && one b && one c && ck nt lk N a sc tg [u] && ck nt lk N b sc tg [v] && ck nt lk N c sc tg [w]
    | none => false)
  | .tup es, sc, tg, xs => (match (as1 xs).bind asTup with
    | some ys => ck nt lk N es sc tg ys && isL es
    | none => false)
  | .lst _ es, sc, tg, xs => (match (as1 xs).bind asLst with
    | some ys => ck nt lk N es sc tg ys && isL es
    | none => false)
  | .call f es, sc, tg, xs => (match (as1 xs).bind asCall with
    | some (x, ys) => decide (nt.fn f = some x) && isGl sc x && !odd x && ck nt lk N es sc tg ys && plain es
    | none => false)
  | .comp _ e p it c, sc, tg, xs => (match (as1 xs).bind asComp with
    | some (elt, t, iter, ifs, scope) => one e && (slotsP p).all (free lk) && ckP N scope p t && blkC N sc scope (ownOf N p) && itOk it t && noSet iter && ck nt lk N it sc tg [iter] && ck nt lk N e (relS scope sc) scope [elt] &&
        (match as1 ifs with
        | some u => one c && tst u && ck nt lk N c (relS scope sc) scope [u]
        | none => ifs.isEmpty && isNilE c)
    | none => false)
  | .pop i, sc, _, xs => (match (as1 xs).bind asMeth with
    | some (x, m, ys) => decide (m = ("pop" : Str)) && slotOk N sc i x && ys.isEmpty
    | none => false)
  | .popat i e, sc, tg, xs => (match (as1 xs).bind asMeth with
    | some (x, m, ys) => decide (m = ("pop" : Str)) && slotOk N sc i x && one e && (ys.all starless) && (ys.length == 1) && ck nt lk N e sc tg ys
    | none => false)
  | .iter k es, sc, tg, xs => (match itArgs sc k xs with
    | some ys => ck nt lk N es sc tg ys && plain es
    | none => false)
  | .dnew _, _, _, _ => false
  | .dct _, _, _, _ => false
  | .callk f np perm es, sc, tg, xs => (match (as1 xs).bind asCallK with
    | some (x, ys, kws) => decide (nt.fn f = some x) && isGl sc x && !odd x && decide (ys.length = np) && decide (nt.kw f np perm = kwNames kws) && (kwNames kws).isSome && permOk (ys ++ kws.map (·.value)).length perm && ck nt lk N es sc tg (ys ++ kws.map (·.value)) && plain es
    | none => false)
  | .comp2 e p it c p2 it2 c2, sc, tg, xs => (match (as1 xs).bind asComp2 with
    | some (elt, ⟨t, iter, ifs, _⟩, ⟨t2, iter2, ifs2, _⟩, scope) => one e && (slotsP p ++ slotsP p2).all (free lk) && ckP N scope p t && ckP N scope p2 t2 && blkC N sc scope (ownOf N p ++ ownOf N p2) && itOk it t && itOk it2 t2 && noSet iter && noSet iter2 &&
        ck nt lk N it sc tg [iter] && ck nt lk N it2 (relS scope sc) scope [iter2] && ck nt lk N e (relS scope sc) scope [elt] &&
        (match as1 ifs with
        | some u => one c && tst u && ck nt lk N c (relS scope sc) scope [u]
        | none => ifs.isEmpty && isNilE c) &&
        (match as1 ifs2 with
        | some u => one c2 && tst u && ck nt lk N c2 (relS scope sc) scope [u]
        | none => ifs2.isEmpty && isNilE c2)
    | none => false)
  | .dcomp _ _ _ _, _, _, _ => false
  | .keyed _ _ _ _, _, _, _ => false
variable {X : Cx} {C : Cf} {nt : NT} {n : Nat} {sc tg : Scope} {W : WX} {K : PySem.W.Frag} {σ : L2.St} {H : Hp}
/-- a list without stars, as a row -/
theorem row_of {es : E} : ∀ {sc tg : Scope} {xs : List Expr}, ck nt C.lk X.N es sc tg xs = true → plain es = true → Ps X C W es xs → Row X C W es xs := by
  induction es with
  | nil =>
    intro sc tg xs h _ _
    cases xs with
    | nil => exact .nil
    | cons _ _ => cases h
  | cons e es _ ih =>
    intro sc tg xs h hp p
    cases xs with
    | nil => cases h
    | cons x r =>
      have h : (ck nt C.lk X.N e sc tg [x] && one e && starless x && isL es && ck nt C.lk X.N es sc tg r) = true := h
      simp only [Bool.and_eq_true] at h
      exact .cons h.1.1.1.2 h.1.1.2 p.1 (ih h.2 hp p.2)
  | _ => intro sc tg xs h hp; cases hp
end PL
end

section
set_option maxRecDepth 100000
/-! PlSna: the checker of expressions is sound. -/
namespace PL
open PySem PySem.Spec PyProof.Rows L2
variable {X : Cx} {C : Cf} {nt : NT} {n : Nat} {sc tg : Scope} {W : WX} {K : PySem.W.Frag} {σ : L2.St} {H : Hp}

theorem bind1 {β : Type} {xs : List Expr} {f : Expr → Option β} {b : β} (h : (as1 xs).bind f = some b) : ∃ x, xs = [x] ∧ f x = some b := by
  cases e : as1 xs with
  | none => rw [e] at h; cases h
  | some x => rw [e] at h; exact ⟨x, as1_ok e, h⟩
theorem name_ok {x : Expr} {y : Str} (h : asName x = some y) : ∃ p, x = .Name y p := by
  cases x <;> first | (cases h; done) | skip
  cases h
  exact ⟨_, rfl⟩
theorem bool_ok {x : Expr} {o : BoolOp} {vs : List Expr} {p : Pos} (h : asBool x = some (o, vs, p)) : x = .BoolOp o vs p := by
  cases x <;> first | (cases h; done) | skip
  cases h
  rfl
theorem if_ok {x u v w : Expr} (h : asIf x = some (u, v, w)) : ∃ p, x = .IfExp u v w p := by
  cases x <;> first | (cases h; done) | skip
  cases h
  exact ⟨_, rfl⟩
theorem cmp2_ok {x u v w : Expr} {p1 p2 : CmpOp} (h : asCmp2 x = some (u, p1, p2, v, w)) : ∃ p, x = .Compare u [p1, p2] [v, w] p := by
  cases x with
  | Compare a ops bs p =>
    match ops, bs, h with
    | [_, _], [_, _], h => cases h; exact ⟨p, rfl⟩
  | _ => cases h
theorem cut_ok {x u v w : Expr} (h : asCut x = some (u, v, w)) : ∃ p p2, x = .Subscript u (.Slice (some v) (some w) none p2) p := by
  cases x with
  | Subscript a s p =>
    cases s with
    | Slice lo hi st p2 =>
      match lo, hi, st, h with
      | some _, some _, none, h => cases h; exact ⟨_, _, rfl⟩
    | _ => cases h
  | _ => cases h
theorem tup_ok {x : Expr} {ys : List Expr} (h : asTup x = some ys) : ∃ k p, x = .Tuple ys k p := by
  cases x <;> first | (cases h; done) | skip
  cases h
  exact ⟨_, _, rfl⟩
theorem lst_ok {x : Expr} {ys : List Expr} (h : asLst x = some ys) : ∃ p, x = .List ys p := by
  cases x <;> first | (cases h; done) | skip
  cases h
  exact ⟨_, rfl⟩
theorem call_ok {x : Expr} {y : Str} {ys : List Expr} (h : asCall x = some (y, ys)) : ∃ p p2, x = .Call (.Name y p) ys [] p2 := by
  cases x with
  | Call f zs kws p2 =>
    cases f with
    | Name z p =>
      cases kws with
      | nil => cases h; exact ⟨_, _, rfl⟩
      | cons _ _ => cases h
    | _ => cases h
  | _ => cases h
theorem meth_ok {x : Expr} {y m : Str} {ys : List Expr} (h : asMeth x = some (y, m, ys)) : ∃ p apos cpos, x = .Call (.Attribute (.Name y p) m apos) ys [] cpos ∧ (apos.endLine == cpos.line) = true := by
  cases x with
  | Call f zs kws cpos =>
    cases f with
    | Attribute o m' apos =>
      cases o with
      | Name z p =>
        cases kws with
        | nil =>
          have h : (if (apos.endLine == cpos.line) = true then some (z, m', zs) else none) = some (y, m, ys) := h
          split at h
          · rename_i hp
            cases h
            exact ⟨_, _, _, rfl, hp⟩
          · cases h
        | cons _ _ => cases h
      | _ => cases h
    | _ => cases h
  | _ => cases h
theorem comp_ok {x elt t iter : Expr} {ifs : List Expr} {scope : Scope} (h : asComp x = some (elt, t, iter, ifs, scope)) : ∃ p, x = .ListComp elt [⟨t, iter, ifs, 0⟩] scope p := by
  cases x with
  | ListComp e gs s p =>
    match gs, h with
    | [⟨t', i', f', 0⟩], h => cases h; exact ⟨p, rfl⟩
  | _ => cases h

/-! ### a block's context -/
theorem Gd.blk (G : Gd X C nt n sc tg) {scope : Scope} (s : Shared) (H : Hp) (Ca : Addr) (cl : List (Str × Addr)) (fp : List Addr) : Gd (X.blk s H scope (compEnvC scope cl Ca X.env) fp) C nt n (relS scope sc) scope where
  nod := G.nod
  esc := by
    show relS scope X.env.scope = _
    rw [G.esc]
  tg := fun x h => by
    unfold isTg at h
    rw [Bool.or_eq_true, decide_eq_true_eq, decide_eq_true_eq] at h
    rcases h with h | h
    · have e : (relS scope X.env.scope).names.lookup x = some .local := lookup_relS_keep (fun z => nomatch z) h
      rw [G.esc] at e
      exact ⟨.inl e, .inr (by show (relS scope X.env.scope).names.lookup x = _; rw [G.esc]; exact e)⟩
    · have e : (relS scope X.env.scope).names.lookup x = some .cell := lookup_relS_keep (fun z => nomatch z) h
      rw [G.esc] at e
      refine ⟨.inr e, .inl ?_⟩
      show (scope.names.lookup x == some .cell) = true
      rw [h]
      rfl
  calm := G.calm
  room := G.room
  blt := G.blt
  fn := G.fn
  fnd := G.fnd
  gl := G.gl
  gld := G.gld
  ex := G.ex
  exd := G.exd
  exm := G.exm
theorem cond_ok {c : E} (h : one c = true) : ∀ f, condOf c f = some f := by
  intro f
  cases c <;> first | rfl | cases h
end PL
end

section
set_option maxRecDepth 100000
/-! PlSnb: the checker of expressions is sound. -/
namespace PL
open PySem PySem.Spec PyProof.Rows L2
variable {C : Cf} {nt : NT}
/-- what the checker promises of an expression -/
def Sd (C : Cf) (nt : NT) (e : E) : Prop := ∀ {X : Cx} {n : Nat} {sc tg : Scope} {W : WX}, Gd X C nt n sc tg → Takes X W → ∀ xs, ck nt C.lk X.N e sc tg xs = true → Pn X C W e xs
theorem Sd.at {e : E} (h : Sd C nt e) {X : Cx} {n : Nat} {sc tg : Scope} {W : WX} (G : Gd X C nt n sc tg) (tk : Takes X W) {x : Expr} (c : ck nt C.lk X.N e sc tg [x] = true) : P1 X C W e x := (h G tk [x] c).p1 x rfl
theorem sd_slot {e : E} {i : Nat} (hl : isL e = false) (hi : ∀ t, itOk e t = false) (hc : ∀ N sc tg xs, ck nt C.lk N e sc tg xs = ckName N sc i xs) (hr : ∀ {K : PySem.W.Frag} {W : WX} {σ : L2.St} {H : Hp} {Q : VK}, tE K C W e σ H Q → tVar i σ H Q) : Sd C nt e := by
  intro X n sc tg W G tk xs h
  rw [hc] at h
  unfold ckName at h
  split at h
  · rename_i y e1
    obtain ⟨x, ex, e2⟩ := bind1 e1
    obtain ⟨p, e3⟩ := name_ok e2
    subst ex e3
    exact Pn.of1 hl (P1.val hi rfl (PE.mono (pe_slot G h) fun σ H Q q => hr q))
  · cases h
theorem sd_nil : Sd C nt .nil := by
  intro X n sc tg W G tk xs h
  cases xs with
  | nil => exact ⟨fun _ => PA.mono pa_nil fun σ H Q q => tX_nil q, trivial, fun x e => nomatch e⟩
  | cons _ _ => cases h
theorem itOk_cons {e es : E} : ∀ t, itOk (.cons e es) t = false := fun _ => rfl
theorem isL_plain {e : E} (h : plain e = true) : isL e = true := by
  cases e <;> first | rfl | cases h
theorem sd_cons {e es : E} (he : Sd C nt e) (hs : Sd C nt es) : Sd C nt (.cons e es) := by
  intro X n sc tg W G tk xs h
  cases xs with
  | nil => cases h
  | cons x r =>
    have h : (ck nt C.lk X.N e sc tg [x] && one e && starless x && isL es && ck nt C.lk X.N es sc tg r) = true := h
    simp only [Bool.and_eq_true] at h
    obtain ⟨⟨⟨⟨h1, h2⟩, h3⟩, hl⟩, h4⟩ := h
    have p := he.at G tk (W := W) h1
    have q := hs G tk (W := W) r h4
    exact ⟨fun _ => PA.mono (pa_cons (p.pe h2) (q.pa hl) (starless_each h3)) fun σ H Q q => tX_cons h2 q, ⟨p, q.ps⟩, fun y e => ⟨(fun z => nomatch z), (fun z => nomatch z), (fun z => nomatch z), (fun t z => nomatch z)⟩⟩
theorem sd_star {e es : E} (he : Sd C nt e) (hs : Sd C nt es) : Sd C nt (.star e es) := by
  intro X n sc tg W G tk xs h
  cases xs with
  | nil => cases h
  | cons x r =>
    cases x with
    | Starred x p =>
      have h : (ck nt C.lk X.N e sc tg [x] && one e && ck nt C.lk X.N es sc tg r && isL es) = true := h
      simp only [Bool.and_eq_true] at h
      obtain ⟨⟨⟨h1, h2⟩, h3⟩, h4⟩ := h
      have p1 := he.at G tk (W := W) h1
      have q := hs G tk (W := W) r h3
      exact ⟨fun _ => PA.mono (StX.pa_star (p1.pe h2) (q.pa h4) rfl) fun σ H Q q => tX_star h2 q, trivial, fun y e => ⟨(fun z => nomatch z), (fun z => nomatch z), (fun z => nomatch z), (fun t z => nomatch z)⟩⟩
    | _ => cases h
theorem sd_cst {d : D} : Sd C nt (.cst d) := by
  intro X n sc tg W G tk xs hh
  have h : (match as1 xs with
    | some (.Constant c _ _) => cstOk d c
    | _ => false) = true := hh
  clear hh
  split at h
  · rename_i c j p e1
    have ex := as1_ok e1
    subst ex
    exact Pn.of1 rfl (P1.val (fun _ => rfl) rfl (pe_cst h))
  · cases h
theorem sd_glb {g : Nat} : Sd C nt (.glb g) := by
  intro X n sc tg W G tk xs hh
  have h : (match (as1 xs).bind asName with
    | some x => decide (nt.gl g = some x) && isGl sc x && !odd x
    | none => false) = true := hh
  clear hh
  split at h
  · rename_i y e1
    obtain ⟨x, ex, e2⟩ := bind1 e1
    obtain ⟨p, e3⟩ := name_ok e2
    subst ex e3
    simp only [Bool.and_eq_true, decide_eq_true_eq, Bool.not_eq_true'] at h
    exact Pn.of1 rfl (P1.val (fun _ => rfl) rfl (pe_gl G h.1.1 h.1.2 h.2 (G.gld _ _ h.1.1)))
  · cases h
theorem sd_op {o : Op} {es : E} (hs : Sd C nt es) : Sd C nt (.op o es) := by
  intro X n sc tg W G tk xs hh
  have h : (match (as1 xs).bind (opForm sc o) with
    | some ys => ck nt C.lk X.N es sc tg ys && plain es
    | none => false) = true := hh
  clear hh
  split at h
  · rename_i ys e1
    obtain ⟨x, ex, e2⟩ := bind1 e1
    subst ex
    rw [Bool.and_eq_true] at h
    exact Pn.of1 rfl (p1_op G e2 (row_of h.1 h.2 (hs G tk ys h.1).ps))
  · cases h
theorem sd_and {a b : E} (ha : Sd C nt a) (hb : Sd C nt b) : Sd C nt (.and a b) := by
  intro X n sc tg W G tk xs hh
  have h : (match (as1 xs).bind asBool with
    | some (.And, vs, pos) => (match two? vs with
      | some (v, w, rest) => one a && one b && ck nt C.lk X.N a sc tg [v] && tst v && tst w && ck nt C.lk X.N b sc tg [if rest.isEmpty then w else .BoolOp .And (w :: rest) pos]
      | none => false)
    | _ => false) = true := hh
  clear hh
  split at h
  · rename_i vs pos e1
    obtain ⟨x, ex, e2⟩ := bind1 e1
    have e3 := bool_ok e2
    subst ex e3
    split at h
    · rename_i v w rest e4
      have e5 := two_ok e4
      subst e5
      simp only [Bool.and_eq_true] at h
      obtain ⟨⟨⟨⟨⟨h1, h2⟩, h3⟩, h4⟩, h5⟩, h6⟩ := h
      have p := ha.at G tk (W := W) h3
      have q := hb.at G tk (W := W) h6
      have two : PE X (.BoolOp .And (w :: rest) pos) (tE X.K C W b) ∧ PW X (.BoolOp .And (w :: rest) pos) (tT X.K C W b) := by
        cases rest with
        | nil => exact ⟨pe_one (q.pe h2), pw_and1 (q.pt h2 h5)⟩
        | cons r rs => exact ⟨q.pe h2, q.pw h2 _ _ _ rfl⟩
      have w1 : PW X (.BoolOp .And (v :: w :: rest) pos) (tT X.K C W (.and a b)) := PW.mono (pw_and (p.pt h1 h4) two.2) fun σ H Q q => tT_and q
      exact Pn.of1 rfl ⟨fun _ => PE.mono (pe_andT (p.pe h1) two.1) fun σ H Q q => tE_and q, fun _ _ => w1.pt, fun _ o vs pos e => w1, fun t z => nomatch z⟩
    · cases h
  · cases h
theorem sd_or {a b : E} (ha : Sd C nt a) (hb : Sd C nt b) : Sd C nt (.or a b) := by
  intro X n sc tg W G tk xs hh
  have h : (match (as1 xs).bind asBool with
    | some (.Or, vs, pos) => (match two? vs with
      | some (v, w, rest) => one a && one b && ck nt C.lk X.N a sc tg [v] && tst v && tst w && ck nt C.lk X.N b sc tg [if rest.isEmpty then w else .BoolOp .Or (w :: rest) pos]
      | none => false)
    | _ => false) = true := hh
  clear hh
  split at h
  · rename_i vs pos e1
    obtain ⟨x, ex, e2⟩ := bind1 e1
    have e3 := bool_ok e2
    subst ex e3
    split at h
    · rename_i v w rest e4
      have e5 := two_ok e4
      subst e5
      simp only [Bool.and_eq_true] at h
      obtain ⟨⟨⟨⟨⟨h1, h2⟩, h3⟩, h4⟩, h5⟩, h6⟩ := h
      have p := ha.at G tk (W := W) h3
      have q := hb.at G tk (W := W) h6
      have two : PE X (.BoolOp .Or (w :: rest) pos) (tE X.K C W b) ∧ PW X (.BoolOp .Or (w :: rest) pos) (tT X.K C W b) := by
        cases rest with
        | nil => exact ⟨pe_one (q.pe h2), pw_or1 (q.pt h2 h5)⟩
        | cons r rs => exact ⟨q.pe h2, q.pw h2 _ _ _ rfl⟩
      have w1 : PW X (.BoolOp .Or (v :: w :: rest) pos) (tT X.K C W (.or a b)) := PW.mono (pw_or (p.pt h1 h4) two.2) fun σ H Q q => tT_or q
      exact Pn.of1 rfl ⟨fun _ => PE.mono (pe_orT (p.pe h1) two.1) fun σ H Q q => tE_or q, fun _ _ => w1.pt, fun _ o vs pos e => w1, fun t z => nomatch z⟩
    · cases h
  · cases h
theorem sd_ite {c a b : E} (hc : Sd C nt c) (ha : Sd C nt a) (hb : Sd C nt b) : Sd C nt (.ite c a b) := by
  intro X n sc tg W G tk xs hh
  have h : (match (as1 xs).bind asIf with
    | some (u, v, w) => one c && one a && one b && tst u && ck nt C.lk X.N c sc tg [u] && ck nt C.lk X.N a sc tg [v] && ck nt C.lk X.N b sc tg [w]
    | none => false) = true := hh
  clear hh
  split at h
  · rename_i u v w e1
    obtain ⟨x, ex, e2⟩ := bind1 e1
    obtain ⟨p, e3⟩ := if_ok e2
    subst ex e3
    simp only [Bool.and_eq_true] at h
    obtain ⟨⟨⟨⟨⟨⟨h1, h2⟩, h3⟩, h4⟩, h5⟩, h6⟩, h7⟩ := h
    exact Pn.of1 rfl (P1.ifx (fun _ => rfl) rfl (fun _ _ _ z => nomatch z) (PE.mono (pe_ifExp ((hc.at G tk h5).pt h1 h4) ((ha.at G tk h6).pe h2) ((hb.at G tk h7).pe h3)) fun σ H Q q => tE_ite q))
  · cases h
theorem sd_chain {o1 o2 : Op} {a b c : E} (ha : Sd C nt a) (hb : Sd C nt b) (hc : Sd C nt c) : Sd C nt (.chain o1 o2 a b c) := by
  intro X n sc tg W G tk xs hh
  have h : (match (as1 xs).bind asCmp2 with
    | some (u, p1, p2, v, w) => decide (cmpOf o1 = some p1) && decide (cmpOf o2 = some p2) && one a && one b && one c && noSet w && ck nt C.lk X.N a sc tg [u] && ck nt C.lk X.N b sc tg [v] && ck nt C.lk X.N c sc tg [w]
    | none => false) = true := hh
  clear hh
  split at h
  · rename_i u p1 p2 v w e1
    obtain ⟨x, ex, e2⟩ := bind1 e1
    obtain ⟨p, e3⟩ := cmp2_ok e2
    subst ex e3
    simp only [Bool.and_eq_true, decide_eq_true_eq] at h
    obtain ⟨⟨⟨⟨⟨⟨⟨⟨h1, h2⟩, h3⟩, h4⟩, h5⟩, h6⟩, h7⟩, h8⟩, h9⟩ := h
    obtain ⟨r1, ho1, s1⟩ := cmp_ok (X := X) (room_u G) h1
    obtain ⟨r2, ho2, s2⟩ := cmp_ok (X := X) (room_u G) h2
    have hm : lastMarks [p1, p2] [v, w] = false := by
      show behindInMarks p2 w = false
      cases w <;> first | rfl | cases h6
    have qa := (ha.at G tk (W := W) h7).pe h3
    have qb := (hb.at G tk (W := W) h8).pe h4
    have qc := (hc.at G tk (W := W) h9).pe h5
    exact Pn.of1 rfl (P1.cmp (fun _ => rfl) nb_cmp (PE.mono (pe_chain ho1 ho2 qa qb qc hm) fun σ H Q q => tE_chain h1 h2 s1 s2 q) (PT.mono (pt_chain ho1 ho2 qa qb qc hm) fun σ H Q q => tE_chain h1 h2 s1 s2 (tT_bool (chain_bool (p1 := p1) h2) q)))
  · cases h
theorem sd_cut {a b c : E} (ha : Sd C nt a) (hb : Sd C nt b) (hc : Sd C nt c) : Sd C nt (.cut a b c) := by
  intro X n sc tg W G tk xs hh
  have h : (match (as1 xs).bind asCut with
    | some (u, v, w) => one a && one b && one c && ck nt C.lk X.N a sc tg [u] && ck nt C.lk X.N b sc tg [v] && ck nt C.lk X.N c sc tg [w]
    | none => false) = true := hh
  clear hh
  split at h
  · rename_i u v w e1
    obtain ⟨x, ex, e2⟩ := bind1 e1
    obtain ⟨p, p2, e3⟩ := cut_ok e2
    subst ex e3
    simp only [Bool.and_eq_true] at h
    obtain ⟨⟨⟨⟨⟨h1, h2⟩, h3⟩, h4⟩, h5⟩, h6⟩ := h
    exact Pn.of1 rfl (p1_cut h1 h2 h3 (ha.at G tk h4) (hb.at G tk h5) (hc.at G tk h6))
  · cases h
theorem sd_tup {es : E} (hs : Sd C nt es) : Sd C nt (.tup es) := by
  intro X n sc tg W G tk xs hh
  have h : (match (as1 xs).bind asTup with
    | some ys => ck nt C.lk X.N es sc tg ys && isL es
    | none => false) = true := hh
  clear hh
  split at h
  · rename_i ys e1
    obtain ⟨x, ex, e2⟩ := bind1 e1
    obtain ⟨k, p, e3⟩ := tup_ok e2
    subst ex e3
    rw [Bool.and_eq_true] at h
    exact Pn.of1 rfl (P1.val (fun _ => rfl) rfl (PE.mono (pe_tup ((hs G tk ys h.1).pa h.2)) fun σ H Q q => tE_tup q))
  · cases h
theorem sd_lst {m : Nat} {es : E} (hs : Sd C nt es) : Sd C nt (.lst m es) := by
  intro X n sc tg W G tk xs hh
  have h : (match (as1 xs).bind asLst with
    | some ys => ck nt C.lk X.N es sc tg ys && isL es
    | none => false) = true := hh
  clear hh
  split at h
  · rename_i ys e1
    obtain ⟨x, ex, e2⟩ := bind1 e1
    obtain ⟨p, e3⟩ := lst_ok e2
    subst ex e3
    rw [Bool.and_eq_true] at h
    exact Pn.of1 rfl (P1.val (fun _ => rfl) rfl (PE.mono (pe_lst ((hs G tk ys h.1).pa h.2)) fun σ H Q q => tE_lst q))
  · cases h
theorem sd_call {f : Nat} {es : E} (hs : Sd C nt es) : Sd C nt (.call f es) := by
  intro X n sc tg W G tk xs hh
  have h : (match (as1 xs).bind asCall with
    | some (x, ys) => decide (nt.fn f = some x) && isGl sc x && !odd x && ck nt C.lk X.N es sc tg ys && plain es
    | none => false) = true := hh
  clear hh
  split at h
  · rename_i y ys e1
    obtain ⟨x, ex, e2⟩ := bind1 e1
    obtain ⟨p, p2, e3⟩ := call_ok e2
    subst ex e3
    simp only [Bool.and_eq_true, decide_eq_true_eq, Bool.not_eq_true'] at h
    obtain ⟨⟨⟨⟨h1, h2⟩, h3⟩, h4⟩, h5⟩ := h
    cases ys with
    | nil =>
      have row := row_of h4 h5 (hs G tk (W := W) _ h4).ps
      cases row
      have hf := G.fnd f y h1
      cases e4 : C.fns f with
      | none => rw [e4] at hf; cases hf
      | some fd =>
        obtain ⟨nm, ad, fdat, ps, e5, e6, e7, e8, e9, _, fo⟩ := G.fn f fd e4
        rw [h1] at e5
        cases e5
        exact Pn.of1 rfl (P1.val (fun _ => rfl) rfl (PE.mono (pe_call0W fo G.room (gl_of G h2) e6 e7 e8 (passAt tk) (odd_no h3).1) fun σ H Q q => tX_nil (tE_call e4 q)))
    | cons z zs =>
      have row := row_of h4 h5 (hs G tk (W := W) _ h4).ps
      obtain ⟨s1, s2⟩ := row.head
      have hf := G.fnd f y h1
      cases e4 : C.fns f with
      | none => rw [e4] at hf; cases hf
      | some fd =>
        obtain ⟨nm, ad, fdat, ps, e5, e6, e7, e8, e9, _, fo⟩ := G.fn f fd e4
        rw [h1] at e5
        cases e5
        exact Pn.of1 rfl (P1.val (fun _ => rfl) rfl (PE.mono (pe_callS fo G.room (gl_of G h2) e6 e7 e8 (passAt tk) row.pa (odd_no h3).1 (starless_each s1) (starless_none s2)) fun σ H Q q => tE_call e4 q))
  · cases h
theorem nilE {c : E} (h : isNilE c = true) : c = .nil := by
  cases c <;> first | rfl | cases h
theorem fold_off {e : Expr} {env : PySem.Env} (h : noSet e = true) (x : Value) : foldedSetIterable e env x = pure x := by
  cases e <;> first | rfl | cases h
theorem sd_comp {m : Nat} {e : E} {p : Pat} {it c : E} (he : Sd C nt e) (hi : Sd C nt it) (hc : Sd C nt c) : Sd C nt (.comp m e p it c) := by
  intro X n sc tg W G tk xs hh
  have h : (match (as1 xs).bind asComp with
    | some (elt, t, iter, ifs, scope) => one e && (slotsP p).all (free C.lk) && ckP X.N scope p t && blkC X.N sc scope (ownOf X.N p) && itOk it t && noSet iter && ck nt C.lk X.N it sc tg [iter] && ck nt C.lk X.N e (relS scope sc) scope [elt] &&
        (match as1 ifs with
        | some u => one c && tst u && ck nt C.lk X.N c (relS scope sc) scope [u]
        | none => ifs.isEmpty && isNilE c)
    | none => false) = true := hh
  clear hh
  split at h
  · rename_i elt t iter ifs scope e1
    obtain ⟨x, ex, e2⟩ := bind1 e1
    obtain ⟨pp, e3⟩ := comp_ok e2
    subst ex e3
    simp only [Bool.and_eq_true] at h
    obtain ⟨⟨⟨⟨⟨⟨⟨⟨h1, h2⟩, h3⟩, h4⟩, h5⟩, h6⟩, h7⟩, h8⟩, h9⟩ := h
    have ok : BlkOk X.N X.env.scope scope (ownOf X.N p) := by rw [G.esc]; exact blkOk_by h4
    have pit := (hi.at G tk (W := W) h7).pi t h5
    have B : ∀ (s : Shared) (H : Hp) (Ca : Addr) (cl : List (Str × Addr)) (fp : List Addr), Gd (X.blk s H scope (compEnvC scope cl Ca X.env) fp) C nt n (relS scope sc) scope := fun s H Ca cl fp => G.blk s H Ca cl fp
    have pel : ∀ (s : Shared) (H : Hp) (Ca : Addr) (cl : List (Str × Addr)) (fp : List Addr), PE (X.blk s H scope (compEnvC scope cl Ca X.env) fp) elt (tE X.K C W0 e) := fun s H Ca cl fp => (he.at (B s H Ca cl fp) takes0 h8).pe h1
    have ptg : ∀ (s : Shared) (H : Hp) (Ca : Addr) (cl : List (Str × Addr)) (fp : List Addr), PG (X.blk s H scope (compEnvC scope cl Ca X.env) fp) t (tP X.K C p) := fun s H Ca cl fp => pg_pat (B s H Ca cl fp) p t h3
    have fin : ∀ {tt : TT}, (∀ (s : Shared) (H : Hp) (Ca : Addr) (cl : List (Str × Addr)) (fp : List Addr), PTs (X.blk s H scope (compEnvC scope cl Ca X.env) fp) ifs tt) → ((c = .nil ∧ tt = tYes) ∨ ((∀ f, condOf c f = some f) ∧ tt = tT X.K C W0 c)) →
        Pn X C W (.comp m e p it c) [.ListComp elt [⟨t, iter, ifs, 0⟩] scope pp] := fun {tt} hts hcc => by
      have pe := pe_lc (pos := pp) G.calm G.nod pit ok ptg hts pel (fold_off h6)
      rw [own_slots] at pe
      exact Pn.of1 rfl (P1.val (fun _ => rfl) rfl (PE.mono pe fun σ H Q q => tE_comp h1 h2 hcc q))
    cases e4 : as1 ifs with
    | none =>
      rw [e4] at h9
      have h9 : (ifs.isEmpty && isNilE c) = true := h9
      rw [Bool.and_eq_true] at h9
      obtain ⟨h10, h11⟩ := h9
      have ec := nilE h11
      cases ifs with
      | cons _ _ => cases h10
      | nil => exact fin (fun _ _ _ _ _ => pts_nil) (.inl ⟨ec, rfl⟩)
    | some u =>
      rw [e4] at h9
      have e5 := as1_ok e4
      have h9 : (one c && tst u && ck nt C.lk X.N c (relS scope sc) scope [u]) = true := h9
      simp only [Bool.and_eq_true] at h9
      obtain ⟨⟨h10, h11⟩, h12⟩ := h9
      subst e5
      exact fin (fun s H Ca cl fp => pts_one ((hc.at (B s H Ca cl fp) takes0 h12).pt h10 h11)) (.inr ⟨cond_ok h10, rfl⟩)
  · cases h

theorem kw_len : ∀ {kws : List Keyword} {ks : List Str}, kwNames kws = some ks → kws.length = ks.length
  | [], ks, h => by cases h; rfl
  | ⟨none, _, _⟩ :: _, _, h => by cases h
  | ⟨some a, v, q⟩ :: r, ks, h => by
    have h : (kwNames r).map (a :: ·) = some ks := h
    cases e : kwNames r with
    | none => rw [e] at h; cases h
    | some k' =>
      rw [e] at h
      cases h
      exact congrArg (· + 1) (kw_len e)
theorem sd_callk {f np : Nat} {perm : List Nat} {es : E} (hs : Sd C nt es) : Sd C nt (.callk f np perm es) := by
  intro X n sc tg W G tk xs hh
  have h : (match (as1 xs).bind asCallK with
    | some (x, ys, kws) => decide (nt.fn f = some x) && isGl sc x && !odd x && decide (ys.length = np) && decide (nt.kw f np perm = kwNames kws) && (kwNames kws).isSome && permOk (ys ++ kws.map (·.value)).length perm && ck nt C.lk X.N es sc tg (ys ++ kws.map (·.value)) && plain es
    | none => false) = true := hh
  clear hh
  split at h
  · rename_i y ys kws e1
    obtain ⟨x, ex, e2⟩ := bind1 e1
    obtain ⟨p, p2, e3⟩ := callK_ok e2
    subst ex e3
    simp only [Bool.and_eq_true, decide_eq_true_eq, Bool.not_eq_true'] at h
    obtain ⟨⟨⟨⟨⟨⟨⟨⟨h1, h2⟩, h3⟩, h4⟩, h5⟩, h6⟩, h7⟩, h8⟩, h9⟩ := h
    have row := row_of h8 h9 (hs G tk (W := W) _ h8).ps
    obtain ⟨es1, es2, r1, r2, sp⟩ := row.split
    have hf := G.fnd f y h1
    cases e4 : C.fns f with
    | none => rw [e4] at hf; cases hf
    | some fd =>
      obtain ⟨nm, ad, fdat, ps, e5, e6, e7, e8, e9, kw, fo⟩ := G.fn f fd e4
      rw [h1] at e5
      cases e5
      cases hks : kwNames kws with
      | none => rw [hks] at h6; cases h6
      | some ks =>
        rw [hks] at h5
        have hk2 : kws.length = ks.length := kw_len hks
        refine Pn.of1 rfl (P1.val (fun _ => rfl) rfl (PE.mono (pe_callW fo G.room (gl_of G h2) e6 e7 (kw np perm ks h5) (passAt tk) r1.pr r2.pk hks (fun z => by subst z; cases r1; rfl) (odd_no h3).1 r1.star) fun σ H Q q => ?_))
        have q1 := callk_of e4 row h7 q
        have q2 := sp (row.to q1)
        refine tRow_mono (r1.lens q2) fun vs H1 z => tRow_mono (r2.lens z.2) fun zs H2 w => ⟨z.1.trans h4, by rw [w.1, List.length_map, hk2], ?_⟩
        exact w.2.2 w.2.1
  · cases h
theorem own2_slots {N : List Str} {p p2 : Pat} : (ownOf N p ++ ownOf N p2).map (·.2) = slotsP p ++ slotsP p2 := by
  rw [List.map_append, own_slots, own_slots]
/-- the tests of a clause -/
theorem ifs_parts {X : Cx} {n : Nat} {sc tg : Scope} {c : E} {ifs : List Expr} {scope : Scope} (G : Gd X C nt n sc tg) (hc : Sd C nt c) (h9 : (match as1 ifs with
        | some u => one c && tst u && ck nt C.lk X.N c (relS scope sc) scope [u]
        | none => ifs.isEmpty && isNilE c) = true) :
    ∃ tt, (∀ (s : Shared) (H : Hp) (Ca : Addr) (cl : List (Str × Addr)) (fp : List Addr), PTs (X.blk s H scope (compEnvC scope cl Ca X.env) fp) ifs tt) ∧ ((c = .nil ∧ tt = tYes) ∨ ((∀ f, condOf c f = some f) ∧ tt = tT X.K C W0 c)) := by
  cases e4 : as1 ifs with
  | none =>
    rw [e4] at h9
    have h9 : (ifs.isEmpty && isNilE c) = true := h9
    rw [Bool.and_eq_true] at h9
    obtain ⟨h10, h11⟩ := h9
    have ec := nilE h11
    cases ifs with
    | cons _ _ => cases h10
    | nil => exact ⟨_, fun _ _ _ _ _ => pts_nil, .inl ⟨ec, rfl⟩⟩
  | some u =>
    rw [e4] at h9
    have e5 := as1_ok e4
    have h9 : (one c && tst u && ck nt C.lk X.N c (relS scope sc) scope [u]) = true := h9
    simp only [Bool.and_eq_true] at h9
    obtain ⟨⟨h10, h11⟩, h12⟩ := h9
    subst e5
    exact ⟨_, fun s H Ca cl fp => pts_one ((hc.at (G.blk s H Ca cl fp) takes0 h12).pt h10 h11), .inr ⟨cond_ok h10, rfl⟩⟩
/-- what two clauses ask -/
theorem parts2 {X : Cx} {n : Nat} {sc tg : Scope} {W : WX} {e : E} {p p2 : Pat} {it c it2 c2 : E} {elt t iter t2 iter2 : Expr} {ifs ifs2 : List Expr} {scope : Scope} (he : Sd C nt e) (hi : Sd C nt it) (hc : Sd C nt c) (hi2 : Sd C nt it2) (hc2 : Sd C nt c2) (G : Gd X C nt n sc tg) (tk : Takes X W)
    (h : (one e && (slotsP p ++ slotsP p2).all (free C.lk) && ckP X.N scope p t && ckP X.N scope p2 t2 && blkC X.N sc scope (ownOf X.N p ++ ownOf X.N p2) && itOk it t && itOk it2 t2 && noSet iter && noSet iter2 &&
        ck nt C.lk X.N it sc tg [iter] && ck nt C.lk X.N it2 (relS scope sc) scope [iter2] && ck nt C.lk X.N e (relS scope sc) scope [elt] &&
        (match as1 ifs with
        | some u => one c && tst u && ck nt C.lk X.N c (relS scope sc) scope [u]
        | none => ifs.isEmpty && isNilE c) &&
        (match as1 ifs2 with
        | some u => one c2 && tst u && ck nt C.lk X.N c2 (relS scope sc) scope [u]
        | none => ifs2.isEmpty && isNilE c2)) = true) :
    ∃ tt tt2, BlkOk X.N X.env.scope scope (ownOf X.N p ++ ownOf X.N p2) ∧ PI X t iter (tI X.K C W it) ∧ noSet iter = true ∧ noSet iter2 = true ∧
      (∀ (s : Shared) (H : Hp) (Ca : Addr) (cl : List (Str × Addr)) (fp : List Addr), PG (X.blk s H scope (compEnvC scope cl Ca X.env) fp) t (tP X.K C p) ∧ PG (X.blk s H scope (compEnvC scope cl Ca X.env) fp) t2 (tP X.K C p2) ∧
        PTs (X.blk s H scope (compEnvC scope cl Ca X.env) fp) ifs tt ∧ PTs (X.blk s H scope (compEnvC scope cl Ca X.env) fp) ifs2 tt2 ∧ PI (X.blk s H scope (compEnvC scope cl Ca X.env) fp) t2 iter2 (tI X.K C W0 it2) ∧ PE (X.blk s H scope (compEnvC scope cl Ca X.env) fp) elt (tE X.K C W0 e)) ∧
      ∀ {σ H Q}, tE X.K C W (.comp2 e p it c p2 it2 c2) σ H Q → tLc2 (tI X.K C W it) (tP X.K C p) tt (tI X.K C W0 it2) (tP X.K C p2) tt2 (tE X.K C W0 e) (slotsP p ++ slotsP p2) (slotsP p2) σ H Q := by
  simp only [Bool.and_eq_true] at h
  obtain ⟨⟨⟨⟨⟨⟨⟨⟨⟨⟨⟨⟨⟨h1, h2⟩, h3⟩, h3'⟩, h4⟩, h5⟩, h5'⟩, h6⟩, h6'⟩, h7⟩, h7'⟩, h8⟩, h9⟩, h9'⟩ := h
  obtain ⟨tt, t1, t1'⟩ := ifs_parts G hc h9
  obtain ⟨tt2, t3, t3'⟩ := ifs_parts G hc2 h9'
  exact ⟨tt, tt2, by rw [G.esc]; exact blkOk_by h4, (hi.at G tk (W := W) h7).pi t h5, h6, h6', fun s H Ca cl fp => ⟨pg_pat (G.blk s H Ca cl fp) p t h3, pg_pat (G.blk s H Ca cl fp) p2 t2 h3', t1 s H Ca cl fp, t3 s H Ca cl fp, (hi2.at (G.blk s H Ca cl fp) takes0 h7').pi t2 h5', (he.at (G.blk s H Ca cl fp) takes0 h8).pe h1⟩, fun q => tE_comp2 h1 h2 t1' t3' q⟩
theorem sd_comp2 {e : E} {p p2 : Pat} {it c it2 c2 : E} (he : Sd C nt e) (hi : Sd C nt it) (hc : Sd C nt c) (hi2 : Sd C nt it2) (hc2 : Sd C nt c2) : Sd C nt (.comp2 e p it c p2 it2 c2) := by
  intro X n sc tg W G tk xs hh
  have h : (match (as1 xs).bind asComp2 with
    | some (elt, ⟨t, iter, ifs, _⟩, ⟨t2, iter2, ifs2, _⟩, scope) => one e && (slotsP p ++ slotsP p2).all (free C.lk) && ckP X.N scope p t && ckP X.N scope p2 t2 && blkC X.N sc scope (ownOf X.N p ++ ownOf X.N p2) && itOk it t && itOk it2 t2 && noSet iter && noSet iter2 &&
        ck nt C.lk X.N it sc tg [iter] && ck nt C.lk X.N it2 (relS scope sc) scope [iter2] && ck nt C.lk X.N e (relS scope sc) scope [elt] &&
        (match as1 ifs with
        | some u => one c && tst u && ck nt C.lk X.N c (relS scope sc) scope [u]
        | none => ifs.isEmpty && isNilE c) &&
        (match as1 ifs2 with
        | some u => one c2 && tst u && ck nt C.lk X.N c2 (relS scope sc) scope [u]
        | none => ifs2.isEmpty && isNilE c2)
    | none => false) = true := hh
  clear hh
  split at h
  · rename_i elt t iter ifs _ t2 iter2 ifs2 _ scope e1
    obtain ⟨x, ex, e2⟩ := bind1 e1
    obtain ⟨pp, e3⟩ := comp2_ok e2
    subst ex e3
    obtain ⟨tt, tt2, ok, pit, n1, n2, B, rd⟩ := parts2 (W := W) he hi hc hi2 hc2 G tk h
    have pe := pe_lc2 (pos := pp) G.calm G.nod pit ok (vs1 := slotsP p2) (fun i hi => by rw [own2_slots]; exact List.mem_append_right _ hi) (fun s H Ca cl fp => (B s H Ca cl fp).1) (fun s H Ca cl fp => (B s H Ca cl fp).2.2.1) (fun s H Ca cl fp => (B s H Ca cl fp).2.2.2.2.1)
      (fun s H Ca cl fp => (B s H Ca cl fp).2.1) (fun s H Ca cl fp => (B s H Ca cl fp).2.2.2.1) (fun s H Ca cl fp => (B s H Ca cl fp).2.2.2.2.2) (fold_off n1) (fun env => fold_off n2)
    rw [own2_slots] at pe
    exact Pn.of1 rfl (P1.val (fun _ => rfl) rfl (PE.mono pe fun σ H Q q => rd q))
  · cases h
theorem sd_pop {i : Nat} : Sd C nt (.pop i) := by
  intro X n sc tg W G tk xs hh
  have h : (match (as1 xs).bind asMeth with
    | some (x, m, ys) => decide (m = ("pop" : Str)) && slotOk X.N sc i x && ys.isEmpty
    | none => false) = true := hh
  clear hh
  split at h
  · rename_i y m ys e1
    obtain ⟨x, ex, e2⟩ := bind1 e1
    obtain ⟨p, apos, cpos, e3, hp⟩ := meth_ok e2
    subst ex e3
    simp only [Bool.and_eq_true, decide_eq_true_eq] at h
    obtain ⟨⟨h1, h2⟩, h3⟩ := h
    subst h1
    cases ys with
    | cons _ _ => cases h3
    | nil => exact Pn.of1 rfl (P1.val (fun _ => rfl) rfl (PE.mono (pe_bm0 PySem.F.plainAttrs_list PySem.F.slot_list_pop PySem.F.type_list_pop mt_pop (pe_slot G h2) rfl hp) fun σ H Q q => tE_pop q))
  · cases h
theorem sd_popat {i : Nat} {e : E} (he : Sd C nt e) : Sd C nt (.popat i e) := by
  intro X n sc tg W G tk xs hh
  have h : (match (as1 xs).bind asMeth with
    | some (x, m, ys) => decide (m = ("pop" : Str)) && slotOk X.N sc i x && one e && (ys.all starless) && (ys.length == 1) && ck nt C.lk X.N e sc tg ys
    | none => false) = true := hh
  clear hh
  split at h
  · rename_i y m ys e1
    obtain ⟨x, ex, e2⟩ := bind1 e1
    obtain ⟨p, apos, cpos, e3, hp⟩ := meth_ok e2
    subst ex e3
    simp only [Bool.and_eq_true, decide_eq_true_eq] at h
    obtain ⟨⟨⟨⟨⟨h1, h2⟩, h3⟩, h4⟩, h5⟩, h6⟩ := h
    subst h1
    match ys, h4, h5, h6 with
    | [], _, h5, _ => cases h5
    | _ :: _ :: _, _, h5, _ => simp at h5
    | [z], h4, h5, h6 =>
      have sz : starless z = true := by
        rw [List.all_cons, Bool.and_eq_true] at h4
        exact h4.1
      have hst : (((backTo cpos (starEach [z] X.env)).all fun x => !x.1) && ((backToKw cpos (keywordEach [] X.env)).all fun x => x.1.isSome) && decide (([z] : List Expr).length + ([] : List Keyword).length + (if ([] : List Keyword).isEmpty = true then 0 else 1) < 30)) = true := by
        rw [starless_each sz]
        rfl
      exact Pn.of1 rfl (P1.val (fun _ => rfl) rfl (PE.mono (pe_bm PySem.F.plainAttrs_list PySem.F.slot_list_pop PySem.F.type_list_pop mt_popAt (pe_slot G h2) (pa_cons ((he.at G tk (W := W) h6).pe h3) pa_nil (starless_each sz)) rfl hst hp (starless_each sz) rfl) fun σ H Q q => tE_popat h3 q))
  · cases h
theorem isTup_ok {t : Expr} (h : isTup t = true) : ∃ es k p, t = .Tuple es k p := by
  cases t <;> first | (cases h; done) | skip
  exact ⟨_, _, _, rfl⟩
theorem it_args {sc : Scope} {nm : Str} {m : Nat} {xs ys : List Expr} (h : ((as1 xs).bind asCall).bind (fun c => if c.1 = nm ∧ isGl sc c.1 = true ∧ c.2.length = m then some c.2 else none) = some ys) :
    ∃ p p2, xs = [.Call (.Name nm p) ys [] p2] ∧ isGl sc nm = true ∧ ys.length = m := by
  cases e : (as1 xs).bind asCall with
  | none => rw [e] at h; cases h
  | some c =>
    obtain ⟨y, zs⟩ := c
    rw [e] at h
    have h : (if y = nm ∧ isGl sc y = true ∧ zs.length = m then some zs else none) = some ys := h
    split at h
    · rename_i hc
      obtain ⟨h1, h2, h3⟩ := hc
      cases h
      obtain ⟨x, ex, e2⟩ := bind1 e
      obtain ⟨p, p2, e3⟩ := call_ok e2
      subst ex e3 h1
      exact ⟨p, p2, rfl, h2, h3⟩
    · cases h
theorem P1.it {X : Cx} {W : WX} {k : Ik} {es : E} {x : Expr} (h : ∀ t, itOk (.iter k es) t = true → PI X t x (tI X.K C W (.iter k es))) : P1 X C W (.iter k es) x where
  pe := (fun z => nomatch z)
  pt := (fun z => nomatch z)
  pw := (fun z => nomatch z)
  pi := h
theorem sd_iter {k : Ik} {es : E} (hs : Sd C nt es) : Sd C nt (.iter k es) := by
  intro X n sc tg W G tk xs hh
  have h : (match itArgs sc k xs with
    | some ys => ck nt C.lk X.N es sc tg ys && plain es
    | none => false) = true := hh
  clear hh
  split at h
  · rename_i ys e1
    rw [Bool.and_eq_true] at h
    have row := row_of h.1 h.2 (hs G tk (W := W) ys h.1).ps
    cases k with
    | seq =>
      have e1 : (as1 xs).map (fun x => [x]) = some ys := e1
      cases e2 : as1 xs with
      | none => rw [e2] at e1; cases e1
      | some x =>
        rw [e2] at e1
        cases e1
        have e3 := as1_ok e2
        subst e3
        obtain ⟨e, ee, h1, p1⟩ := row.one1
        subst ee
        exact Pn.of1 rfl (P1.it fun t _ => PI.mono (pi_seq (p1.pe h1)) fun σ H R q => by
          have q2 := tX_cons h1 (tI_of q)
          exact tE_imp q2 fun v H1 q3 => tX_nil q3)
    | range1 =>
      obtain ⟨p, p2, e2, h2, h3⟩ := it_args e1
      subst e2
      match ys, h3, row with
      | [a], _, row =>
        exact Pn.of1 rfl (P1.it fun t _ => PI.mono (pi_range1 (gl_of G h2) (G.blt _ (by decide +kernel)) row.pa (starless_each row.head.1)) fun σ H R q => tX_imp (tI_of q) fun vs H1 q => iw_rng1 q)
    | range2 =>
      obtain ⟨p, p2, e2, h2, h3⟩ := it_args e1
      subst e2
      match ys, h3, row with
      | [a, b], _, row =>
        have s2 : starless b = true := by
          have := row.head.2
          rw [List.all_cons, Bool.and_eq_true] at this
          exact this.1
        exact Pn.of1 rfl (P1.it fun t _ => PI.mono (pi_range2 (gl_of G h2) (G.blt _ (by decide +kernel)) row.pa (by rw [starless_each row.head.1, starless_each s2]; rfl) (starless_each s2)) fun σ H R q => tX_imp (tI_of q) fun vs H1 q => iw_rng2 q)
    | enum =>
      obtain ⟨p, p2, e2, h2, h3⟩ := it_args e1
      subst e2
      match ys, h3, row with
      | [a], _, row =>
        refine Pn.of1 rfl (P1.it fun t ht => ?_)
        obtain ⟨es', k, tp, et⟩ := isTup_ok ht
        subst et
        exact PI.mono (pi_enumA (gl_of G h2) (G.blt _ (by decide +kernel)) row.pa (starless_each row.head.1)) fun σ H R q => tX_imp (tI_of q) fun vs H1 q => iw_enum q
    | zip =>
      obtain ⟨p, p2, e2, h2, h3⟩ := it_args e1
      subst e2
      match ys, h3, row with
      | [a, b], _, row =>
        refine Pn.of1 rfl (P1.it fun t ht => ?_)
        obtain ⟨es', k, tp, et⟩ := isTup_ok ht
        subst et
        exact PI.mono (RZ.pi_zipA (gl_of G h2) (G.blt _ (by decide +kernel)) row.pa (starless_each row.head.1) (starless_none row.head.2)) fun σ H R q => tX_imp (tI_of q) fun vs H1 q => iw_zip q
    | items => cases e1
    | values => cases e1
  · cases h
/-- the checker is sound -/
theorem snd (e : E) : Sd C nt e := by
  induction e with
  | nil => exact sd_nil
  | cons e es he hs => exact sd_cons he hs
  | star e es he hs => exact sd_star he hs
  | cst d => exact sd_cst
  | var i => exact sd_slot rfl (fun _ => rfl) (fun _ _ _ _ => rfl) tE_var
  | bor i => exact sd_slot rfl (fun _ => rfl) (fun _ _ _ _ => rfl) tE_bor
  | mov i => exact sd_slot rfl (fun _ => rfl) (fun _ _ _ _ => rfl) tE_mov
  | glb x => exact sd_glb
  | op o es hs => exact sd_op hs
  | and a b ha hb => exact sd_and ha hb
  | or a b ha hb => exact sd_or ha hb
  | ite c a b hc ha hb => exact sd_ite hc ha hb
  | chain o1 o2 a b c ha hb hc => exact sd_chain ha hb hc
  | cut a b c ha hb hc => exact sd_cut ha hb hc
  | tup es hs => exact sd_tup hs
  | lst m es hs => exact sd_lst hs
  | call f es hs => exact sd_call hs
  | comp m e p it c he hi hc => exact sd_comp he hi hc
  | pop i => exact sd_pop
  | popat i e he => exact sd_popat he
  | iter k es hs => exact sd_iter hs
  | dnew m => intro X n sc tg W G tk xs h; cases h
  | dct es _ => intro X n sc tg W G tk xs h; cases h
  | callk f np perm es hs => exact sd_callk hs
  | comp2 e p it c p2 it2 c2 he hi hc hi2 hc2 => exact sd_comp2 he hi hc hi2 hc2
  | dcomp _ _ _ _ => intro X n sc tg W G tk xs h; cases h
  | keyed _ _ _ _ => intro X n sc tg W G tk xs h; cases h
end PL
end

section
set_option maxRecDepth 100000
/-! PlSt1: statements' readings. -/
namespace PL
open PySem PySem.Spec PyProof.Rows L2
variable {X : Cx} {C : Cf} {nt : NT} {n : Nat} {sc tg : Scope} {W : WX} {K : PySem.W.Frag} {σ : L2.St} {H : Hp}

abbrev evSC (C : Cf) (s : S) (env : Env) : R Flow := evS C.fns C.glb C.call C.cls C.lk s env
/-- what a statement's result gives -/
def PostS (K : PySem.W.Frag) (C : Cf) (W : WX) (L : List (Nat × V)) (F : Hp) (A : List Addr) (T : List It) (r : R Flow) (D : Ends) : Prop := match r with
  | .ok .nx env' => ∀ F' σ' H', Same F F' → In K L F' env' σ' H' A T → D.nx σ' H'
  | .ok .bk env' => ∀ F' σ' H', Same F F' → In K L F' env' σ' H' A T → D.bk σ' H'
  | .ok .ct env' => ∀ F' σ' H', Same F F' → In K L F' env' σ' H' A T → D.ct σ' H'
  | .ok (.rt kd) env' => ∀ F' σ' H' v, Same F F' → In K L F' env' σ' H' A ((v, kd) :: T) → D.rt v H'
  | .exc x env' => ∀ F' σ' H' cls dd, Same F F' → In K L F' env' σ' H' A T → ExR K C F' H' x cls dd → W cls dd σ' H'
  | .bad _ => False
def tS (K : PySem.W.Frag) (C : Cf) (W : WX) (s : S) : TS := fun D σ H => ∃ L F A T env, Lko C L ∧ In K L F env σ H A T ∧ PostS K C W L F A T (evSC C s env) D
theorem PostS.mono {L : List (Nat × V)} {F F1 : Hp} {A : List Addr} {T : List It} {r : R Flow} {D : Ends} (h : PostS K C W L F A T r D) (s : Same F F1) : PostS K C W L F1 A T r D := by
  cases r with
  | bad m => exact h
  | exc x env => exact fun F' σ' H' cls dd s' => h F' σ' H' cls dd (s.trans s')
  | ok f env =>
    cases f with
    | nx => exact fun F' σ' H' s' => h F' σ' H' (s.trans s')
    | bk => exact fun F' σ' H' s' => h F' σ' H' (s.trans s')
    | ct => exact fun F' σ' H' s' => h F' σ' H' (s.trans s')
    | rt kd => exact fun F' σ' H' v s' => h F' σ' H' v (s.trans s')
/-- another end -/
theorem PostS.to {L : List (Nat × V)} {F : Hp} {A : List Addr} {T : List It} {r : R Flow} {D D' : Ends} (h : PostS K C W L F A T r D)
    (hn : ∀ env', r = .ok .nx env' → ∀ F' σ' H', Same F F' → In K L F' env' σ' H' A T → (∀ F' σ' H', Same F F' → In K L F' env' σ' H' A T → D.nx σ' H') → D'.nx σ' H')
    (hb : ∀ env', r = .ok .bk env' → ∀ F' σ' H', Same F F' → In K L F' env' σ' H' A T → (∀ F' σ' H', Same F F' → In K L F' env' σ' H' A T → D.bk σ' H') → D'.bk σ' H')
    (hc : ∀ env', r = .ok .ct env' → ∀ F' σ' H', Same F F' → In K L F' env' σ' H' A T → (∀ F' σ' H', Same F F' → In K L F' env' σ' H' A T → D.ct σ' H') → D'.ct σ' H')
    (hr : ∀ v H', D.rt v H' → D'.rt v H') : PostS K C W L F A T r D' := by
  cases r with
  | bad m => exact h
  | exc x env => exact h
  | ok f env =>
    cases f with
    | nx => exact fun F' σ' H' s i => hn env rfl F' σ' H' s i h
    | bk => exact fun F' σ' H' s i => hb env rfl F' σ' H' s i h
    | ct => exact fun F' σ' H' s i => hc env rfl F' σ' H' s i h
    | rt kd => exact fun F' σ' H' v s i => hr v H' (h F' σ' H' v s i)
theorem PS.mono {st : Stmt} {t t' : TS} (h : PS X st t) (f : ∀ D σ H, t' D σ H → t D σ H) : PS X st t' := ⟨fun pins s σ H D I hw => h.run pins s σ H D I (f D σ H hw)⟩
theorem PSs.mono {st : List Stmt} {t t' : TS} (h : PSs X st t) (f : ∀ D σ H, t' D σ H → t D σ H) : PSs X st t' := ⟨fun pins s σ H D I hw => h.run pins s σ H D I (f D σ H hw)⟩

/-- an expression, then a statement's end -/
theorem exprS {e : E} {L : List (Nat × V)} {F : Hp} {A : List Addr} {T : List It} {env : Env} {f : List Item → Env → R Flow} {D : Ends} {Q : List V → Hp → Prop} (hl : Lko C L) (i : In K L F env σ H A T)
    (h : PostS K C W L F A T ((evC C e env).bind f) D) (k : ∀ xs env' F' H' vs T', Same F F' → IT σ xs vs T' → In K L F' env' σ H' A (T' ++ T) → PostS K C W L F' A T (f xs env') D → Q vs H') : tX K C W e σ H Q := by
  refine ⟨L, F, A, T, env, hl, i, ?_⟩
  cases r : evC C e env with
  | bad m => rw [r] at h; exact h
  | exc x env' =>
    rw [r] at h
    exact fun F' H' cls dd s i' ex => h F' σ H' cls dd s i' ex
  | ok xs env' =>
    rw [r] at h
    exact fun F' H' s vs T' it i' => k xs env' F' H' vs T' s it i' (PostS.mono h s)
theorem oneS_ {e : E} {L : List (Nat × V)} {F : Hp} {A : List Addr} {T : List It} {env : Env} {f : KD → Env → R Flow} {D : Ends} {Q : VK} (hl : Lko C L) (i : In K L F env σ H A T)
    (h : PostS K C W L F A T (oneS (evC C e env) f) D) (k : ∀ kd env' F' H' v, Same F F' → In K L F' env' σ H' A ((v, kd) :: T) → PostS K C W L F' A T (f kd env') D → Q v H') : tE K C W e σ H Q := by
  unfold oneS at h
  refine exprS hl i h fun xs env' F' H' vs T' s it i' q => ?_
  match xs, it, q with
  | [], _, q => exact False.elim q
  | [.slot _], _, q => exact False.elim q
  | x :: y :: z, _, q => exact (by cases x <;> exact False.elim q)
  | [.val kd], it2, q =>
    clear it
    cases it2 with
    | @val _ _ v _ _ it3 =>
      cases it3
      exact ⟨v, rfl, k kd env' F' H' v s i' q⟩
theorem oneT_ {e : E} {L : List (Nat × V)} {F : Hp} {A : List Addr} {T : List It} {env : Env} {f : KD → Env → R Flow} {D : Ends} {Q : Bool → Hp → Prop} (hl : Lko C L) (i : In K L F env σ H A T)
    (h : PostS K C W L F A T (oneS (evC C e env) f) D) (k : ∀ kd env' F' H', evC C e env = .ok [.val kd] env' → Same F F' → In K L F' env' σ H' A T → PostS K C W L F' A T (f kd env') D → Q (truth kd.2) H') : tT K C W e σ H Q := by
  unfold oneS at h
  refine ⟨L, F, A, T, env, hl, i, ?_⟩
  cases r : evC C e env with
  | bad m => rw [r] at h; exact h
  | exc x env' =>
    rw [r] at h
    exact fun F' H' cls dd s i' ex => h F' σ H' cls dd s i' ex
  | ok xs env' =>
    rw [r] at h
    intro F' H' s
    match xs, h, r with
    | [], h, _ => exact False.elim h
    | [.slot _], h, _ => exact False.elim h
    | x :: y :: z, h, _ => exact (by cases x <;> exact False.elim h)
    | [.val kd], h, r => exact ⟨_, kd, rfl, rfl, fun i' => k kd env' F' H' r s i' (PostS.mono h s)⟩

/-! ### statement by statement -/
theorem tS_skip {D : Ends} (h : tS K C W .skip D σ H) : tNext D σ H := by
  obtain ⟨L, F, A, T, env, hl, i, p⟩ := h
  exact p F σ H (Same.refl _) i
theorem tS_seq {a b : S} {D : Ends} (h : tS K C W (.seq a b) D σ H) : tSeq (tS K C W a) (tS K C W b) D σ H := by
  obtain ⟨L, F, A, T, env, hl, i, p⟩ := h
  refine ⟨L, F, A, T, env, hl, i, ?_⟩
  have p : PostS K C W L F A T ((evSC C a env).bind fun f env1 => match f with
    | .nx => evSC C b env1
    | f => .ok f env1) D := p
  cases r : evSC C a env with
  | bad m => rw [r] at p; exact p
  | exc x env' => rw [r] at p; exact p
  | ok f env' =>
    rw [r] at p
    cases f with
    | nx => exact fun F' σ' H' s i' => ⟨L, F', A, T, env', hl, i', PostS.mono p s⟩
    | bk => exact p
    | ct => exact p
    | rt kd => exact p
theorem tS_ret {e : E} {D : Ends} (h : tS K C W (.ret e) D σ H) : tRet (tE K C W e) D σ H := by
  obtain ⟨L, F, A, T, env, hl, i, p⟩ := h
  exact oneS_ hl i p fun kd env' F' H' v s i' q => q F' σ H' v (Same.refl _) i'
theorem tS_retN {D : Ends} (h : tS K C W .retN D σ H) : tRetN D σ H := by
  obtain ⟨L, F, A, T, env, hl, i, p⟩ := h
  exact p F σ H .non (Same.refl _) (i.ext (U := [(V.non, (0, PyData.none))]) fun I o => o.addRp .non)
theorem tS_brk {D : Ends} (h : tS K C W .brk D σ H) : tBreak D σ H := by
  obtain ⟨L, F, A, T, env, hl, i, p⟩ := h
  exact p F σ H (Same.refl _) i
theorem tS_cnt {D : Ends} (h : tS K C W .cnt D σ H) : tCont D σ H := by
  obtain ⟨L, F, A, T, env, hl, i, p⟩ := h
  exact p F σ H (Same.refl _) i
theorem tS_expr {e : E} {D : Ends} (h : tS K C W (.expr e) D σ H) : tDrop (tE K C W e) D σ H := by
  obtain ⟨L, F, A, T, env, hl, i, p⟩ := h
  exact oneS_ hl i p fun kd env' F' H' v s i' q => q F' σ H' (Same.refl _) i'.drop1
theorem tS_ite {c : E} {a b : S} {D : Ends} (h : tS K C W (.ite c a b) D σ H) : tIfS (tT K C W c) (tS K C W a) (tS K C W b) D σ H := by
  obtain ⟨L, F, A, T, env, hl, i, p⟩ := h
  refine oneT_ (f := fun kd env1 => if truth kd.2 then evSC C a env1 else evSC C b env1) hl i p fun kd env' F' H' e s i' q => ?_
  cases hk : truth kd.2 with
  | true =>
    rw [hk] at q
    exact ⟨L, F', A, T, env', hl, i', q⟩
  | false =>
    rw [hk] at q
    exact ⟨L, F', A, T, env', hl, i', q⟩
theorem free_ne {L : List (Nat × V)} {i : Nat} (hl : Lko C L) (h : free C.lk i = true) : ∀ q ∈ L, q.1 ≠ i := fun q hq e => by
  have h1 := hl q hq
  rw [e, h] at h1
  cases h1
/-- an assignment to a name -/
theorem tS_set {i : Nat} {e : E} {D : Ends} (h : tS K C W (.set i e) D σ H) : tAsg (tE K C W e) (gName i) D σ H := by
  obtain ⟨L, F, A, T, env, hl, i0, p⟩ := h
  refine oneS_ (f := fun kd env1 => if free C.lk i && decide (i < env1.length) then .ok .nx (env1.set i (some kd)) else .bad "set of a slot that is handed in") hl i0 p fun kd env' F' H' v s i' q => ?_
  split at q
  · rename_i hf
    rw [Bool.and_eq_true, decide_eq_true_eq] at hf
    exact q F' _ H' (Same.refl _) (i'.put hf.2 (free_ne hl hf.1))
  · exact False.elim q
theorem tS_asg {p : Pat} {e : E} {D : Ends} (h : tS K C W (.asg p e) D σ H) : tAsg (tE K C W e) (tP K C p) D σ H := by
  obtain ⟨L, F, A, T, env, hl, i0, q0⟩ := h
  refine oneS_ (f := fun kd env1 => if (slotsP p).all (free C.lk) then (match bindPat p kd.2 env1 with
    | some env2 => .ok .nx env2
    | none => .bad "asg") else .bad "asg locked") hl i0 q0 fun kd env' F' H' v s i' q => ?_
  split at q
  · rename_i hf
    obtain ⟨k, d⟩ := kd
    cases e1 : bindPat p d env' with
    | none => simp only [e1] at q; exact False.elim q
    | some env2 =>
      simp only [e1] at q
      obtain ⟨F1, s1, i1, r⟩ := one_rp i'
      exact ⟨L, F1, A, T, env', d, env2, hl, i1.ext (U := [(v, (0, d))]) (fun I o => o.addRp r), e1, hf, fun σ' i2 _ => q F1 σ' H' s1 i2⟩
  · exact False.elim q
/-- a loop over an iterable -/
theorem tS_for {p : Pat} {it : E} {b : S} {D : Ends} (h : tS K C W (.for_ p it b) D σ H) : tFor (tI K C W it) (tP K C p) (tS K C W b) D σ H := by
  obtain ⟨L, F, A, T, env, hl, i, q⟩ := h
  refine ⟨L, F, A, T, env, hl, i, ?_⟩
  have q : PostS K C W L F A T ((evC C it env).bind fun xs env1 => match ksD xs with
    | some ds => if (slotsP p).all (free C.lk) then forLoop p (evSC C b) ds env1 else .bad "for locked"
    | none => .bad "for iter") D := q
  cases r : evC C it env with
  | bad m => rw [r] at q; exact q
  | exc x env' =>
    rw [r] at q
    exact fun F' H' cls dd s i' ex => q F' σ H' cls dd s i' ex
  | ok xs env1 =>
    rw [r] at q
    intro F1 H1 s1
    cases e2 : ksD xs with
    | none => simp only [R.bind, e2] at q; exact False.elim q
    | some ds =>
      simp only [R.bind, e2] at q
      split at q
      · rename_i hfr
        refine ⟨ds, rfl, fun hz J wk i1 => ?_⟩
        obtain ⟨G, Y, w, g, st⟩ := wk
        refine for_it w (fun k σ H => ∃ F' env', Same F1 F' ∧ In K L F' env' σ H A T ∧ PostS K C W L F' A T (forLoop p (evSC C b) (ds.drop k) env') D) ?_ ?_ ?_ ?_
        · exact ⟨F1, env1, Same.refl _, i1, PostS.mono q s1⟩
        · rintro k σ H _ ⟨F', env', s3, i3, _⟩
          exact g H (s3.trans i3.same)
        · rintro k x σ H H' hk ⟨F', env', s3, i3, q3⟩ y
          have hd : ds[k]? = some ds[k] := List.getElem?_eq_getElem hk
          have hdrop : ds.drop k = ds[k] :: ds.drop (k + 1) := List.drop_eq_getElem_cons hk
          obtain ⟨I, si, o, l⟩ := i3
          obtain ⟨F4, s4, o4⟩ := st k H x H' ds[k] F' s3 hd y A _ o
          have i4 : In K L F4 env' σ H' A ((x, (0, ds[k])) :: T) := ⟨I, si, o4.perm List.perm_middle.symm, l⟩
          rw [hdrop] at q3
          generalize ds[k] = d at q3 i4
          rw [forLoop] at q3
          cases e5 : bindPat p d env' with
          | none => rw [e5] at q3; exact False.elim q3
          | some env5 =>
            rw [e5] at q3
            dsimp only at q3
            refine ⟨L, F4, A, T, env', d, env5, hl, i4, e5, hfr, fun σ5 i5 _ => ⟨L, F4, A, T, env5, hl, i5, ?_⟩⟩
            have q3 := PostS.mono q3 s4
            cases e6 : evSC C b env5 with
            | bad m => rw [e6] at q3; exact q3
            | exc x env6 => rw [e6] at q3; exact q3
            | ok f env6 =>
              rw [e6] at q3
              cases f with
              | nx => exact fun F6 σ6 H6 s6 i6 => ⟨F6, env6, (s3.trans s4).trans s6, i6, PostS.mono q3 s6⟩
              | ct => exact fun F6 σ6 H6 s6 i6 => ⟨F6, env6, (s3.trans s4).trans s6, i6, PostS.mono q3 s6⟩
              | bk => exact q3
              | rt kd => exact q3
        · rintro σ H ⟨F', env', s3, i3, q3⟩
          rw [List.drop_length] at q3
          exact q3 F' σ H (Same.refl _) i3
      · exact False.elim q
theorem tS_while {c : E} {b : S} {D : Ends} (h : tS K C W (.while_ c b) D σ H) : tWhile (tT K C W c) (tS K C W b) D σ H := by
  obtain ⟨L, F, A, T, env, hl, i, q⟩ := h
  have q : PostS K C W L F A T (whileLoop (evC C c) (evSC C b) turns env) D := q
  generalize turns = N0 at q
  refine ⟨fun m σ H => ∃ F' env', In K L F' env' σ H A T ∧ PostS K C W L F' A T (whileLoop (evC C c) (evSC C b) m env') D, ⟨N0, F, env, i, q⟩, ?_⟩
  rintro m σ H ⟨F', env', i', q⟩
  cases m with
  | zero => exact False.elim q
  | succ m =>
    rw [whileLoop] at q
    refine ⟨L, F', A, T, env', hl, i', ?_⟩
    cases r : evC C c env' with
    | bad m => rw [r] at q; exact q
    | exc x env1 =>
      rw [r] at q
      exact fun F' H' cls dd s i' ex => q F' σ H' cls dd s i' ex
    | ok xs env1 =>
      rw [r] at q
      intro F1 H1 s1
      match xs, q with
      | [], q => exact False.elim q
      | [.slot _], q => exact False.elim q
      | x :: y :: z, q => exact (by cases x <;> exact False.elim q)
      | [.val (k, d)], q =>
        refine ⟨_, (k, d), rfl, rfl, fun i1 => ?_⟩
        dsimp only at q
        cases hb : truth d with
        | false =>
          rw [hb] at q
          rw [if_neg (by simp)]
          exact q F1 σ H1 s1 i1
        | true =>
          rw [hb] at q
          rw [if_pos rfl]
          have q := PostS.mono q s1
          simp only [if_true] at q
          refine ⟨fun σ H => ∃ F' env', In K L F' env' σ H A T ∧ PostS K C W L F' A T (whileLoop (evC C c) (evSC C b) m env') D, fun σ' H' hN => ⟨m, Nat.lt_succ_self m, hN⟩, L, F1, A, T, env1, hl, i1, ?_⟩
          cases e6 : evSC C b env1 with
          | bad m => rw [e6] at q; exact q
          | exc x env6 => rw [e6] at q; exact q
          | ok f env6 =>
            rw [e6] at q
            cases f with
            | nx => exact fun F6 σ6 H6 s6 i6 => ⟨F6, env6, i6, PostS.mono q s6⟩
            | ct => exact fun F6 σ6 H6 s6 i6 => ⟨F6, env6, i6, PostS.mono q s6⟩
            | bk => exact q
            | rt kd => exact q
end PL
end

section
set_option maxRecDepth 100000
/-! PlSt2: lists changed in place. -/
namespace PL
open PySem PySem.Spec PyProof.Rows L2
variable {X : Cx} {C : Cf} {nt : NT} {n : Nat} {sc tg : Scope} {W : WX} {K : PySem.W.Frag} {σ : L2.St} {H : Hp}

theorem slot_list {L : List (Nat × V)} {F : Hp} {env : Env} {A : List Addr} {T : List It} {i k : Nat} {ds : List D} (hi : In K L F env σ H A T) (e : getS env i = some (k, .list ds)) :
    ∃ l, σ[i]? = some (some (.ref l)) ∧ tyV K "list" (.ref l) H := by
  obtain ⟨v0, J, e1, o, _, _⟩ := hi.pick e
  obtain ⟨F1, s1, o1⟩ := o.lower (Nat.zero_le k)
  obtain ⟨a, xs, ev, g, _, _⟩ := rowL o1.same o1.rp
  subst ev
  exact ⟨a, e1, .inl ⟨rfl, xs, g _ o1.same⟩⟩
theorem add_min {k j : Nat} : 1 + min k j = min k j + 1 := Nat.add_comm _ _
theorem tS_append {i : Nat} {e : E} {D : Ends} (h : tS K C W (.append i e) D σ H) : tDrop (tBM K "list" rAppend (tVar i) (tCons (tE K C W e) tNil)) D σ H := by
  obtain ⟨L, F, A, T, env, hl, hi, p⟩ := h
  have p : PostS K C W L F A T (match getS env i with
    | some (_, .list _) => (oneS (evC C e env) fun kd env1 => match getS env1 i with
      | some (k + 1, .list xs) => if xs.length < maxLen then .ok .nx (env1.set i (some (1 + min k kd.1, .list (xs ++ [kd.2])))) else .bad "append"
      | _ => .bad "append")
    | _ => .bad "append to what") D := p
  split at p
  · rename_i k0 ds0 e0
    obtain ⟨l, e1, ty⟩ := slot_list hi e0
    refine ⟨.ref l, e1, ty, oneS_ hl hi p fun kd env1 F1 H1 v s1 i1 q => ?_⟩
    split at q
    · rename_i k ds e2
      split at q
      · rename_i hz
        obtain ⟨j, d⟩ := kd
        have i2 := i1.lend e2 e1
        have i3 : In K L F1 (env1.set i none) σ H1 A ((v, (j, d)) :: (V.ref l, (k + 1, PyData.list ds)) :: T) := i2.perm (List.Perm.swap _ _ _)
        -- the list's items are lowered
        obtain ⟨I, si, o, lk⟩ := i3
        have o1 : Ok K F1 H1 A ((V.ref l, (k + 1, PyData.list ds)) :: (v, (j, d)) :: (I ++ T)) := o.perm (by
          refine List.Perm.trans (List.perm_middle.trans (List.Perm.cons _ List.perm_middle)) (List.Perm.swap _ _ _))
        obtain ⟨F2, s2, o2⟩ := o1.lower (show min k j + 1 ≤ k + 1 by omega)
        have i4 : In K L F2 (env1.set i none) σ H1 A ((v, (j, d)) :: (V.ref l, (min k j + 1, PyData.list ds)) :: T) := ⟨I, si, o2.perm (by
          refine List.Perm.trans (List.Perm.swap _ _ _) ((List.perm_middle.trans (List.Perm.cons _ List.perm_middle)).symm)), lk⟩
        obtain ⟨F3, ws, s3, e3, hz3, i5⟩ := In.push i4 (Nat.min_le_right _ _) (show ds.length < sizeLine from hz)
        refine ⟨l, ws, v, rfl, rfl, e3, hz3, ?_⟩
        have i6 := i5.back e1
        rw [List.set_set] at i6
        rw [add_min] at q
        exact q F3 σ _ (s2.trans s3) i6
      · exact False.elim q
    · exact False.elim q
  · exact False.elim p
/-- an expression with items beside, then a statement's end -/
theorem oneS0 (T0 : List It) {e : E} {L : List (Nat × V)} {F : Hp} {A : List Addr} {T : List It} {env : Env} {f : KD → Env → R Flow} {D : Ends} {Q : VK} (hl : Lko C L) (i : In K L F env σ H A (T0 ++ T))
    (h : PostS K C W L F A T (oneS (evC C e env) f) D) (k : ∀ kd env' F' H' v, Same F F' → In K L F' env' σ H' A ((v, kd) :: (T0 ++ T)) → PostS K C W L F' A T (f kd env') D → Q v H') : tE K C W e σ H Q := by
  unfold oneS at h
  refine ⟨L, F, A, T0 ++ T, env, hl, i, ?_⟩
  cases r : evC C e env with
  | bad m => rw [r] at h; exact h
  | exc x env' =>
    rw [r] at h
    exact fun F' H' cls dd s i' ex => h F' σ H' cls dd s i'.dropT ex
  | ok xs env' =>
    rw [r] at h
    intro F' H' s vs T' it i'
    have q := PostS.mono h s
    match xs, it, q with
    | [], _, q => exact False.elim q
    | [.slot _], _, q => exact False.elim q
    | x :: y :: z, _, q => exact (by cases x <;> exact False.elim q)
    | [.val kd], it2, q =>
      clear it
      cases it2 with
      | @val _ _ v _ _ it3 =>
        cases it3
        exact ⟨v, rfl, k kd env' F' H' v s i' q⟩
theorem ixPos_ixN {n : Nat} {j : Int} {m : Nat} (h : ixPos n j = some m) : ixN n j = some m := by
  unfold ixPos at h
  unfold ixN
  exact h
theorem kids_set {k : Nat} : ∀ {vs : List V} {ds : List D} {m : Nat} {v : V} {d : D}, vs.length = ds.length → m < ds.length → ∃ U, (kidsI k (vs.set m v) (ds.set m d)).Perm ((v, (k, d)) :: U) ∧ ∃ x, (kidsI k vs ds).Perm (x :: U)
  | [], [], m, v, d, _, hm => by simp at hm
  | a :: vs, b :: ds, 0, v, d, hl, hm => ⟨kidsI k vs ds, List.Perm.refl _, (a, (k, b)), List.Perm.refl _⟩
  | a :: vs, b :: ds, m + 1, v, d, hl, hm => by
    obtain ⟨U, p1, x, p2⟩ := kids_set (k := k) (vs := vs) (ds := ds) (m := m) (v := v) (d := d) (by simpa using hl) (by simpa using hm)
    exact ⟨(a, (k, b)) :: U, (List.Perm.cons _ p1).trans (List.Perm.swap _ _ _), x, (List.Perm.cons _ p2).trans (List.Perm.swap _ _ _)⟩
  | [], _ :: _, _, _, _, hl, _ => by cases hl
  | _ :: _, [], _, _, _, hl, _ => by cases hl
theorem tS_setix {i : Nat} {ix e : E} {D : Ends} (h : tS K C W (.setix i ix e) D σ H) : tAsg (tE K C W e) (gSub (tVar i) (tE K C W ix) rSetL) D σ H := by
  obtain ⟨L, F, A, T, env, hl, hi, p⟩ := h
  refine oneS_ hl hi (show PostS K C W L F A T (oneS (evC C e env) fun kd env1 => match getS env1 i with
    | none => .bad "setix of what"
    | some _ => oneS (evC C ix env1) fun kx env2 => match getS env2 i with
      | some (k + 1, .list xs) => (match kx.2 with
        | .int j => (match ixPos xs.length j with
          | some n => .ok .nx (env2.set i (some (1 + min k kd.1, .list (xs.set n kd.2))))
          | none => .bad "setix")
        | _ => .bad "setix")
      | some (k + 1, .dict kvs) => if beyond && okD kx.2 then .ok .nx (env2.set i (some (1 + min k kd.1, .dict (putD kx.2 kd.2 kvs)))) else .bad "setix"
      | _ => .bad "setix") D from p) fun kd env1 F1 H1 v s1 i1 q => ?_
  cases e0 : getS env1 i with
  | none => rw [e0] at q; exact False.elim q
  | some kd0 =>
    rw [e0] at q
    obtain ⟨v0, e1⟩ := i1.var e0
    refine ⟨v0, e1, ?_⟩
    obtain ⟨j0, d⟩ := kd
    refine oneS0 [(v, (j0, d))] hl i1 q fun kx env2 F2 H2 y s2 i2 q => ?_
    split at q
    · rename_i k ds e2
      split at q
      · rename_i _ j ej
        split at q
        · rename_i m em
          have i2' : In K L F2 env2 σ H2 A ((y, kx) :: (v, (j0, d)) :: T) := i2
          obtain ⟨F3, s3, i3, ry⟩ := one_rp i2'
          rw [ej] at ry
          cases ry
          have i4 := i3.lend e2 e1
          -- the list's items and the new one are lowered
          obtain ⟨I, si, o, lk⟩ := i4
          have o1 : Ok K F3 H2 A ((v0, (k + 1, PyData.list ds)) :: (v, (j0, d)) :: (I ++ T)) := o.perm (List.perm_middle.trans (List.Perm.cons _ List.perm_middle))
          obtain ⟨F4, s4, o2⟩ := o1.lower (show min k j0 + 1 ≤ k + 1 by omega)
          obtain ⟨F5, s5, o3⟩ := (o2.perm (List.Perm.swap _ _ _)).lower (Nat.min_le_right k j0)
          obtain ⟨l, ws, ev, e3, hz, e4, o4⟩ := (o3.perm (List.Perm.swap _ _ _)).opn
          subst ev
          obtain ⟨b1, b2, _⟩ := ixPos_seq em
          obtain ⟨U, p1, x, p2⟩ := kids_set (k := min k j0) (vs := ws) (ds := ds) (m := m) (v := v) (d := d) e4 b2
          have o5 : Ok K F5 H2 (l :: A) ((v, (min k j0, d)) :: (U ++ (I ++ T))) := by
            have o6 := o4.perm (List.Perm.append_right _ p2)
            have o7 : Ok K F5 H2 (l :: A) ((U ++ ((v, (min k j0, d)) :: (I ++ T)))) := Ok.drop o6
            exact o7.perm List.perm_middle
          have o6 : Ok K F5 (upd H2 l (.lst (ws.set m v))) (l :: A) (kidsI (min k j0) (ws.set m v) (ds.set m d) ++ (I ++ T)) := (o5.perm (List.Perm.append_right (I ++ T) p1.symm)).fill
          have o7 := o6.cls upd_same (by rw [List.length_set]; exact hz) (by rw [List.length_set, List.length_set]; exact e4)
          have i7 : In K L F5 (env2.set i none) σ (upd H2 l (.lst (ws.set m v))) A ((V.ref l, (min k j0 + 1, PyData.list (ds.set m d))) :: T) := ⟨I, si, o7.perm List.perm_middle.symm, lk⟩
          have i8 := i7.back e1
          rw [List.set_set] at i8
          refine ⟨l, ws, j, m, rfl, rfl, e3, by rw [e4]; exact ixPos_ixN em, ?_⟩
          rw [add_min] at q
          exact q F5 σ _ ((s3.trans s4).trans s5) i8
        · exact False.elim q
      · exact False.elim q
    · split at q
      · rename_i hb
        exact absurd hb (by simp [beyond])
      · exact False.elim q
    · exact False.elim q
end PL
end

section
set_option maxRecDepth 100000
/-! PlSt3: several names at once. -/
namespace PL
open PySem PySem.Spec PyProof.Rows L2
variable {X : Cx} {C : Cf} {nt : NT} {n : Nat} {sc tg : Scope} {W : WX} {K : PySem.W.Frag} {σ : L2.St} {H : Hp}

/-- names stored one by one, each its own value -/
def tQs (K : PySem.W.Frag) (C : Cf) (p : Pat) : TGs := fun vs σ H Q => ∃ L F A T env xs T' env', Lko C L ∧ In K L F env σ H A (T' ++ T) ∧ IT σ xs vs T' ∧ parSet p xs env = some env' ∧ (slotsP p).all (free C.lk) = true ∧ ∀ σ', In K L F env' σ' H A T → Q σ' H
def namesP : Pat → Bool
  | .nil => true
  | .cons p ps => (match p with | .v _ => true | _ => false) && namesP ps
  | .v _ => false
/-- values alone: the slots do not matter -/
theorem IT.other {σ σ' : L2.St} {xs : List Item} {vs : List V} {T : List It} (h : IT σ xs vs T) (hv : (valsKD xs).isSome = true) : IT σ' xs vs T := by
  induction h with
  | nil => exact .nil
  | @val kd xs v vs T it ih =>
    refine .val (ih ?_)
    have hv : ((valsKD xs).map (kd :: ·)).isSome = true := hv
    cases e : valsKD xs with
    | none => rw [e] at hv; cases hv
    | some _ => rfl
  | slot _ _ => cases hv
theorem par_vals : ∀ {p : Pat} {xs : List Item} {env env' : Env}, namesP p = true → parSet p xs env = some env' → (valsKD xs).isSome = true
  | .nil, [], _, _, _, _ => rfl
  | .nil, _ :: _, _, _, _, h => by simp [parSet] at h
  | .v _, _, _, _, h, _ => by cases h
  | .cons (.v i) ps, [], _, _, _, h => by simp [parSet] at h
  | .cons (.v i) ps, .slot _ :: _, _, _, _, h => by simp [parSet] at h
  | .cons (.v i) ps, .val kd :: xs, env, env', hn, h => by
    have h : (if i < env.length then parSet ps xs (env.set i (some kd)) else none) = some env' := h
    split at h
    · have := par_vals (p := ps) hn h
      show ((valsKD xs).map (kd :: ·)).isSome = true
      cases e : valsKD xs with
      | none => rw [e] at this; cases this
      | some _ => rfl
    · cases h
  | .cons .nil ps, _, _, _, hn, _ => by cases hn
  | .cons (.cons _ _) ps, _, _, _, hn, _ => by cases hn
theorem pgs_par (G : Gd X C nt n sc tg) : ∀ (p : Pat) (es : List Expr), namesP p = true → ckPs X.N tg p es = true → PGs X es (tQs X.K C p)
  | .v i, es, hn, h => by cases hn
  | .nil, es, hn, h => by
    cases es with
    | cons e es => simp [ckPs] at h
    | nil =>
      refine PGs.mono pgs_nil fun vs σ H Q hw => ?_
      obtain ⟨L, F, A, T, env, xs, T', env', hl, hi, it, b, fr, q⟩ := hw
      cases xs with
      | cons d ds => cases d <;> simp [parSet] at b
      | nil =>
        have b : some env = some env' := by simpa only [parSet] using b
        cases b
        cases it
        exact ⟨rfl, q σ hi⟩
  | .cons .nil ps, es, hn, h => by cases hn
  | .cons (.cons _ _) ps, es, hn, h => by cases hn
  | .cons (.v i) ps, es, hn, h => by
    cases es with
    | nil => simp [ckPs] at h
    | cons e es =>
      simp only [ckPs, Bool.and_eq_true] at h
      obtain ⟨⟨h1, h2⟩, h3⟩ := h
      cases e with
      | Name x pos =>
        simp only [ckP, Bool.and_eq_true, decide_eq_true_eq] at h1
        obtain ⟨h4, h5⟩ := h1
        obtain ⟨hL, hF⟩ := G.tg x h5
        refine PGs.mono (pgs_cons (pg_name (pos := pos) G.nod h4 (by rw [G.esc]; exact hL) hF) (pgs_par G ps es hn h2) (by rw [assign_each h3]; rfl)) fun vs σ H Q hw => ?_
        obtain ⟨L, F, A, T, env, xs, T', env', hl, hi, it, b, fr, q⟩ := hw
        have vl := par_vals (p := .cons (.v i) ps) hn b
        cases xs with
        | nil => simp [parSet] at b
        | cons y xs =>
          cases y with
          | slot j => simp [parSet] at b
          | val kd =>
            cases it with
            | @val _ _ v vs T1 it =>
              have b : (if i < env.length then parSet ps xs (env.set i (some kd)) else none) = some env' := b
              split at b
              · rename_i hlt
                rw [slotsP, List.all_append, Bool.and_eq_true] at fr
                have i1 : In X.K L F (env.set i (some kd)) (σ.set i (some v)) H A (T1 ++ T) := In.put (T := T1 ++ T) hi hlt (slots_free (p := .v i) hl fr.1 (by simp [slotsP]))
                have vl2 : (valsKD xs).isSome = true := par_vals (p := ps) hn b
                exact ⟨v, vs, rfl, L, F, A, T, _, xs, T1, env', hl, i1, it.other vl2, b, fr.2, q⟩
              · cases b
      | _ => simp [ckP] at h1
theorem parE {p : Pat} {es : E} {D : Ends} (h : tS K C W (.par p es) D σ H) : tX K C W es σ H fun vs H1 => ∃ L F A T env xs T' env', Lko C L ∧ In K L F env σ H1 A (T' ++ T) ∧ IT σ xs vs T' ∧ parSet p xs env = some env' ∧ (slotsP p).all (free C.lk) = true ∧
    ∀ σ' H', In K L F env' σ' H' A T → D.nx σ' H' := by
  obtain ⟨L, F, A, T, env, hl, i, q⟩ := h
  refine exprS hl i (show PostS K C W L F A T ((evC C es env).bind fun xs env1 => if (slotsP p).all (free C.lk) then (match parSet p xs env1 with
    | some env2 => .ok .nx env2
    | none => .bad "par") else .bad "par locked") D from q) fun xs env' F' H' vs T' s it i' q => ?_
  split at q
  · rename_i hf
    cases e1 : parSet p xs env' with
    | none => simp only [e1] at q; exact False.elim q
    | some env2 =>
      simp only [e1] at q
      exact ⟨L, F', A, T, env', xs, T', env2, hl, i', it, e1, hf, fun σ' H2 i2 => q F' σ' H2 (Same.refl _) i2⟩
  · exact False.elim q
theorem In.alloc {L : List (Nat × V)} {F : Hp} {env : Env} {A : List Addr} {T : List It} {p : Addr} {o : HO} (i : In K L F env σ H A T) (hp : H p = none) : In K L F env σ (upd H p o) A T := by
  obtain ⟨I, si, ok, l⟩ := i
  exact ⟨I, si, (ok.alloc hp).dropA, l⟩
def lenP : Pat → Nat
  | .cons _ ps => lenP ps + 1
  | _ => 0
theorem par_len : ∀ {p : Pat} {xs : List Item} {env env' : Env}, namesP p = true → parSet p xs env = some env' → xs.length = lenP p
  | .nil, [], _, _, _, _ => rfl
  | .nil, _ :: _, _, _, _, h => by simp [parSet] at h
  | .v _, _, _, _, h, _ => by cases h
  | .cons (.v i) ps, [], _, _, _, h => by simp [parSet] at h
  | .cons (.v i) ps, .slot _ :: _, _, _, _, h => by simp [parSet] at h
  | .cons (.v i) ps, .val kd :: xs, env, env', hn, h => by
    have h : (if i < env.length then parSet ps xs (env.set i (some kd)) else none) = some env' := h
    split at h
    · exact congrArg (· + 1) (par_len (p := ps) hn h)
    · cases h
  | .cons .nil ps, _, _, _, hn, _ => by cases hn
  | .cons (.cons _ _) ps, _, _, _, hn, _ => by cases hn
theorem lenP_es : ∀ {p : Pat} {es : List Expr} {N : List Str} {tg : Scope}, namesP p = true → ckPs N tg p es = true → es.length = lenP p
  | .nil, [], _, _, _, _ => rfl
  | .nil, _ :: _, _, _, _, h => by simp [ckPs] at h
  | .v _, _, _, _, h, _ => by cases h
  | .cons _ ps, [], _, _, _, h => by simp [ckPs] at h
  | .cons p ps, e :: es, N, tg, hn, h => by
    simp only [ckPs, Bool.and_eq_true] at h
    have hn2 : namesP ps = true := by
      simp only [namesP, Bool.and_eq_true] at hn
      exact hn.2
    exact congrArg (· + 1) (lenP_es (p := ps) hn2 h.1.2)
/-- through a tuple -/
theorem tS_parT {p : Pat} {es : E} {D : Ends} (hn : namesP p = true) (hz : lenP p ≤ 100) (h : tS K C W (.par p es) D σ H) : tAsg (tTup (tX K C W es)) (gTup K (lenP p) (tQs K C p)) D σ H := by
  refine tX_imp (parE h) fun vs H1 q => ?_
  obtain ⟨L, F, A, T, env, xs, T', env', hl, hi, it, b, fr, q⟩ := q
  have e1 : vs.length = lenP p := it.length.trans (par_len hn b)
  refine ⟨by rw [e1]; exact Nat.le_trans hz (by decide), fun a ha => ⟨a, vs, rfl, .inl (.inl upd_same), e1, L, F, A, T, env, xs, T', env', hl, hi.alloc ha, it, b, fr, fun σ' i2 => q _ _ i2⟩⟩
/-- two names, their stores swapped -/
theorem tS_par2 {i j : Nat} {es : E} {D : Ends} (h : tS K C W (.par (.cons (.v i) (.cons (.v j) .nil)) es) D σ H) : tPar i j (tX K C W es) D σ H := by
  refine tX_imp (parE h) fun vs H1 q => ?_
  obtain ⟨L, F, A, T, env, xs, T', env', hl, hi, it, b, fr, q⟩ := q
  have fi := slots_free (p := .cons (.v i) (.cons (.v j) .nil)) (i := i) hl fr (by simp [slotsP])
  have fj := slots_free (p := .cons (.v i) (.cons (.v j) .nil)) (i := j) hl fr (by simp [slotsP])
  match xs, it, b with
  | [], _, b => simp [parSet] at b
  | [.slot _], _, b => simp [parSet] at b
  | [.val _], _, b => simp [parSet] at b
  | .slot _ :: _ :: _, _, b => simp [parSet] at b
  | .val _ :: .slot _ :: _, _, b => simp [parSet] at b
  | .val _ :: .val _ :: x :: _, _, b => cases x <;> simp [parSet] at b
  | [.val a, .val c], it2, b =>
    clear it
    cases it2 with
    | @val _ _ v _ _ it3 =>
      cases it3 with
      | @val _ _ w _ _ it4 =>
        cases it4
        simp only [parSet] at b
        split at b
        · rename_i h1
          split at b
          · rename_i h2
            cases b
            exact ⟨v, w, rfl, q _ _ (((hi : In K L F env σ H1 A ((v, a) :: (w, c) :: T)).put h1 fi).put h2 fj)⟩
          · cases b
        · cases b
theorem tS_par3 {i j k : Nat} {es : E} {D : Ends} (h : tS K C W (.par (.cons (.v i) (.cons (.v j) (.cons (.v k) .nil))) es) D σ H) : tPar3 i j k (tX K C W es) D σ H := by
  refine tX_imp (parE h) fun vs H1 q => ?_
  obtain ⟨L, F, A, T, env, xs, T', env', hl, hi, it, b, fr, q⟩ := q
  have fi := slots_free (p := .cons (.v i) (.cons (.v j) (.cons (.v k) .nil))) (i := i) hl fr (by simp [slotsP])
  have fj := slots_free (p := .cons (.v i) (.cons (.v j) (.cons (.v k) .nil))) (i := j) hl fr (by simp [slotsP])
  have fk := slots_free (p := .cons (.v i) (.cons (.v j) (.cons (.v k) .nil))) (i := k) hl fr (by simp [slotsP])
  have vl := par_vals (p := .cons (.v i) (.cons (.v j) (.cons (.v k) .nil))) rfl b
  have ln := par_len (p := .cons (.v i) (.cons (.v j) (.cons (.v k) .nil))) rfl b
  match xs, it, b, vl, ln with
  | [.val a, .val c, .val d], it2, b, _, _ =>
    clear it
    cases it2 with
    | @val _ _ v _ _ it3 =>
      cases it3 with
      | @val _ _ w _ _ it4 =>
        cases it4 with
        | @val _ _ u _ _ it5 =>
          cases it5
          simp only [parSet] at b
          split at b
          · rename_i h1
            split at b
            · rename_i h2
              split at b
              · rename_i h3
                cases b
                exact ⟨v, w, u, rfl, q _ _ ((((hi : In K L F env σ H1 A ((v, a) :: (w, c) :: (u, d) :: T)).put h1 fi).put h2 fj).put h3 fk)⟩
              · cases b
            · cases b
          · cases b
  | [], _, _, _, ln => cases ln
  | [_], _, _, _, ln => cases ln
  | [_, _], _, _, _, ln => cases ln
  | _ :: _ :: _ :: _ :: _, _, _, _, ln => simp [lenP] at ln
  | .slot _ :: _, _, _, vl, _ => cases vl
  | [.val _, .slot _, _], _, _, vl, _ => cases vl
  | [.val _, .val _, .slot _], _, _, vl, _ => cases vl
end PL
end

section
set_option maxRecDepth 100000
/-! PlSt4: the checker of statements; forms without errors. -/
namespace PL
open PySem PySem.Spec PyProof.Rows L2

def noComp : Expr → Bool
  | .ListComp _ _ _ _ => false
  | .SetComp _ _ _ _ => false
  | .DictComp _ _ _ _ _ => false
  | _ => true
theorem swap_no {x : Expr} {t : Option Expr} {l : Nat} {env : PySem.Env} (h : noComp x = true) : swapsWith x t l env = pure false := by
  cases x <;> first | rfl | cases h
def notTupE : Expr → Bool
  | .Tuple _ _ _ => false
  | _ => true
def stripT : Expr → Option (List Expr)
  | .Tuple es _ _ => some es
  | _ => none
theorem swapped_no {t x : Expr} {env : PySem.Env} (h : notTupE x = true) : swappedStores [t] x env = pure none := by
  unfold swappedStores
  cases x <;> first | (cases h; done) | (cases t <;> rfl)
theorem assign1 {t : Expr} {env : PySem.Env} (h : starless t = true) : (assignEach [t] env).map (·.2) = [assign t env] := by
  rw [assign_each h]; rfl
def asS1 : List Stmt → Option Stmt
  | [s] => some s
  | _ => none
theorem asS1_ok {xs : List Stmt} {x : Stmt} (h : asS1 xs = some x) : xs = [x] := by
  match xs, h with
  | [y], h => cases h; rfl
def isFn (sc : Scope) : Bool := match sc.kind with
  | .function => true
  | _ => false
theorem isFn_ok {sc : Scope} (h : isFn sc = true) : sc.kind = .function := by
  unfold isFn at h
  split at h
  · assumption
  · cases h
/-- a target's name, text, line -/
def asAsg : Stmt → Option (Expr × Expr × Pos)
  | .Assign ts x pos => (match ts with
    | [t] => some (t, x, pos)
    | _ => none)
  | _ => none
theorem asg_ok {s : Stmt} {t x : Expr} {pos : Pos} (h : asAsg s = some (t, x, pos)) : s = .Assign [t] x pos := by
  cases s <;> first | (cases h; done) | skip
  rename_i ts x' pos'
  match ts, h with
  | [t'], h => cases h; rfl
def asNameP : Expr → Option (Str × Pos)
  | .Name x p => some (x, p)
  | _ => none
theorem nameP_ok {x : Expr} {y : Str} {p : Pos} (h : asNameP x = some (y, p)) : x = .Name y p := by
  cases x <;> first | (cases h; done) | skip
  cases h
  rfl
def asRet : Stmt → Option (Option Expr)
  | .Return x _ => some x
  | _ => none
theorem ret_ok {s : Stmt} {x : Option Expr} (h : asRet s = some x) : ∃ p, s = .Return x p := by
  cases s <;> first | (cases h; done) | skip
  cases h
  exact ⟨_, rfl⟩
def asIfS : Stmt → Option (Expr × List Stmt × List Stmt)
  | .If c a b _ => some (c, a, b)
  | _ => none
theorem ifS_ok {s : Stmt} {c : Expr} {a b : List Stmt} (h : asIfS s = some (c, a, b)) : ∃ p, s = .If c a b p := by
  cases s <;> first | (cases h; done) | skip
  cases h
  exact ⟨_, rfl⟩
def asFor : Stmt → Option (Expr × Expr × List Stmt)
  | .For t x b o _ => (match o with
    | [] => some (t, x, b)
    | _ => none)
  | _ => none
theorem for_ok {s : Stmt} {t x : Expr} {b : List Stmt} (h : asFor s = some (t, x, b)) : ∃ p, s = .For t x b [] p := by
  cases s <;> first | (cases h; done) | skip
  rename_i t' x' b' o p
  cases o with
  | nil => cases h; exact ⟨_, rfl⟩
  | cons _ _ => cases h
def asWhile : Stmt → Option (Expr × List Stmt)
  | .While c b o _ => (match o with
    | [] => some (c, b)
    | _ => none)
  | _ => none
theorem while_ok {s : Stmt} {c : Expr} {b : List Stmt} (h : asWhile s = some (c, b)) : ∃ p, s = .While c b [] p := by
  cases s <;> first | (cases h; done) | skip
  rename_i c' b' o p
  cases o with
  | nil => cases h; exact ⟨_, rfl⟩
  | cons _ _ => cases h
def asExprS : Stmt → Option Expr
  | .Expr x _ => some x
  | _ => none
theorem exprS_ok {s : Stmt} {x : Expr} (h : asExprS s = some x) : ∃ p, s = .Expr x p := by
  cases s <;> first | (cases h; done) | skip
  cases h
  exact ⟨_, rfl⟩
def isBrk : Stmt → Bool
  | .Break _ => true
  | _ => false
def isCnt : Stmt → Bool
  | .Continue _ => true
  | _ => false
def isPass : Stmt → Bool
  | .Pass _ => true
  | _ => false
theorem brk_ok {s : Stmt} (h : isBrk s = true) : ∃ p, s = .Break p := by
  cases s <;> first | (cases h; done) | exact ⟨_, rfl⟩
theorem cnt_ok {s : Stmt} (h : isCnt s = true) : ∃ p, s = .Continue p := by
  cases s <;> first | (cases h; done) | exact ⟨_, rfl⟩
theorem pass_ok {s : Stmt} (h : isPass s = true) : ∃ p, s = .Pass p := by
  cases s <;> first | (cases h; done) | exact ⟨_, rfl⟩

variable {C : Cf} {nt : NT}
/-- what is promised of a statement -/
structure Sn (X : Cx) (C : Cf) (W : WX) (s : S) (sts : List Stmt) : Prop where
  ss : PSs X sts (tS X.K C W s)
  s1 : ∀ st, sts = [st] → PS X st (tS X.K C W s)
theorem Sn.of {X : Cx} {W : WX} {s : S} {st : Stmt} (h : PS X st (tS X.K C W s)) : Sn X C W s [st] := ⟨pss_one h, fun st e => by cases e; exact h⟩
variable {X : Cx} {n : Nat} {sc tg : Scope} {W : WX}
theorem sn_skip {sts : List Stmt} (h : (match asS1 sts with | some s => isPass s | none => sts.isEmpty) = true) : Sn X C W .skip sts := by
  split at h
  · rename_i s e
    have e2 := asS1_ok e
    obtain ⟨p, e3⟩ := pass_ok h
    subst e2 e3
    exact Sn.of (PS.mono ps_pass fun D σ H q => tS_skip q)
  · cases sts with
    | nil => exact ⟨PSs.mono pss_nil fun D σ H q => tS_skip q, fun st e => nomatch e⟩
    | cons _ _ => cases h
theorem sn_seq {a b : S} {st : Stmt} {r : List Stmt} (ha : PS X st (tS X.K C W a)) (hb : PSs X r (tS X.K C W b)) (hr : r ≠ []) : Sn X C W (.seq a b) (st :: r) :=
  ⟨PSs.mono (pss_cons ha hb) fun D σ H q => tS_seq q, fun s e => by cases e; exact absurd rfl hr⟩
theorem sn_ret {e : E} {x : Expr} {pos : Pos} (h : PE X x (tE X.K C W e)) : Sn X C W (.ret e) [.Return (some x) pos] := Sn.of (PS.mono (ps_ret h) fun D σ H q => tS_ret q)
theorem sn_retN {pos : Pos} : Sn X C W .retN [.Return none pos] := Sn.of (PS.mono ps_retN fun D σ H q => tS_retN q)
theorem sn_brk {pos : Pos} : Sn X C W .brk [.Break pos] := Sn.of (PS.mono ps_break fun D σ H q => tS_brk q)
theorem sn_cnt {pos : Pos} : Sn X C W .cnt [.Continue pos] := Sn.of (PS.mono ps_continue fun D σ H q => tS_cnt q)
theorem sn_expr {e : E} {x : Expr} {pos : Pos} (hx : noComp x = true) (h : PE X x (tE X.K C W e)) : Sn X C W (.expr e) [.Expr x pos] := Sn.of (PS.mono (ps_expr h (swap_no hx)) fun D σ H q => tS_expr q)
theorem sn_ite {c : E} {a b : S} {x : Expr} {as bs : List Stmt} {pos : Pos} (hc : PT X x (tT X.K C W c)) (ha : PSs X as (tS X.K C W a)) (hb : PSs X bs (tS X.K C W b)) : Sn X C W (.ite c a b) [.If x as bs pos] := Sn.of (PS.mono (ps_if hc ha hb) fun D σ H q => tS_ite q)
theorem sn_for {p : Pat} {it : E} {b : S} {t x : Expr} {bs : List Stmt} {pos : Pos} (po : PassesOwn (model X.prog X.w) X.A X.env X.xe) (hc : X.calm = true) (hi : PI X t x (tI X.K C W it)) (hg : PG X t (tP X.K C p)) (hb : PSs X bs (tS X.K C W b)) (hn : noSet x = true) :
    Sn X C W (.for_ p it b) [.For t x bs [] pos] := Sn.of (PS.mono (ps_for po hc hi hg hb (fold_off hn)) fun D σ H q => tS_for q)
theorem sn_while {c : E} {b : S} {x : Expr} {bs : List Stmt} {pos : Pos} (po : PassesOwn (model X.prog X.w) X.A X.env X.xe) (hc : PT X x (tT X.K C W c)) (hb : PSs X bs (tS X.K C W b)) : Sn X C W (.while_ c b) [.While x bs [] pos] := Sn.of (PS.mono (ps_while po hc hb) fun D σ H q => tS_while q)
theorem sn_set (G : Gd X C nt n sc tg) {i : Nat} {e : E} {y : Str} {p pos : Pos} {x : Expr} (h1 : X.N[i]? = some y) (h2 : isTg tg y = true) (h : PE X x (tE X.K C W e)) (hs : swapsWith x (some (.Name y p)) pos.line X.env = pure false) : Sn X C W (.set i e) [.Assign [.Name y p] x pos] := by
  obtain ⟨hL, hF⟩ := G.tg y h2
  exact Sn.of (PS.mono (ps_set G.nod h1 (by rw [G.esc]; exact hL) h hs hF) fun D σ H q => tS_set q)
theorem sn_asg (G : Gd X C nt n sc tg) {p : Pat} {e : E} {t x : Expr} {pos : Pos} (ht : isTup t = true) (hc : ckP X.N tg p t = true) (h : PE X x (tE X.K C W e)) (hx : noComp x = true) (hx2 : notTupE x = true) : Sn X C W (.asg p e) [.Assign [t] x pos] := by
  have st : starless t = true := by cases t <;> first | rfl | cases ht
  exact Sn.of (PS.mono (ps_asg h (pg_pat G p t hc) (swap_no hx) (swapped_no hx2) (assign1 st)) fun D σ H q => tS_asg q)
theorem sn_append (G : Gd X C nt n sc tg) {i : Nat} {e : E} {y : Str} {p apos cpos pos : Pos} {x : Expr} (h1 : slotOk X.N sc i y = true) (sx : starless x = true) (hp : (apos.endLine == cpos.line) = true) (h : PE X x (tE X.K C W e)) :
    Sn X C W (.append i e) [.Expr (.Call (.Attribute (.Name y p) ("append" : Str) apos) [x] [] cpos) pos] := by
  have hst : (((backTo cpos (starEach [x] X.env)).all fun x => !x.1) && ((backToKw cpos (keywordEach [] X.env)).all fun x => x.1.isSome) && decide (([x] : List Expr).length + ([] : List Keyword).length + (if ([] : List Keyword).isEmpty = true then 0 else 1) < 30)) = true := by
    rw [starless_each sx]
    rfl
  exact Sn.of (PS.mono (ps_expr (pe_bm PySem.F.plainAttrs_list PySem.F.slot_list_append PySem.F.type_list_append mt_append (pe_slot G h1) (pa_cons h pa_nil (starless_each sx)) rfl hst hp (starless_each sx) rfl) rfl) fun D σ H q => tS_append q)
theorem sn_setix (G : Gd X C nt n sc tg) {i : Nat} {ix e : E} {y : Str} {p pos tpos : Pos} {u x : Expr} (h1 : slotOk X.N sc i y = true) (hu : ixOk u = true) (hi : PE X u (tE X.K C W ix)) (h : PE X x (tE X.K C W e)) (hx : noComp x = true) :
    Sn X C W (.setix i ix e) [.Assign [.Subscript (.Name y p) u tpos] x pos] := by
  have hps := pg_sub (X := X) (pos := tpos) (pe_slot (pos := p) G h1) hi set_list (by cases u <;> first | (intro v; rfl) | cases hu)
  exact Sn.of (PS.mono (ps_asg h hps (show swapsWith x (some (.Subscript (.Name y p) u tpos)) pos.line X.env = pure false from swap_no hx) (by unfold swappedStores; cases x <;> rfl) (by rfl)) fun D σ H q => tS_setix q)
end PL
end

section
set_option maxRecDepth 100000
/-! PlSt5: a name set to a comprehension on one line; several names at once. -/
namespace PL
open PySem PySem.Spec PyProof.Rows L2
variable {C : Cf} {nt : NT} {X : Cx} {n : Nat} {sc tg : Scope} {W : WX}

/-- a comprehension's parts -/
theorem comp_parts {m : Nat} {e : E} {p : Pat} {it c : E} (G : Gd X C nt n sc tg) (tk : Takes X W) {elt t iter : Expr} {ifs : List Expr} {scope : Scope} {pp : Pos}
    (h : ck nt C.lk X.N (.comp m e p it c) sc tg [.ListComp elt [⟨t, iter, ifs, 0⟩] scope pp] = true) :
    ∃ tt, BlkOk X.N X.env.scope scope (ownOf X.N p) ∧ PI X t iter (tI X.K C W it) ∧ noSet iter = true ∧
      (∀ (s : Shared) (H : Hp) (Ca : Addr) (cl : List (Str × Addr)) (fp : List Addr), PG (X.blk s H scope (compEnvC scope cl Ca X.env) fp) t (tP X.K C p)) ∧
      (∀ (s : Shared) (H : Hp) (Ca : Addr) (cl : List (Str × Addr)) (fp : List Addr), PTs (X.blk s H scope (compEnvC scope cl Ca X.env) fp) ifs tt) ∧
      (∀ (s : Shared) (H : Hp) (Ca : Addr) (cl : List (Str × Addr)) (fp : List Addr), PE (X.blk s H scope (compEnvC scope cl Ca X.env) fp) elt (tE X.K C W0 e)) ∧
      ∀ σ H Q, tE X.K C W (.comp m e p it c) σ H Q → tLc (tI X.K C W it) (tP X.K C p) tt (tE X.K C W0 e) (slotsP p) σ H Q := by
  have h : (one e && (slotsP p).all (free C.lk) && ckP X.N scope p t && blkC X.N sc scope (ownOf X.N p) && itOk it t && noSet iter && ck nt C.lk X.N it sc tg [iter] && ck nt C.lk X.N e (relS scope sc) scope [elt] &&
        (match as1 ifs with
        | some u => one c && tst u && ck nt C.lk X.N c (relS scope sc) scope [u]
        | none => ifs.isEmpty && isNilE c)) = true := h
  simp only [Bool.and_eq_true] at h
  obtain ⟨⟨⟨⟨⟨⟨⟨⟨h1, h2⟩, h3⟩, h4⟩, h5⟩, h6⟩, h7⟩, h8⟩, h9⟩ := h
  have ok : BlkOk X.N X.env.scope scope (ownOf X.N p) := by rw [G.esc]; exact blkOk_by h4
  have B : ∀ (s : Shared) (H : Hp) (Ca : Addr) (cl : List (Str × Addr)) (fp : List Addr), Gd (X.blk s H scope (compEnvC scope cl Ca X.env) fp) C nt n (relS scope sc) scope := fun s H Ca cl fp => G.blk s H Ca cl fp
  have main : ∀ {tt : TT}, (∀ (s : Shared) (H : Hp) (Ca : Addr) (cl : List (Str × Addr)) (fp : List Addr), PTs (X.blk s H scope (compEnvC scope cl Ca X.env) fp) ifs tt) → ((c = .nil ∧ tt = tYes) ∨ ((∀ f, condOf c f = some f) ∧ tt = tT X.K C W0 c)) → _ := fun {tt} hts hcc =>
    (⟨tt, ok, (Sd.at (snd it) G tk (W := W) h7).pi t h5, h6, fun s H Ca cl fp => pg_pat (B s H Ca cl fp) p t h3, hts, fun s H Ca cl fp => (Sd.at (snd e) (B s H Ca cl fp) takes0 h8).pe h1, fun σ H Q q => tE_comp h1 h2 hcc q⟩ :
    ∃ tt, BlkOk X.N X.env.scope scope (ownOf X.N p) ∧ PI X t iter (tI X.K C W it) ∧ noSet iter = true ∧
      (∀ (s : Shared) (H : Hp) (Ca : Addr) (cl : List (Str × Addr)) (fp : List Addr), PG (X.blk s H scope (compEnvC scope cl Ca X.env) fp) t (tP X.K C p)) ∧
      (∀ (s : Shared) (H : Hp) (Ca : Addr) (cl : List (Str × Addr)) (fp : List Addr), PTs (X.blk s H scope (compEnvC scope cl Ca X.env) fp) ifs tt) ∧
      (∀ (s : Shared) (H : Hp) (Ca : Addr) (cl : List (Str × Addr)) (fp : List Addr), PE (X.blk s H scope (compEnvC scope cl Ca X.env) fp) elt (tE X.K C W0 e)) ∧
      ∀ σ H Q, tE X.K C W (.comp m e p it c) σ H Q → tLc (tI X.K C W it) (tP X.K C p) tt (tE X.K C W0 e) (slotsP p) σ H Q)
  cases e4 : as1 ifs with
  | none =>
    rw [e4] at h9
    have h9 : (ifs.isEmpty && isNilE c) = true := h9
    rw [Bool.and_eq_true] at h9
    obtain ⟨h10, h11⟩ := h9
    have ec := nilE h11
    cases ifs with
    | cons _ _ => cases h10
    | nil => exact main (fun _ _ _ _ _ => pts_nil) (.inl ⟨ec, rfl⟩)
  | some u =>
    rw [e4] at h9
    have e5 := as1_ok e4
    have h9 : (one c && tst u && ck nt C.lk X.N c (relS scope sc) scope [u]) = true := h9
    simp only [Bool.and_eq_true] at h9
    obtain ⟨⟨h10, h11⟩, h12⟩ := h9
    subst e5
    exact main (fun s H Ca cl fp => pts_one ((Sd.at (snd c) (B s H Ca cl fp) takes0 h12).pt h10 h11)) (.inr ⟨cond_ok h10, rfl⟩)
/-- does the block take its name's place -/
def swapB (sc : Scope) (y : Str) (py : Pos) (x : Expr) : Bool := match x with
  | .ListComp _ _ scope pos => isFn sc && decide (sc.names.lookup y = some .local) && (py.line == pos.line) && !(scope.names.any fun (n, k) => n == y && (k == .local || k == .cell))
  | _ => false
/-- its block's names do not hide the name, or the name is no local, or on another line -/
def swapOk (sc : Scope) (y : Str) (py : Pos) (x : Expr) : Bool := match x with
  | .ListComp _ _ scope pos => !(decide (sc.names.lookup y = some .local)) || !(py.line == pos.line) || (scope.names.any fun (n, k) => n == y && (k == .local || k == .cell))
  | x => noComp x
theorem swapOk_ok (G : Gd X C nt n sc tg) {y : Str} {py : Pos} {x : Expr} {l : Nat} (h : swapOk sc y py x = true) : swapsWith x (some (.Name y py)) l X.env = pure false := by
  cases x with
  | ListComp elt gs scope pos =>
    show pure (X.env.blockKind == .function && X.env.kindOf y == some .local && py.line == pos.line && !(scope.names.any fun (n, k) => n == y && (k == .local || k == .cell))) = (pure false : Sem Bool)
    congr 1
    have h : (!(decide (sc.names.lookup y = some .local)) || !(py.line == pos.line) || (scope.names.any fun (n, k) => n == y && (k == .local || k == .cell))) = true := h
    rw [Bool.or_eq_true, Bool.or_eq_true, Bool.not_eq_true', Bool.not_eq_true', decide_eq_false_iff_not] at h
    rcases h with (h | h) | h
    · have e : (X.env.kindOf y == some .local) = false := by
        rw [show X.env.kindOf y = sc.names.lookup y from by unfold PySem.Env.kindOf; rw [G.esc]]
        exact beq_eq_false_iff_ne.mpr h
      rw [e]; simp
    · rw [h]; simp
    · rw [h]; simp
  | SetComp _ _ _ _ => cases h
  | DictComp _ _ _ _ _ => cases h
  | _ => rfl
theorem sn_setLc (G : Gd X C nt n sc tg) (tk : Takes X W) {i m : Nat} {e it c : E} {p : Pat} {y : Str} {py spos pp : Pos} {elt t iter : Expr} {ifs : List Expr} {scope : Scope} (h1 : X.N[i]? = some y)
    (h2 : swapB sc y py (.ListComp elt [⟨t, iter, ifs, 0⟩] scope pp) = true) (h : ck nt C.lk X.N (.comp m e p it c) sc tg [.ListComp elt [⟨t, iter, ifs, 0⟩] scope pp] = true) :
    Sn X C W (.set i (.comp m e p it c)) [.Assign [.Name y py] (.ListComp elt [⟨t, iter, ifs, 0⟩] scope pp) spos] := by
  have h2 : (isFn sc && decide (sc.names.lookup y = some .local) && (py.line == pp.line) && !(scope.names.any fun (n, k) => n == y && (k == .local || k == .cell))) = true := h2
  rw [Bool.and_eq_true, Bool.and_eq_true, Bool.and_eq_true, decide_eq_true_eq, Bool.not_eq_true'] at h2
  obtain ⟨⟨⟨k1, k2⟩, k3⟩, k4⟩ := h2
  obtain ⟨tt, ok, hi, hn, hg, ht, he, rd⟩ := comp_parts (W := W) G tk h
  have kl : X.env.scope.names.lookup y = some .local := by rw [G.esc]; exact k2
  have r := ps_setLc (spos := spos) G.calm G.nod h1 kl (sw_true (by rw [G.esc]; exact isFn_ok k1) kl k3 k4) hi ok hg ht he (fold_off hn)
  rw [own_slots] at r
  refine Sn.of (PS.mono r fun D σ H q => ?_)
  exact rd _ _ _ (tS_set q)
theorem sn_setLc2 (G : Gd X C nt n sc tg) (tk : Takes X W) {i : Nat} {e it c it2 c2 : E} {p p2 : Pat} {y : Str} {py spos pp : Pos} {elt t iter t2 iter2 : Expr} {ifs ifs2 : List Expr} {scope : Scope} (h1 : X.N[i]? = some y)
    (h2 : swapB sc y py (.ListComp elt [⟨t, iter, ifs, 0⟩, ⟨t2, iter2, ifs2, 0⟩] scope pp) = true) (h : ck nt C.lk X.N (.comp2 e p it c p2 it2 c2) sc tg [.ListComp elt [⟨t, iter, ifs, 0⟩, ⟨t2, iter2, ifs2, 0⟩] scope pp] = true) :
    Sn X C W (.set i (.comp2 e p it c p2 it2 c2)) [.Assign [.Name y py] (.ListComp elt [⟨t, iter, ifs, 0⟩, ⟨t2, iter2, ifs2, 0⟩] scope pp) spos] := by
  have h2 : (isFn sc && decide (sc.names.lookup y = some .local) && (py.line == pp.line) && !(scope.names.any fun (n, k) => n == y && (k == .local || k == .cell))) = true := h2
  rw [Bool.and_eq_true, Bool.and_eq_true, Bool.and_eq_true, decide_eq_true_eq, Bool.not_eq_true'] at h2
  obtain ⟨⟨⟨k1, k2⟩, k3⟩, k4⟩ := h2
  obtain ⟨tt, tt2, ok, pit, n1, n2, B, rd⟩ := parts2 (W := W) (snd e) (snd it) (snd c) (snd it2) (snd c2) G tk h
  have kl : X.env.scope.names.lookup y = some .local := by rw [G.esc]; exact k2
  have r := ps_setLc2 (spos := spos) G.calm G.nod h1 kl (sw_true (by rw [G.esc]; exact isFn_ok k1) kl k3 k4) pit ok (vs1 := slotsP p2) (fun i hi => by rw [own2_slots]; exact List.mem_append_right _ hi) (fun s H Ca cl fp => (B s H Ca cl fp).1) (fun s H Ca cl fp => (B s H Ca cl fp).2.2.1) (fun s H Ca cl fp => (B s H Ca cl fp).2.2.2.2.1)
      (fun s H Ca cl fp => (B s H Ca cl fp).2.1) (fun s H Ca cl fp => (B s H Ca cl fp).2.2.2.1) (fun s H Ca cl fp => (B s H Ca cl fp).2.2.2.2.2) (fold_off n1) (fun env => fold_off n2)
  rw [own2_slots] at r
  refine Sn.of (PS.mono r fun D σ H q => ?_)
  exact rd (tS_set q)
end PL
end

section
set_option maxRecDepth 100000
/-! PlSt6: several names at once, their texts. -/
namespace PL
open PySem PySem.Spec PyProof.Rows L2
variable {C : Cf} {nt : NT} {X : Cx} {n : Nat} {sc tg : Scope} {W : WX}

def lnOf (ts : List Expr) : Nat := (ts.head?.map (·.pos.line)).getD 0
def nmOf (k : Str → Option NameKind) (line : Nat) (ts : List Expr) : List Str := ts.filterMap fun
  | .Name id pos => if k id == some .local && pos.line == line then some id else none
  | _ => none
def anyStar (vs : List Expr) : Bool := vs.any fun | .Starred .. => true | _ => false
/-- which names the stores are swapped for (none: unknown to the model) -/
def swSpec (bk : Bool) (k : Str → Option NameKind) (ts vs : List Expr) : Option (Option (List Str)) :=
  if (!(ts.length == 2 || ts.length == 3) || vs.length != ts.length || !bk) = true then some none else
  if anyStar vs = true then some none else
  if ((nmOf k (lnOf ts) ts).length != ts.length || (nmOf k (lnOf ts) ts).eraseDups.length != (nmOf k (lnOf ts) ts).length) = true then some none else
  if vs.all (foldedForSure 8) = true then some none else
  if vs.all (constantsAlone 8) = true then none else some (some (nmOf k (lnOf ts) ts))
theorem swSpec_ok {ts vs : List Expr} {kt kv : Nat} {pt pv : Pos} {env : PySem.Env} {r : Option (List Str)} (h : swSpec (env.blockKind == .function) env.kindOf ts vs = some r) : swappedStores [.Tuple ts kt pt] (.Tuple vs kv pv) env = pure r := by
  have e0 : (env.blockKind != .function) = !(env.blockKind == .function) := rfl
  unfold swappedStores
  dsimp only
  rw [e0]
  unfold swSpec at h
  split at h
  · rename_i h1
    cases h
    rw [if_pos h1]
  · rename_i h1
    rw [if_neg h1]
    split at h
    · rename_i h2
      cases h
      exact if_pos h2
    · rename_i h2
      refine (if_neg h2).trans ?_
      split at h
      · rename_i h3
        cases h
        exact if_pos h3
      · rename_i h3
        refine (if_neg h3).trans ?_
        split at h
        · rename_i h4
          cases h
          exact if_pos h4
        · rename_i h4
          refine (if_neg h4).trans ?_
          split at h
          · cases h
          · rename_i h5
            cases h
            exact if_neg h5
theorem sw_of (G : Gd X C nt n sc tg) (hf : isFn sc = true) {ts vs : List Expr} {kt kv : Nat} {pt pv : Pos} {r : Option (List Str)} (h : swSpec true (fun x => sc.names.lookup x) ts vs = some r) : swappedStores [.Tuple ts kt pt] (.Tuple vs kv pv) X.env = pure r := by
  refine swSpec_ok ?_
  have e1 : (X.env.blockKind == .function) = true := by
    have : X.env.blockKind = .function := by
      unfold PySem.Env.blockKind
      rw [G.esc, isFn_ok hf]
      rfl
    rw [this]; rfl
  have e2 : X.env.kindOf = fun x => sc.names.lookup x := by
    funext x
    unfold PySem.Env.kindOf
    rw [G.esc]
  rw [e1, e2]
  exact h
theorem sn_parT (G : Gd X C nt n sc tg) {p : Pat} {es : E} {ts vs : List Expr} {kt kv : Nat} {pt pv pos : Pos} (hf : isFn sc = true) (hs : swSpec true (fun x => sc.names.lookup x) ts vs = some none) (hn : namesP p = true) (hz : lenP p ≤ 100) (hc : ckPs X.N tg p ts = true)
    (ha : PA X vs (tX X.K C W es)) : Sn X C W (.par p es) [.Assign [.Tuple ts kt pt] (.Tuple vs kv pv) pos] := by
  have hl := lenP_es hn hc
  have g := pg_tup (pos := pt) (k := kt) G.calm (pgs_par (C := C) G p ts hn hc) (n := lenP p) (by rw [assign_len, hl]) (assign_none (ckPs_star hc))
  exact Sn.of (PS.mono (ps_asg (pe_tup ha) g (by rfl) (sw_of G hf hs) (by rfl)) fun D σ H q => tS_parT hn hz q)
theorem sn_par2 (G : Gd X C nt n sc tg) {i j : Nat} {es : E} {x y : Str} {px py : Pos} {a b : Expr} {kt kv : Nat} {pt pv pos : Pos} (hf : isFn sc = true) (hs : swSpec true (fun x => sc.names.lookup x) [.Name x px, .Name y py] [a, b] = some (some [x, y]))
    (hi : X.N[i]? = some x) (hj : X.N[j]? = some y) (hij : i ≠ j) (lx : sc.names.lookup x = some .local) (ly : sc.names.lookup y = some .local) (ha : PA X [a, b] (tX X.K C W es)) :
    Sn X C W (.par (.cons (.v i) (.cons (.v j) .nil)) es) [.Assign [.Tuple [.Name x px, .Name y py] kt pt] (.Tuple [a, b] kv pv) pos] :=
  Sn.of (PS.mono (ps_par G.calm G.nod hi hj hij (by rw [G.esc]; exact lx) (by rw [G.esc]; exact ly) ha (sw_of G hf hs) (by rfl)) fun D σ H q => tS_par2 q)
theorem sn_par3 (G : Gd X C nt n sc tg) {i j l : Nat} {es : E} {x y z : Str} {px py pz : Pos} {a b c : Expr} {kt kv : Nat} {pt pv pos : Pos} (hf : isFn sc = true) (hs : swSpec true (fun x => sc.names.lookup x) [.Name x px, .Name y py, .Name z pz] [a, b, c] = some (some [x, y, z]))
    (hi : X.N[i]? = some x) (hj : X.N[j]? = some y) (hl : X.N[l]? = some z) (hij : i ≠ j) (hil : i ≠ l) (hjl : j ≠ l) (lx : sc.names.lookup x = some .local) (ly : sc.names.lookup y = some .local) (lz : sc.names.lookup z = some .local) (ha : PA X [a, b, c] (tX X.K C W es)) :
    Sn X C W (.par (.cons (.v i) (.cons (.v j) (.cons (.v l) .nil))) es) [.Assign [.Tuple [.Name x px, .Name y py, .Name z pz] kt pt] (.Tuple [a, b, c] kv pv) pos] :=
  Sn.of (PS.mono (ps_par3 G.calm G.nod hi hj hl hij hil hjl (by rw [G.esc]; exact lx) (by rw [G.esc]; exact ly) (by rw [G.esc]; exact lz) ha (sw_of G hf hs) (by rfl)) fun D σ H q => tS_par3 q)
end PL
end

section
set_option maxRecDepth 100000
/-! PlSt7: raise and try: what the evaluator gives serves the rules. -/
namespace PL
open PySem PySem.Spec PyProof.Rows L2
variable {X : Cx} {C : Cf} {nt : NT} {n : Nat} {sc tg : Scope} {W : WX} {K : PySem.W.Frag} {σ : L2.St} {H : Hp}

theorem tS_raise0 {c : Nat} {ca : Addr} {cd : ClsDef} {D : Ends} (e1 : C.cad c = some ca) (e2 : C.cls c = some cd) (e3 : cd.fld = none) (h : tS K C W (.raise c .nil) D σ H) : W (.ref ca) none σ H := by
  obtain ⟨L, F, A, T, env, hl, i, p⟩ := h
  have p : ∀ F' σ' H' cls dd, Same F F' → In K L F' env σ' H' A T → ExR K C F' H' ⟨c, none⟩ cls dd → W cls dd σ' H' := p
  refine p F σ H (.ref ca) none (Same.refl _) i ⟨ca, cd, e1, e2, rfl, ?_⟩
  rw [e3]
theorem exprQ {e : E} {L : List (Nat × V)} {F : Hp} {A : List Addr} {T : List It} {env : Env} {f : List Item → Env → R Flow} {D : Ends} {Q : List V → Hp → Prop} (hl : Lko C L) (i : In K L F env σ H A T)
    (h : PostS K C W L F A T ((evC C e env).bind f) D) (k : ∀ xs env' F' H' vs T', evC C e env = .ok xs env' → Same F F' → IT σ xs vs T' → In K L F' env' σ H' A (T' ++ T) → PostS K C W L F' A T (f xs env') D → Q vs H') : tX K C W e σ H Q := by
  refine ⟨L, F, A, T, env, hl, i, ?_⟩
  cases r : evC C e env with
  | bad m => rw [r] at h; exact h
  | exc x env' =>
    rw [r] at h
    exact fun F' H' cls dd s i' ex => h F' σ H' cls dd s i' ex
  | ok xs env' =>
    rw [r] at h
    exact fun F' H' s vs T' it i' => k xs env' F' H' vs T' r s it i' (PostS.mono h s)
theorem one1 {e : E} (h : one e = true) {env env' : Env} {xs : List Item} (q : evC C (.cons e .nil) env = .ok xs env') : ∃ x, xs = [x] := by
  have q : ((evC C e env).bind fun xs env1 => (R.ok [] env1).bind fun ys env2 => R.ok (xs ++ ys) env2) = .ok xs env' := q
  cases r : evC C e env with
  | bad m => rw [r] at q; cases q
  | exc x env' => rw [r] at q; cases q
  | ok ys env2 =>
    rw [r] at q
    obtain ⟨x, ex⟩ := one_of h _ _ _ r
    subst ex
    cases q
    exact ⟨x, rfl⟩
theorem tS_raise1 {c : Nat} {ca : Addr} {cd : ClsDef} {f : Str} {e : E} {D : Ends} (e1 : C.cad c = some ca) (e2 : C.cls c = some cd) (e3 : cd.fld = some f) (h1 : one e = true) (h : tS K C W (.raise c (.cons e .nil)) D σ H) :
    tMkI ca f (tX K C W (.cons e .nil)) σ H (fun cls d H' => W cls d σ H') := by
  obtain ⟨L, F, A, T, env, hl, i, p⟩ := h
  refine exprQ (f := fun xs env1 => match xs with
    | [] => .exc ⟨c, none⟩ env1
    | [.val (_, d)] => .exc ⟨c, some d⟩ env1
    | _ => .bad "raise") hl i p fun xs env' F' H' vs T' er s it i' q => ?_
  obtain ⟨x0, ex0⟩ := one1 h1 er
  subst ex0
  clear er
  match x0, it, q with
  | .slot _, _, q => exact q.elim
  | .val (k, d), it, q =>
    cases it with
    | @val _ _ v _ _ it2 =>
      cases it2
      refine ⟨v, rfl, fun dx hdx => ?_⟩
      have q : ∀ F2 σ2 H2 cls dd, Same F' F2 → In K L F2 env' σ2 H2 A T → ExR K C F2 H2 ⟨c, some d⟩ cls dd → W cls dd σ2 H2 := q
      obtain ⟨I, si, o, lk⟩ := i'
      have o1 : Ok K F' H' A ((v, (k, d)) :: (I ++ T)) := o.perm List.perm_middle
      obtain ⟨F2, s2, o2⟩ := o1.lower (Nat.zero_le k)
      have o3 := (o2.drop.alloc (o := .xd [(f, v)]) hdx).dropA
      refine q F2 σ _ (.ref ca) (some dx) s2 ⟨I, si, o3, lk⟩ ⟨ca, cd, e1, e2, rfl, ?_⟩
      rw [e3]
      exact ⟨dx, v, rfl, upd_same, o2.rp⟩

/-! ### try -/
def isStrP : HP → Bool
  | .str _ => true
  | _ => false
def strLen : HP → Bool
  | .str x => decide (x.length ≤ maxLen)
  | .isi b => isBase b
  | _ => true
def slot0 (h : Hd) : Nat := h.slot.getD 0
def valT (K : PySem.W.Frag) (h : Hd) (ca a : Addr) (cls : Value) (d : Option Addr) : TE := if h.isList = true then tLst (tPts K a cls d ca (slot0 h) h.ps) else match h.ps with
  | [q] => tPt K a cls d ca (slot0 h) q
  | _ => fun _ _ _ => False
def suiteT (K : PySem.W.Frag) (h : Hd) (ca : Addr) : SuiteT := fun a cls d => match h.dest with
  | some j => tAsg (valT K h ca a cls d) (gName j)
  | none => tRet (valT K h ca a cls d)
/-- a clause as data and as a rule's clause -/
structure HdRel (K : PySem.W.Frag) (C : Cf) (h : Hd) (l : ClauseT) : Prop where
  slot : l.slot = h.slot
  cls : ∃ ca cd, C.cad h.c = some ca ∧ C.cls h.c = some cd ∧ l.c = .ref ca ∧ l.ts = suiteT K h ca ∧ PySem.W.kitOne K (.ref ca) (.type "ValueError") = some (cd.base == "ValueError") ∧ PySem.W.kitOne K (.ref ca) (.type "LookupError") = some (cd.base == "LookupError")
  free : ∀ i, h.slot = some i → PL.free C.lk i = true
  dest : ∀ j, h.dest = some j → PL.free C.lk j = true ∧ h.slot ≠ some j
  ps : (h.slot = none → h.ps.all isStrP = true) ∧ h.ps.all strLen = true ∧ h.ps.length ≤ 1000

/-- what an error holds -/
def exF (K : PySem.W.Frag) (F H : Hp) (fld : Option Str) (xf : Option D) (dd : Option Addr) : Prop := match fld, xf with
  | some f, some d => ∃ b v, dd = some b ∧ H b = some (.xd [(f, v)]) ∧ Rp K F v d
  | none, none => dd = none
  | _, _ => False
theorem exF_dict {F : Hp} {fld : Option Str} {xf : Option D} {dd : Option Addr} (h : exF K F H fld xf dd) : ∀ b, dd = some b → ∃ fs, H b = some (.xd fs) := fun b e => by
  unfold exF at h
  split at h
  · obtain ⟨b', v, e1, e2, _⟩ := h
    rw [e] at e1
    cases e1
    exact ⟨_, e2⟩
  · rw [h] at e
    cases e
  · exact h.elim
theorem pt_sem {h : HP} {x : Exn} {cd : ClsDef} {ca a : Addr} {dd : Option Addr} {i : Nat} {F : Hp} {d0 : D} (hc : C.cls x.c = some cd) (hf : exF K F H cd.fld x.f dd) (k1 : PySem.W.kitOne K (.ref ca) (.type "ValueError") = some (cd.base == "ValueError"))
    (k2 : PySem.W.kitOne K (.ref ca) (.type "LookupError") = some (cd.base == "LookupError")) (hv : isStrP h = true ∨ σ[i]? = some (some (.ref a))) (hl : strLen h = true) (e : hpD C.cls x h = some d0) {Q : VK} (q : ∀ v, Rp K F v d0 → Q v H) : tPt K a (.ref ca) dd ca i h σ H Q := by
  cases h with
  | str s =>
    cases e
    exact q _ (.str s (of_decide_eq_true hl))
  | fld f =>
    have hv : σ[i]? = some (some (.ref a)) := hv.resolve_left (by intro z; cases z)
    have e : (C.cls x.c).bind (fun c => if c.fld = some f then x.f else none) = some d0 := e
    rw [hc, Option.bind_some] at e
    split at e
    · rename_i hfld
      unfold exF at hf
      rw [hfld, e] at hf
      obtain ⟨b, v, e1, e2, r⟩ := hf
      exact ⟨.ref a, hv, rfl, rfl, b, _, v, e1, e2, by simp [List.lookup], q v r⟩
    · cases e
  | isi b =>
    have hv : σ[i]? = some (some (.ref a)) := hv.resolve_left (by intro z; cases z)
    have e : (C.cls x.c).map (fun c => PyData.bool (c.base == b)) = some d0 := e
    rw [hc] at e
    cases e
    refine ⟨.ref a, hv, rfl, .ty b, .type b, cd.base == b, rfl, fun u r => ?_, ?_, exF_dict hf, q _ (.bl _)⟩
    · cases r
      rfl
    · have hl : isBase b = true := hl
      unfold isBase at hl
      rw [Bool.or_eq_true, decide_eq_true_eq, decide_eq_true_eq] at hl
      rcases hl with z | z
      · subst z; exact k1
      · subst z; exact k2
theorem pts_sem {x : Exn} {cd : ClsDef} {ca a : Addr} {dd : Option Addr} {i : Nat} {F : Hp} (hc : C.cls x.c = some cd) (hf : exF K F H cd.fld x.f dd) (k1 : PySem.W.kitOne K (.ref ca) (.type "ValueError") = some (cd.base == "ValueError"))
    (k2 : PySem.W.kitOne K (.ref ca) (.type "LookupError") = some (cd.base == "LookupError")) : ∀ {hs : List HP} {ds : List D}, (hs.all isStrP = true ∨ σ[i]? = some (some (.ref a))) → hs.all strLen = true → hpsD C.cls x hs = some ds → ∀ {Q : List V → Hp → Prop}, (∀ vs, RpL K F vs ds → Q vs H) → tPts K a (.ref ca) dd ca i hs σ H Q
  | [], ds, _, _, e, Q, q => by
    cases e
    exact q [] .nil
  | h :: hs, ds, hv, hl, e, Q, q => by
    have e : (hpD C.cls x h).bind (fun d => (hpsD C.cls x hs).map (d :: ·)) = some ds := e
    cases e1 : hpD C.cls x h with
    | none => rw [e1] at e; cases e
    | some d0 =>
      rw [e1] at e
      cases e2 : hpsD C.cls x hs with
      | none => rw [e2] at e; cases e
      | some ds' =>
        rw [e2] at e
        cases e
        rw [List.all_cons, Bool.and_eq_true] at hl
        have hv1 : isStrP h = true ∨ σ[i]? = some (some (.ref a)) := hv.imp (fun z => by rw [List.all_cons, Bool.and_eq_true] at z; exact z.1) id
        have hv2 : hs.all isStrP = true ∨ σ[i]? = some (some (.ref a)) := hv.imp (fun z => by rw [List.all_cons, Bool.and_eq_true] at z; exact z.2) id
        exact pt_sem hc hf k1 k2 hv1 hl.1 e1 fun v r => pts_sem hc hf k1 k2 hv2 hl.2 e2 fun vs rs => q (v :: vs) (.cons r rs)
theorem hps_len {cls : Nat → Option ClsDef} {x : Exn} : ∀ {hs : List HP} {ds : List D}, hpsD cls x hs = some ds → ds.length = hs.length
  | [], ds, e => by cases e; rfl
  | h :: hs, ds, e => by
    have e : (hpD cls x h).bind (fun d => (hpsD cls x hs).map (d :: ·)) = some ds := e
    cases e1 : hpD cls x h with
    | none => rw [e1] at e; cases e
    | some d0 =>
      rw [e1] at e
      cases e2 : hpsD cls x hs with
      | none => rw [e2] at e; cases e
      | some ds' =>
        rw [e2] at e
        cases e
        exact congrArg (· + 1) (hps_len e2)
/-- the value that a suite makes -/
theorem val_sem {h : Hd} {x : Exn} {cd : ClsDef} {ca a : Addr} {dd : Option Addr} {F : Hp} {ds : List D} {kd : KD} {A : List Addr} {L : List (Nat × V)} {env : Env} {T : List It} {σ1 : L2.St} (hc : C.cls x.c = some cd) (hf : exF K F H cd.fld x.f dd) (k1 : PySem.W.kitOne K (.ref ca) (.type "ValueError") = some (cd.base == "ValueError"))
    (k2 : PySem.W.kitOne K (.ref ca) (.type "LookupError") = some (cd.base == "LookupError")) (hv : h.ps.all isStrP = true ∨ σ[slot0 h]? = some (some (.ref a))) (hl : h.ps.all strLen = true) (hz : h.ps.length ≤ 1000) (e : hpsD C.cls x h.ps = some ds)
    (e2 : kdOf h.isList ds = some kd) (i : In K L F env σ1 H A T) {Q : VK} (q : ∀ F' H' v, Same F F' → In K L F' env σ1 H' A ((v, kd) :: T) → Q v H') : valT K h ca a (.ref ca) dd σ H Q := by
  unfold kdOf at e2
  unfold valT
  split
  · rename_i hL
    rw [hL, if_pos rfl] at e2
    cases e2
    refine pts_sem hc hf k1 k2 hv hl e fun vs r => ?_
    have hn : vs.length ≤ sizeLine := by
      rw [r.length, hps_len e, sizeLine_eq]
      omega
    refine ⟨hn, fun p hp => q F _ _ (Same.refl _) (i.ext (U := [(V.ref p, (1, PyData.list ds))]) fun I o => ?_)⟩
    exact Ok.cls (kids_add r (o.alloc hp)) upd_same hn r.length
  · rename_i hL
    have hL : h.isList = false := by simpa using hL
    rw [hL, if_neg (by decide)] at e2
    have hl2 := hps_len e
    match ds, e2, e, hl2 with
    | [d], e2, e, hl2 =>
      cases e2
      match hps : h.ps, hl2, e with
      | [p], _, e =>
        rw [hps] at hv hl
        have e : (hpD C.cls x p).bind (fun d => (hpsD C.cls x []).map (d :: ·)) = some [d] := e
        cases e1 : hpD C.cls x p with
        | none => rw [e1] at e; cases e
        | some d0 =>
          rw [e1] at e
          cases e
          rw [List.all_cons, List.all_nil, Bool.and_true] at hl
          exact pt_sem hc hf k1 k2 (by rw [List.all_cons, List.all_nil, Bool.and_true] at hv; exact hv) hl e1 fun v r => q F H v (Same.refl _) (i.ext (U := [(v, (0, d))]) fun I o => o.addRp r)
      | [], hl2, _ => simp at hl2
      | _ :: _ :: _, hl2, _ => simp at hl2
    | [], e2, _, _ => cases e2
    | _ :: _ :: _, e2, _, _ => cases e2
theorem exF_of {F : Hp} {x : Exn} {cls : Value} {dd : Option Addr} {ca : Addr} {cd : ClsDef} (e1 : C.cad x.c = some ca) (e2 : C.cls x.c = some cd) (h : ExR K C F H x cls dd) : cls = .ref ca ∧ exF K F H cd.fld x.f dd := by
  obtain ⟨ca', cd', q1, q2, q3, q4⟩ := h
  rw [e1] at q1
  rw [e2] at q2
  cases q1
  cases q2
  exact ⟨q3, q4⟩
inductive HdsRel (K : PySem.W.Frag) (C : Cf) : List Hd → List ClauseT → Prop
  | nil : HdsRel K C [] []
  | cons {h : Hd} {l : ClauseT} {hs : List Hd} {ls : List ClauseT} : HdRel K C h l → HdsRel K C hs ls → HdsRel K C (h :: hs) (l :: ls)
theorem handle_sem (exm : ∀ c1 c2 a1 a2, C.cad c1 = some a1 → C.cad c2 = some a2 → (C.cls c1).isSome = true → (C.cls c2).isSome = true → PySem.W.exmOne K (.ref a1) (.ref a2) = some (c1 == c2)) {L : List (Nat × V)} {F : Hp} {env : Env} {A : List Addr} {T : List It} {x : Exn} {cls : Value} {dd : Option Addr} {D : Ends}
    (hL : Lko C L) (i : In K L F env σ H A T) (ex : ExR K C F H x cls dd) : ∀ {hs : List Hd} {ls : List ClauseT}, HdsRel K C hs ls → PostS K C W L F A T (handle C.cls x env hs) D → wHs K W D ls cls dd σ H := by
  intro hs ls r
  induction r with
  | nil => exact fun p => p F σ H cls dd (Same.refl _) i ex
  | @cons h l hs ls r rs ih =>
    intro p
    obtain ⟨ca, cd, e1, e2, e3, e4, k1, k2⟩ := r.cls
    obtain ⟨cx, dx, q1, q2, q3, q4⟩ := id ex
    have m := exm x.c h.c cx ca q1 e1 (by rw [q2]; rfl) (by rw [e2]; rfl)
    refine ⟨x.c == h.c, by rw [q3, e3]; exact m, fun hb a na => ?_, fun hb => ?_⟩
    · have hb : x.c = h.c := by simpa using hb
      have p : PostS K C W L F A T (if slotIn env h.slot && slotIn env h.dest then (match hpsD C.cls x h.ps with
        | none => .bad "handler"
        | some ds => (match kdOf h.isList ds with
          | none => .bad "handler"
          | some kd => (match h.dest with
            | some j => .ok .nx ((unbindS env h.slot).set j (some kd))
            | none => .ok (.rt kd) (unbindS env h.slot)))) else .bad "handler slot") D := by
        unfold handle at p
        rw [if_pos hb.symm] at p
        exact p
      split at p
      · rename_i hin
        rw [Bool.and_eq_true] at hin
        rw [← hb] at e1 e2
        obtain ⟨ec, hf⟩ := exF_of e1 e2 ex
        subst ec
        cases d1 : hpsD C.cls x h.ps with
        | none => rw [d1] at p; exact p.elim
        | some ds =>
          rw [d1] at p
          dsimp only at p
          cases d2 : kdOf h.isList ds with
          | none => rw [d2] at p; exact p.elim
          | some kd =>
            rw [d2] at p
            dsimp only at p
            obtain ⟨s1, s2, s3⟩ := r.ps
            unfold inSuite
            rw [r.slot, e4]
            unfold suiteT
            cases hsl : h.slot with
            | none =>
              rw [hsl] at p
              dsimp only at p ⊢
              cases hd : h.dest with
              | none =>
                rw [hd] at p
                exact val_sem e2 hf k1 k2 (.inl (s1 hsl)) s2 s3 d1 d2 i fun F' H' v s i' => p F' σ H' v s i'
              | some j =>
                rw [hd] at p hin
                obtain ⟨f1, _⟩ := r.dest j hd
                have f2 : j < env.length := of_decide_eq_true hin.2
                exact val_sem e2 hf k1 k2 (.inl (s1 hsl)) s2 s3 d1 d2 i fun F' H' v s i' => p F' _ H' s (i'.put f2 (free_ne hL f1))
            | some t =>
              have g1 := r.free t hsl
              rw [hsl] at p hin
              have g2 : t < env.length := of_decide_eq_true hin.1
              dsimp only at p ⊢
              have st : slot0 h = t := by unfold slot0; rw [hsl]; rfl
              have hv : (σ.set t (some (V.ref a)))[slot0 h]? = some (some (.ref a)) := by
                rw [st, List.getElem?_set_self (by rw [i.len]; exact g2)]
              have i1 : In K L F (env.set t none) (σ.set t (some (V.ref a))) H A T := i.unset g2 (free_ne hL g1)
              cases hd : h.dest with
              | none =>
                rw [hd] at p
                exact val_sem (σ := σ.set t (some (V.ref a))) e2 hf k1 k2 (.inr hv) s2 s3 d1 d2 i1 fun F' H' v s i' => p F' _ H' v s i'
              | some j =>
                rw [hd] at p hin
                obtain ⟨f1, f3⟩ := r.dest j hd
                have f2 : j < env.length := of_decide_eq_true hin.2
                have ne : t ≠ j := fun z => f3 (by rw [hsl, z])
                refine val_sem (σ := σ.set t (some (V.ref a))) e2 hf k1 k2 (.inr hv) s2 s3 d1 d2 i1 fun F' H' v s i' => ?_
                have i2 := i'.put (i := j) (by rw [List.length_set]; exact f2) (free_ne hL f1)
                have i3 := i2.unset (i := t) (x := none) (by rw [List.length_set, List.length_set]; exact g2) (free_ne hL g1)
                have ee : ((env.set t none).set j (some kd)).set t none = (env.set t none).set j (some kd) := by
                  rw [List.set_comm _ _ ne.symm, List.set_set]
                rw [ee] at i3
                exact p F' _ H' s i3
      · exact p.elim
    · have hb : x.c ≠ h.c := by simpa using hb
      have p : PostS K C W L F A T (handle C.cls x env hs) D := by
        unfold handle at p
        rw [if_neg (Ne.symm hb)] at p
        exact p
      exact ih p
theorem tS_try (exm : ∀ c1 c2 a1 a2, C.cad c1 = some a1 → C.cad c2 = some a2 → (C.cls c1).isSome = true → (C.cls c2).isSome = true → PySem.W.exmOne K (.ref a1) (.ref a2) = some (c1 == c2)) {b : S} {hs : List Hd} {ls : List ClauseT} {D : Ends} (r : HdsRel K C hs ls)
    (h : tS K C W (.try_ b hs) D σ H) : tS K C (wHs K W D ls) b D σ H := by
  obtain ⟨L, F, A, T, env, hl, i, p⟩ := h
  refine ⟨L, F, A, T, env, hl, i, ?_⟩
  have p : PostS K C W L F A T (match evSC C b env with
    | .ok f env1 => .ok f env1
    | .exc x env1 => handle C.cls x env1 hs
    | .bad m => .bad m) D := p
  cases e : evSC C b env with
  | bad m => rw [e] at p; exact p
  | ok f env1 => rw [e] at p; cases f <;> exact p
  | exc x env1 =>
    rw [e] at p
    exact fun F' σ' H' cls dd s i' ex => handle_sem exm hl i' ex r (PostS.mono p s)
end PL
end

section
set_option maxRecDepth 100000
/-! PlSt8: the checker of statements. -/
namespace PL
open PySem PySem.Spec PyProof.Rows L2

def asTup2 (t x : Expr) : Option (List Expr × List Expr) := match t, x with
  | .Tuple ts _ _, .Tuple vs _ _ => some (ts, vs)
  | _, _ => none
theorem tup2_ok {t x : Expr} {ts vs : List Expr} (h : asTup2 t x = some (ts, vs)) : ∃ kt pt kv pv, t = .Tuple ts kt pt ∧ x = .Tuple vs kv pv := by
  cases t <;> first | (cases h; done) | skip
  cases x <;> first | (cases h; done) | skip
  cases h
  exact ⟨_, _, _, _, rfl, rfl⟩
/-- the slots and the names of a swapped store, in their order -/
def swNames (N : List Str) (sc : Scope) : Pat → List Expr → List Str → Bool
  | .nil, [], [] => true
  | .cons p ps, e :: es, x :: xs => (match p with
    | .v i => decide (N[i]? = some x)
    | _ => false) && decide (asName e = some x) && decide (sc.names.lookup x = some .local) && swNames N sc ps es xs
  | _, _, _ => false
def nodupP (p : Pat) : Bool := decide ((slotsP p).Nodup)
def ckPar (N : List Str) (sc tg : Scope) (p : Pat) (ts vs : List Expr) : Bool := isFn sc && namesP p && (match swSpec true (fun x => sc.names.lookup x) ts vs with
  | none => false
  | some none => decide (lenP p ≤ 100) && ckPs N tg p ts
  | some (some xs) => nodupP p && swNames N sc p ts xs)
/-- x.m(..) as a statement -/
def asMethS (s : Stmt) : Option (Str × Str × List Expr) := (asExprS s).bind asMeth
/-- x[u] as a target -/
def asSubT : Expr → Option (Str × Expr)
  | .Subscript o u _ => (match o with
    | .Name y _ => some (y, u)
    | _ => none)
  | _ => none
theorem subT_ok {t u : Expr} {y : Str} (h : asSubT t = some (y, u)) : ∃ p tp, t = .Subscript (.Name y p) u tp := by
  cases t with
  | Subscript o u' tp =>
    cases o with
    | Name z p => cases h; exact ⟨_, _, rfl⟩
    | _ => cases h
  | _ => cases h
/-! raise, try -/
def asRaise : Stmt → Option Expr
  | .Raise x c _ => (match c with
    | none => x
    | some _ => none)
  | _ => none
theorem raise_ok {s : Stmt} {x : Expr} (h : asRaise s = some x) : ∃ p, s = .Raise (some x) none p := by
  cases s with
  | Raise y c p =>
    cases c with
    | none => cases h; exact ⟨p, rfl⟩
    | some _ => cases h
  | _ => cases h
def asTry : Stmt → Option (List Stmt × ExceptHandler × List ExceptHandler)
  | .Try body hds els fin _ => (match hds, els, fin with
    | h :: hs, [], [] => some (body, h, hs)
    | _, _, _ => none)
  | _ => none
theorem try_ok {s : Stmt} {b : List Stmt} {h : ExceptHandler} {hs : List ExceptHandler} (e : asTry s = some (b, h, hs)) : ∃ p, s = .Try b (h :: hs) [] [] p := by
  cases s with
  | Try body hds els fin p =>
    match hds, els, fin, e with
    | _ :: _, [], [], e => cases e; exact ⟨p, rfl⟩
  | _ => cases e
def ckRaise (nt : NT) (lk : List Nat) (N : List Str) (sc tg : Scope) (c : Nat) (es : E) (x : Expr) : Bool := match asCall x with
  | some (y, ys) => decide (nt.cl c = some y) && isGl sc y && !odd y && (match nt.fl c, es, ys with
    | none, .nil, [] => true
    | some _, .cons e .nil, [z] => ck nt lk N (.cons e .nil) sc tg [z]
    | _, _, _ => false)
  | none => false
def ckSlot (N : List Str) (sc : Scope) (lk : List Nat) : Option Nat → Option Str → Bool
  | none, none => true
  | some i, some n => decide (N[i]? = some n) && decide (sc.names.lookup n = some .local) && !odd n && free lk i
  | _, _ => false
def ckVal (nm : Option Str) (g : Str → Bool) (fld : Option Str) (h : Hd) (v : Expr) : Bool := if h.isList = true then (match v with
    | .List es _ => ckPts nm g fld h.ps es
    | _ => false) else (match h.ps with
    | [q] => ckPt nm g fld q v
    | _ => false)
def ckAsgH (nt : NT) (lk : List Nat) (N : List Str) (sc tg : Scope) (nm : Option Str) (h : Hd) (v : Expr) : List Expr → Option Nat → Bool
  | [.Name y _], some j => decide (N[j]? = some y) && isTg tg y && free lk j && decide (h.slot ≠ some j) && noComp v && ckVal nm (isGl sc) (nt.fl h.c) h v
  | _, _ => false
theorem asgH_ok {nt : NT} {lk : List Nat} {N : List Str} {sc tg : Scope} {nm : Option Str} {h : Hd} {v : Expr} {ts : List Expr} {d : Option Nat} (e : ckAsgH nt lk N sc tg nm h v ts d = true) :
    ∃ y p j, ts = [.Name y p] ∧ d = some j ∧ (decide (N[j]? = some y) && isTg tg y && free lk j && decide (h.slot ≠ some j) && noComp v && ckVal nm (isGl sc) (nt.fl h.c) h v) = true := by
  unfold ckAsgH at e
  split at e
  · exact ⟨_, _, _, rfl, rfl, e⟩
  · cases e
def ckRetH (nt : NT) (sc : Scope) (nm : Option Str) (h : Hd) : Option Expr → Option Nat → Bool
  | some v, none => ckVal nm (isGl sc) (nt.fl h.c) h v
  | _, _ => false
theorem retH_ok {nt : NT} {sc : Scope} {nm : Option Str} {h : Hd} {v : Option Expr} {d : Option Nat} (e : ckRetH nt sc nm h v d = true) : ∃ w, v = some w ∧ d = none ∧ ckVal nm (isGl sc) (nt.fl h.c) h w = true := by
  unfold ckRetH at e
  split at e
  · exact ⟨_, rfl, rfl, e⟩
  · cases e
def ckSuite (nt : NT) (lk : List Nat) (N : List Str) (sc tg : Scope) (nm : Option Str) (h : Hd) : Stmt → Bool
  | .Assign ts v _ => ckAsgH nt lk N sc tg nm h v ts h.dest
  | .Return v _ => ckRetH nt sc nm h v h.dest
  | _ => false
def ckHd (nt : NT) (lk : List Nat) (N : List Str) (sc tg : Scope) (h : Hd) : ExceptHandler → Bool
  | .ExceptHandler t nm sts _ => (match t, sts with
    | some (.Name x _), [st] => decide (nt.cl h.c = some x) && isGl sc x && !odd x && ckSlot N sc lk h.slot nm && ((h.slot.isSome || h.ps.all isStrP) && h.ps.all strLen && decide (h.ps.length ≤ 1000)) && ckSuite nt lk N sc tg nm h st
    | _, _ => false)
def ckHds (nt : NT) (lk : List Nat) (N : List Str) (sc tg : Scope) : List Hd → List ExceptHandler → Bool
  | [], [] => true
  | h :: hs, e :: es => ckHd nt lk N sc tg h e && ckHds nt lk N sc tg hs es
  | _, _ => false
def ckS (nt : NT) (lk : List Nat) (N : List Str) (sc tg : Scope) : Bool → S → List Stmt → Bool
  | _, .skip, sts => (match asS1 sts with | some s => isPass s | none => sts.isEmpty)
  | lp, .seq a b, sts => (match sts with
    | st :: r => ckS nt lk N sc tg lp a [st] && ckS nt lk N sc tg lp b r && !r.isEmpty
    | [] => false)
  | _, .ret e, sts => (match (asS1 sts).bind asRet with
    | some (some x) => ck nt lk N e sc tg [x] && one e
    | _ => false)
  | _, .retN, sts => (match (asS1 sts).bind asRet with
    | some none => true
    | _ => false)
  | _, .brk, sts => (match asS1 sts with | some s => isBrk s | none => false)
  | _, .cnt, sts => (match asS1 sts with | some s => isCnt s | none => false)
  | _, .expr e, sts => (match (asS1 sts).bind asExprS with
    | some x => noComp x && one e && ck nt lk N e sc tg [x]
    | none => false)
  | _, .set i e, sts => (match (asS1 sts).bind asAsg with
    | some (t, x, _) => (match asNameP t with
      | some (y, p) => decide (N[i]? = some y) && isTg tg y && one e && ck nt lk N e sc tg [x] && (swapOk sc y p x || swapB sc y p x)
      | none => false)
    | none => false)
  | _, .asg p e, sts => (match (asS1 sts).bind asAsg with
    | some (t, x, _) => isTup t && ckP N tg p t && noComp x && notTupE x && one e && ck nt lk N e sc tg [x]
    | none => false)
  | _, .par p es, sts => (match (asS1 sts).bind asAsg with
    | some (t, x, _) => (match asTup2 t x with
      | some (ts, vs) => ckPar N sc tg p ts vs && isL es && ck nt lk N es sc tg vs
      | none => false)
    | none => false)
  | lp, .ite c a b, sts => (match (asS1 sts).bind asIfS with
    | some (x, as, bs) => one c && tst x && ck nt lk N c sc tg [x] && ckS nt lk N sc tg lp a as && ckS nt lk N sc tg lp b bs
    | none => false)
  | lp, .for_ p it b, sts => (match (asS1 sts).bind asFor with
    | some (t, x, bs) => lp && ckP N tg p t && itOk it t && noSet x && ck nt lk N it sc tg [x] && ckS nt lk N sc tg lp b bs
    | none => false)
  | lp, .while_ c b, sts => (match (asS1 sts).bind asWhile with
    | some (x, bs) => lp && one c && tst x && ck nt lk N c sc tg [x] && ckS nt lk N sc tg lp b bs
    | none => false)
  | _, .append i e, sts => (match (asS1 sts).bind asMethS with
    | some (y, m, xs) => decide (m = ("append" : Str)) && slotOk N sc i y && one e && xs.all starless && (xs.length == 1) && ck nt lk N e sc tg xs
    | none => false)
  | _, .setix i ix e, sts => (match (asS1 sts).bind asAsg with
    | some (t, x, _) => (match asSubT t with
      | some (y, u) => slotOk N sc i y && ixOk u && noComp x && one ix && one e && ck nt lk N ix sc tg [u] && ck nt lk N e sc tg [x]
      | none => false)
    | none => false)
  | _, .extend _ _, _ => false
  | _, .appendix _ _ _, _ => false
  | _, .appendsd _ _ _ _, _ => false
  | _, .raise c es, sts => (match (asS1 sts).bind asRaise with
    | some x => ckRaise nt lk N sc tg c es x
    | none => false)
  | lp, .try_ b hs, sts => (match (asS1 sts).bind asTry with
    | some (bs, h0, hds) => lp && ckHds nt lk N sc tg hs (h0 :: hds) && ckS nt lk N sc tg lp b bs
    | none => false)
end PL
end

section
set_option maxRecDepth 100000
/-! PlSt9: the checker of statements is sound. -/
namespace PL
open PySem PySem.Spec PyProof.Rows L2
variable {C : Cf} {nt : NT} {X : Cx} {n : Nat} {sc tg : Scope}
/-- what loops and tries ask of the frame -/
structure Lp (X : Cx) : Prop where
  own : PassesOwn (model X.prog X.w) X.A X.env X.xe
  stk : X.stack = X.env :: X.outer
  fr : X.env.frame = some X.env.locals
def SdS (C : Cf) (nt : NT) (s : S) : Prop := ∀ {X : Cx} {n : Nat} {sc tg : Scope} {W : WX} (lp : Bool), Gd X C nt n sc tg → Takes X W → (lp = true → Lp X) → ∀ sts, ckS nt C.lk X.N sc tg lp s sts = true → Sn X C W s sts
theorem bindS {β : Type} {xs : List Stmt} {f : Stmt → Option β} {b : β} (h : (asS1 xs).bind f = some b) : ∃ x, xs = [x] ∧ f x = some b := by
  cases e : asS1 xs with
  | none => rw [e] at h; cases h
  | some x => rw [e] at h; exact ⟨x, asS1_ok e, h⟩
theorem ss_seq {a b : S} (ha : SdS C nt a) (hb : SdS C nt b) : SdS C nt (.seq a b) := by
  intro X n sc tg W lp G tk po sts h
  cases sts with
  | nil => cases h
  | cons st r =>
    have h0 : (ckS nt C.lk X.N sc tg lp a [st] && ckS nt C.lk X.N sc tg lp b r && !r.isEmpty) = true := h
    simp only [Bool.and_eq_true, Bool.not_eq_true'] at h0
    refine sn_seq ((ha lp G tk po [st] h0.1.1).s1 st rfl) (hb lp G tk po r h0.1.2).ss fun e => ?_
    rw [e] at h0
    cases h0.2
theorem ss_ret {e : E} : SdS C nt (.ret e) := by
  intro X n sc tg W lp G tk po sts hh
  have h : (match (asS1 sts).bind asRet with
    | some (some x) => ck nt C.lk X.N e sc tg [x] && one e
    | _ => false) = true := hh
  clear hh
  split at h
  · rename_i x e1
    obtain ⟨s, es, e2⟩ := bindS e1
    obtain ⟨p, e3⟩ := ret_ok e2
    subst es e3
    rw [Bool.and_eq_true] at h
    exact sn_ret ((Sd.at (snd e) G tk h.1).pe h.2)
  · cases h
theorem ss_retN : SdS C nt .retN := by
  intro X n sc tg W lp G tk po sts hh
  have h : (match (asS1 sts).bind asRet with
    | some none => true
    | _ => false) = true := hh
  clear hh
  split at h
  · rename_i e1
    obtain ⟨s, es, e2⟩ := bindS e1
    obtain ⟨p, e3⟩ := ret_ok e2
    subst es e3
    exact sn_retN
  · cases h
theorem ss_brk : SdS C nt .brk := by
  intro X n sc tg W lp G tk po sts hh
  have h : (match asS1 sts with | some s => isBrk s | none => false) = true := hh
  clear hh
  split at h
  · rename_i s e1
    have es := asS1_ok e1
    obtain ⟨p, e3⟩ := brk_ok h
    subst es e3
    exact sn_brk
  · cases h
theorem ss_cnt : SdS C nt .cnt := by
  intro X n sc tg W lp G tk po sts hh
  have h : (match asS1 sts with | some s => isCnt s | none => false) = true := hh
  clear hh
  split at h
  · rename_i s e1
    have es := asS1_ok e1
    obtain ⟨p, e3⟩ := cnt_ok h
    subst es e3
    exact sn_cnt
  · cases h
theorem ss_expr {e : E} : SdS C nt (.expr e) := by
  intro X n sc tg W lp G tk po sts hh
  have h : (match (asS1 sts).bind asExprS with
    | some x => noComp x && one e && ck nt C.lk X.N e sc tg [x]
    | none => false) = true := hh
  clear hh
  split at h
  · rename_i x e1
    obtain ⟨s, es, e2⟩ := bindS e1
    obtain ⟨p, e3⟩ := exprS_ok e2
    subst es e3
    simp only [Bool.and_eq_true] at h
    exact sn_expr h.1.1 ((Sd.at (snd e) G tk h.2).pe h.1.2)
  · cases h
theorem ss_asg {p : Pat} {e : E} : SdS C nt (.asg p e) := by
  intro X n sc tg W lp G tk po sts hh
  have h : (match (asS1 sts).bind asAsg with
    | some (t, x, _) => isTup t && ckP X.N tg p t && noComp x && notTupE x && one e && ck nt C.lk X.N e sc tg [x]
    | none => false) = true := hh
  clear hh
  split at h
  · rename_i t x pos e1
    obtain ⟨s, es, e2⟩ := bindS e1
    have e3 := asg_ok e2
    subst es e3
    simp only [Bool.and_eq_true] at h
    obtain ⟨⟨⟨⟨⟨h1, h2⟩, h3⟩, h4⟩, h5⟩, h6⟩ := h
    exact sn_asg G h1 h2 ((Sd.at (snd e) G tk h6).pe h5) h3 h4
  · cases h
theorem ss_ite {c : E} {a b : S} (ha : SdS C nt a) (hb : SdS C nt b) : SdS C nt (.ite c a b) := by
  intro X n sc tg W lp G tk po sts hh
  have h : (match (asS1 sts).bind asIfS with
    | some (x, as, bs) => one c && tst x && ck nt C.lk X.N c sc tg [x] && ckS nt C.lk X.N sc tg lp a as && ckS nt C.lk X.N sc tg lp b bs
    | none => false) = true := hh
  clear hh
  split at h
  · rename_i x as bs e1
    obtain ⟨s, es, e2⟩ := bindS e1
    obtain ⟨p, e3⟩ := ifS_ok e2
    subst es e3
    simp only [Bool.and_eq_true] at h
    obtain ⟨⟨⟨⟨h1, h2⟩, h3⟩, h4⟩, h5⟩ := h
    exact sn_ite ((Sd.at (snd c) G tk h3).pt h1 h2) (ha lp G tk po _ h4).ss (hb lp G tk po _ h5).ss
  · cases h
theorem ss_for {p : Pat} {it : E} {b : S} (hb : SdS C nt b) : SdS C nt (.for_ p it b) := by
  intro X n sc tg W lp G tk po sts hh
  have h : (match (asS1 sts).bind asFor with
    | some (t, x, bs) => lp && ckP X.N tg p t && itOk it t && noSet x && ck nt C.lk X.N it sc tg [x] && ckS nt C.lk X.N sc tg lp b bs
    | none => false) = true := hh
  clear hh
  split at h
  · rename_i t x bs e1
    obtain ⟨s, es, e2⟩ := bindS e1
    obtain ⟨q, e3⟩ := for_ok e2
    subst es e3
    simp only [Bool.and_eq_true] at h
    obtain ⟨⟨⟨⟨⟨h1, h2⟩, h3⟩, h4⟩, h5⟩, h6⟩ := h
    exact sn_for (po h1).own G.calm ((Sd.at (snd it) G tk h5).pi t h3) (pg_pat G p t h2) (hb lp G tk po _ h6).ss h4
  · cases h
theorem ss_while {c : E} {b : S} (hb : SdS C nt b) : SdS C nt (.while_ c b) := by
  intro X n sc tg W lp G tk po sts hh
  have h : (match (asS1 sts).bind asWhile with
    | some (x, bs) => lp && one c && tst x && ck nt C.lk X.N c sc tg [x] && ckS nt C.lk X.N sc tg lp b bs
    | none => false) = true := hh
  clear hh
  split at h
  · rename_i x bs e1
    obtain ⟨s, es, e2⟩ := bindS e1
    obtain ⟨q, e3⟩ := while_ok e2
    subst es e3
    simp only [Bool.and_eq_true] at h
    obtain ⟨⟨⟨⟨h1, h2⟩, h3⟩, h4⟩, h5⟩ := h
    exact sn_while (po h1).own ((Sd.at (snd c) G tk h4).pt h2 h3) (hb lp G tk po _ h5).ss
  · cases h
theorem len1 {xs : List Expr} (h : (xs.length == 1) = true) : ∃ x, xs = [x] := by
  match xs, h with
  | [x], _ => exact ⟨x, rfl⟩
  | [], h => cases h
  | _ :: _ :: _, h => simp at h
theorem ss_append {i : Nat} {e : E} : SdS C nt (.append i e) := by
  intro X n sc tg W lp G tk po sts hh
  have h : (match (asS1 sts).bind asMethS with
    | some (y, m, xs) => decide (m = ("append" : Str)) && slotOk X.N sc i y && one e && xs.all starless && (xs.length == 1) && ck nt C.lk X.N e sc tg xs
    | none => false) = true := hh
  clear hh
  split at h
  · rename_i y m xs e1
    obtain ⟨s, es, e2⟩ := bindS e1
    unfold asMethS at e2
    cases e3 : asExprS s with
    | none => rw [e3] at e2; cases e2
    | some x =>
      rw [e3] at e2
      obtain ⟨pos, e4⟩ := exprS_ok e3
      obtain ⟨p, apos, cpos, e5, hp⟩ := meth_ok (show asMeth x = some (y, m, xs) from e2)
      subst es e4 e5
      simp only [Bool.and_eq_true, decide_eq_true_eq] at h
      obtain ⟨⟨⟨⟨⟨h1, h2⟩, h3⟩, h4⟩, h5⟩, h6⟩ := h
      subst h1
      obtain ⟨z, ez⟩ := len1 h5
      subst ez
      rw [List.all_cons, Bool.and_eq_true] at h4
      exact sn_append G h2 h4.1 hp ((Sd.at (snd e) G tk h6).pe h3)
  · cases h
theorem ss_setix {i : Nat} {ix e : E} : SdS C nt (.setix i ix e) := by
  intro X n sc tg W lp G tk po sts hh
  have h : (match (asS1 sts).bind asAsg with
    | some (t, x, _) => (match asSubT t with
      | some (y, u) => slotOk X.N sc i y && ixOk u && noComp x && one ix && one e && ck nt C.lk X.N ix sc tg [u] && ck nt C.lk X.N e sc tg [x]
      | none => false)
    | none => false) = true := hh
  clear hh
  split at h
  · rename_i t x pos e1
    obtain ⟨s, es, e2⟩ := bindS e1
    have e3 := asg_ok e2
    split at h
    · rename_i y u e4
      obtain ⟨p, tp, e5⟩ := subT_ok e4
      subst es e3 e5
      simp only [Bool.and_eq_true] at h
      obtain ⟨⟨⟨⟨⟨⟨h1, h2⟩, h3⟩, h4⟩, h5⟩, h6⟩, h7⟩ := h
      exact sn_setix G h1 h2 ((Sd.at (snd ix) G tk h6).pe h4) ((Sd.at (snd e) G tk h7).pe h5) h3
    · cases h
  · cases h
/-! ### raise, try -/
theorem Gd.cls (G : Gd X C nt n sc tg) {c : Nat} {y : Str} (h : nt.cl c = some y) : ∃ cd ca, C.cls c = some cd ∧ nt.fl c = cd.fld ∧ X.mg y = some (.ref ca) ∧ C.cad c = some ca ∧ ErrOk X.K X.prog X.mg ca cd := by
  have e := G.exd c y h
  cases q : C.cls c with
  | none => rw [q] at e; cases e
  | some cd =>
    obtain ⟨nm, ca, e1, e2, e3, e4, e5⟩ := G.ex c cd q
    rw [h] at e1
    cases e1
    exact ⟨cd, ca, rfl, e2, e3, e4, e5⟩
theorem ss_raise {c : Nat} {es : E} : SdS C nt (.raise c es) := by
  intro X n sc tg W lp G tk po sts hh
  have h : (match (asS1 sts).bind asRaise with
    | some x => ckRaise nt C.lk X.N sc tg c es x
    | none => false) = true := hh
  clear hh
  split at h
  · rename_i x e1
    obtain ⟨s, ex, e2⟩ := bindS e1
    obtain ⟨p, e3⟩ := raise_ok e2
    subst ex e3
    unfold ckRaise at h
    split at h
    · rename_i y ys e4
      obtain ⟨p1, p2, e5⟩ := call_ok e4
      subst e5
      rw [Bool.and_eq_true, Bool.and_eq_true, Bool.and_eq_true, decide_eq_true_eq, Bool.not_eq_true'] at h
      obtain ⟨⟨⟨h1, h2⟩, h3⟩, h4⟩ := h
      obtain ⟨cd, ca, q1, q2, q3, q4, T⟩ := G.cls h1
      obtain ⟨newId, initId, bmB, KF, FB, SF, TC, m⟩ := T.mak
      rw [q2] at h4
      cases hf : cd.fld with
      | none =>
        rw [hf] at h4 m
        cases es with
        | nil =>
          cases ys with
          | nil => exact Sn.of (PS.mono (ps_raise G.calm tk (pmk_no (k := n) FB TC m (gl_of G h2) q3 (odd_no h3).1)) fun D σ H q => tS_raise0 q4 q1 hf q)
          | cons _ _ => cases h4
        | _ => cases h4
      | some f =>
        rw [hf] at h4 m
        obtain ⟨fI, qual, sf, pr, params, body, scope, cda, cc, TI, TD, sup, no⟩ := m
        cases es with
        | cons e es =>
          cases es with
          | nil =>
            match ys, h4 with
            | [z], h4 =>
              have pa := (snd (.cons e .nil) G tk (W := W) [z] h4).pa rfl
              have h5 : (ck nt C.lk X.N e sc tg [z] && one e && starless z && isL .nil && ck nt C.lk X.N .nil sc tg []) = true := h4
              simp only [Bool.and_eq_true] at h5
              exact Sn.of (PS.mono (ps_raise G.calm tk (pmk_ini KF FB SF TC TI TD sup G.room (gl_of G h2) q3 pa (starless_each h5.1.1.2) (odd_no h3).1)) fun D σ H q => tS_raise1 q4 q1 hf h5.1.1.1.2 q)
          | _ => cases h4
        | _ => cases h4
    · cases h
  · cases h
theorem Gd.tr (G : Gd X C nt n sc tg) (pn : List (Addr × Obj)) (xe : Value → Shared → Prop) : Gd (X.tr pn xe) C nt n sc tg :=
  ⟨G.nod, G.esc, G.tg, G.calm, G.room, G.blt, G.fn, G.fnd, G.gld, G.ex, G.exd, G.exm, G.gl⟩
theorem val_pe (G : Gd X C nt n sc tg) {h : Hd} {ca a : Addr} {cd : ClsDef} {cls : Value} {d : Option Addr} {oe : Obj} {pn : List (Addr × Obj)} {nm : Option Str} {v : Expr} (T : ErrOk X.K X.prog X.mg ca cd) (hz : Zc cls d oe) (hf : ∃ vs, oe.data = .fields vs) (hn : nmOk X (slot0 h) nm)
    (e1 : nt.fl h.c = cd.fld) (c : ckVal nm (isGl sc) (nt.fl h.c) h v = true) : PE (X.suite a ((a, oe) :: pn)) v (valT X.K h ca a cls d) := by
  have hg : ∀ y, isGl sc y = true → Gl X y := fun y hy => gl_of G hy
  have hb : ∀ b, isBase b = true → X.mg (Str.ofString b) = none := fun b hb => by
    unfold isBase at hb
    rw [Bool.or_eq_true, decide_eq_true_eq, decide_eq_true_eq] at hb
    rcases hb with z | z <;> subst z
    · exact G.blt _ (by decide)
    · exact G.blt _ (by decide)
  have hi : X.mg "isinstance" = none := G.blt _ (by decide)
  rw [e1] at c
  unfold ckVal at c
  unfold valT
  split at c
  · rename_i hL
    rw [if_pos hL]
    cases v with
    | List es p => exact pe_lst (pa_pts T hz hf hn hg hb hi c)
    | _ => cases c
  · rename_i hL
    rw [if_neg hL]
    match hps : h.ps, c with
    | [q], c => exact pe_pt T hz hf hn hg hb hi c
theorem hd_ok (G : Gd X C nt n sc tg) {h : Hd} {e : ExceptHandler} (c : ckHd nt C.lk X.N sc tg h e = true) : ∃ l, HdRel X.K C h l ∧ ∀ {hds ls}, HsOk X hds ls → HsOk X (e :: hds) (l :: ls) := by
  cases e with
  | ExceptHandler t nm sts p =>
    match t, sts, c with
    | some (.Name x p1), [st], c =>
      have c : (decide (nt.cl h.c = some x) && isGl sc x && !odd x && ckSlot X.N sc C.lk h.slot nm && ((h.slot.isSome || h.ps.all isStrP) && h.ps.all strLen && decide (h.ps.length ≤ 1000)) && ckSuite nt C.lk X.N sc tg nm h st) = true := c
      simp only [Bool.and_eq_true, decide_eq_true_eq, Bool.not_eq_true'] at c
      obtain ⟨⟨⟨⟨⟨c1, c2⟩, c3⟩, c4⟩, ⟨⟨c5, c6⟩, c7⟩⟩, c8⟩ := c
      obtain ⟨cd, ca, q1, q2, q3, q4, T⟩ := G.cls c1
      have sl : slotName X h.slot nm ∧ nmOk X (slot0 h) nm ∧ ∀ i, h.slot = some i → PL.free C.lk i = true := by
        unfold slot0
        cases hs : h.slot with
        | none =>
          rw [hs] at c4
          cases nm with
          | some _ => cases c4
          | none => exact ⟨trivial, fun n z => (nomatch z), fun i z => (nomatch z)⟩
        | some i =>
          rw [hs] at c4
          cases nm with
          | none => cases c4
          | some nn =>
            have c4 : (decide (X.N[i]? = some nn) && decide (sc.names.lookup nn = some .local) && !odd nn && PL.free C.lk i) = true := c4
            simp only [Bool.and_eq_true, decide_eq_true_eq, Bool.not_eq_true'] at c4
            obtain ⟨⟨⟨d1, d2⟩, d3⟩, d4⟩ := c4
            have lc : X.env.scope.names.lookup nn = some .local := by rw [G.esc]; exact d2
            exact ⟨⟨d1, lc⟩, fun m z => by cases z; exact ⟨d1, lc, (odd_no d3).1, (odd_no d3).2.1⟩, fun j z => by cases z; exact d4⟩
      obtain ⟨s1, s2, s3⟩ := sl
      have main : (∀ j, h.dest = some j → PL.free C.lk j = true ∧ h.slot ≠ some j) ∧ ∀ (a : Addr) (oe : Obj) (cls : Value) (d : Option Addr) (pn : List (Addr × Obj)), Zc cls d oe → (∃ vs, oe.data = .fields vs) → PS (X.suite a ((a, oe) :: pn)) st (suiteT X.K h ca a cls d) := by
        cases st with
        | Assign ts v p2 =>
          obtain ⟨y, p3, j, et, hd, c9⟩ := asgH_ok c8
          subst et
          simp only [Bool.and_eq_true, decide_eq_true_eq] at c9
          obtain ⟨⟨⟨⟨⟨d1, d2⟩, d3⟩, d4⟩, d5⟩, d6⟩ := c9
          obtain ⟨hL, hF⟩ := G.tg y d2
          refine ⟨fun k z => by rw [hd] at z; cases z; exact ⟨d3, d4⟩, fun a oe cls d pn hz hf => ?_⟩
          have pv := val_pe G (pn := pn) (a := a) T hz hf s2 q2 d6
          have r := ps_set (X := X.suite a ((a, oe) :: pn)) (pos' := p3) (pos := p2) G.nod d1 (show L2.Loc X.env.scope y by rw [G.esc]; exact hL) pv (swap_no d5) hF
          unfold suiteT
          rw [hd]
          exact r
        | Return v p2 =>
          obtain ⟨w, ev, hd, c9⟩ := retH_ok c8
          subst ev
          refine ⟨fun k z => (by rw [hd] at z; cases z), fun a oe cls d pn hz hf => ?_⟩
          have pv := val_pe G (pn := pn) (a := a) T hz hf s2 q2 c9
          unfold suiteT
          rw [hd]
          exact ps_ret pv
        | _ => cases c8
      refine ⟨⟨.ref ca, h.slot, suiteT X.K h ca⟩, ⟨rfl, ⟨ca, cd, q4, q1, rfl, rfl, T.is1, T.is2⟩, s3, main.1, fun z => ?_, c6, c7⟩, fun r => HsOk.cons (l := ⟨.ref ca, h.slot, suiteT X.K h ca⟩) ⟨gl_of G c2, (odd_no c3).1, .inl q3⟩ s1 (fun a oe cls d pn hz hf => pss_one (main.2 a oe cls d pn hz hf)) r⟩
      rw [z] at c5
      simpa using c5
theorem hds_ok (G : Gd X C nt n sc tg) : ∀ {hs : List Hd} {es : List ExceptHandler}, ckHds nt C.lk X.N sc tg hs es = true → ∃ ls, HdsRel X.K C hs ls ∧ HsOk X es ls
  | [], [], _ => ⟨[], .nil, .nil⟩
  | h :: hs, e :: es, c => by
    have c : (ckHd nt C.lk X.N sc tg h e && ckHds nt C.lk X.N sc tg hs es) = true := c
    rw [Bool.and_eq_true] at c
    obtain ⟨l, r1, r2⟩ := hd_ok G c.1
    obtain ⟨ls, s1, s2⟩ := hds_ok G c.2
    exact ⟨l :: ls, .cons r1 s1, r2 s2⟩
  | [], _ :: _, c => by cases c
  | _ :: _, [], c => by cases c
theorem ss_try {b : S} {hs : List Hd} (hb : SdS C nt b) : SdS C nt (.try_ b hs) := by
  intro X n sc tg W lp G tk po sts hh
  have h : (match (asS1 sts).bind asTry with
    | some (bs, h0, hds) => lp && ckHds nt C.lk X.N sc tg hs (h0 :: hds) && ckS nt C.lk X.N sc tg lp b bs
    | none => false) = true := hh
  clear hh
  split at h
  · rename_i bs h0 hds e1
    obtain ⟨s, ex, e2⟩ := bindS e1
    obtain ⟨p, e3⟩ := try_ok e2
    subst ex e3
    rw [Bool.and_eq_true, Bool.and_eq_true] at h
    obtain ⟨⟨h1, h2⟩, h3⟩ := h
    obtain ⟨ls, r, ok⟩ := hds_ok G h2
    have q := po h1
    exact Sn.of (PS.mono (ps_try_hs (tb := fun W' => tS X.K C W' b) q.stk q.fr G.nod tk (fun W' pn xe tk' own => (hb (X := X.tr pn xe) lp (G.tr pn xe) tk' (fun _ => ⟨own, q.stk, q.fr⟩) bs h3).ss) ok) fun D σ H z => tS_try G.exm r z)
  · cases h
end PL
end

section
set_option maxRecDepth 100000
/-! PlSta: names set. -/
namespace PL
open PySem PySem.Spec PyProof.Rows L2
variable {C : Cf} {nt : NT}
theorem comp_only {N : List Str} {sc tg : Scope} {e : E} {elt : Expr} {gs : List Comprehension} {scope : Scope} {pos : Pos} (h1 : one e = true) (h : ck nt C.lk N e sc tg [.ListComp elt gs scope pos] = true) :
    (∃ m e0 p it c t iter ifs, e = .comp m e0 p it c ∧ gs = [⟨t, iter, ifs, 0⟩]) ∨ ∃ e0 p it c p2 it2 c2 t iter ifs t2 iter2 ifs2, e = .comp2 e0 p it c p2 it2 c2 ∧ gs = [⟨t, iter, ifs, 0⟩, ⟨t2, iter2, ifs2, 0⟩] := by
  cases e with
  | comp m e0 p it c =>
    have h0 : (match (as1 [Expr.ListComp elt gs scope pos]).bind asComp with
      | some (elt, t, iter, ifs, scope) => one e0 && (slotsP p).all (free C.lk) && ckP N scope p t && blkC N sc scope (ownOf N p) && itOk it t && noSet iter && ck nt C.lk N it sc tg [iter] && ck nt C.lk N e0 (relS scope sc) scope [elt] &&
          (match as1 ifs with
          | some u => one c && tst u && ck nt C.lk N c (relS scope sc) scope [u]
          | none => ifs.isEmpty && isNilE c)
      | none => false) = true := h
    clear h
    split at h0
    · rename_i elt' t iter ifs scope' e1
      obtain ⟨x, ex, e2⟩ := bind1 e1
      cases ex
      obtain ⟨q, e3⟩ := comp_ok e2
      cases e3
      exact .inl ⟨m, e0, p, it, c, t, iter, ifs, rfl, rfl⟩
    · cases h0
  | comp2 e0 p it c p2 it2 c2 =>
    cases q : (as1 [Expr.ListComp elt gs scope pos]).bind asComp2 with
    | none =>
      unfold ck at h
      rw [q] at h
      cases h
    | some r =>
      obtain ⟨elt', ⟨t, iter, ifs, a⟩, ⟨t2, iter2, ifs2, b⟩, scope'⟩ := r
      obtain ⟨x, ex, e2⟩ := bind1 q
      cases ex
      obtain ⟨q, e3⟩ := comp2_ok e2
      cases e3
      exact .inr ⟨e0, p, it, c, p2, it2, c2, t, iter, ifs, t2, iter2, ifs2, rfl, rfl⟩
  | nil => cases h1
  | cons _ _ => cases h1
  | star _ _ => cases h1
  | iter _ _ => cases h1
  | op o es => cases h
  | and _ _ => cases h
  | or _ _ => cases h
  | _ => cases h
theorem ss_set {i : Nat} {e : E} : SdS C nt (.set i e) := by
  intro X n sc tg W lp G tk po sts hh
  have h : (match (asS1 sts).bind asAsg with
    | some (t, x, _) => (match asNameP t with
      | some (y, p) => decide (X.N[i]? = some y) && isTg tg y && one e && ck nt C.lk X.N e sc tg [x] && (swapOk sc y p x || swapB sc y p x)
      | none => false)
    | none => false) = true := hh
  clear hh
  split at h
  · rename_i t x pos e1
    obtain ⟨s, es, e2⟩ := bindS e1
    have e3 := asg_ok e2
    split at h
    · rename_i y p e4
      have e5 := nameP_ok e4
      subst es e3 e5
      simp only [Bool.and_eq_true, decide_eq_true_eq] at h
      obtain ⟨⟨⟨⟨h1, h2⟩, h3⟩, h4⟩, h5⟩ := h
      rw [Bool.or_eq_true] at h5
      rcases h5 with h5 | h5
      · exact sn_set G h1 h2 ((Sd.at (snd e) G tk h4).pe h3) (swapOk_ok G h5)
      · cases x with
        | ListComp elt gs scope pp =>
          rcases comp_only h3 h4 with ⟨m, e0, q, it, c, t, iter, ifs, ee, eg⟩ | ⟨e0, q, it, c, q2, it2, c2, t, iter, ifs, t2, iter2, ifs2, ee, eg⟩
          · subst ee eg
            exact sn_setLc G tk h1 h5 h4
          · subst ee eg
            exact sn_setLc2 G tk h1 h5 h4
        | _ => cases h5
    · cases h
  · cases h
theorem sw1 {N : List Str} {sc : Scope} {p : Pat} {ts : List Expr} {x : Str} {xs : List Str} (h : swNames N sc p ts (x :: xs) = true) : ∃ i ps px ts', p = .cons (.v i) ps ∧ ts = .Name x px :: ts' ∧ N[i]? = some x ∧ sc.names.lookup x = some .local ∧ swNames N sc ps ts' xs = true := by
  cases p with
  | nil => cases ts <;> cases h
  | v i => cases ts <;> cases h
  | cons p ps =>
    cases ts with
    | nil => cases h
    | cons e es =>
      cases p with
      | v i =>
        have h0 : (decide (N[i]? = some x) && decide (asName e = some x) && decide (sc.names.lookup x = some .local) && swNames N sc ps es xs) = true := h
        simp only [Bool.and_eq_true, decide_eq_true_eq] at h0
        obtain ⟨⟨⟨h1, h2⟩, h3⟩, h4⟩ := h0
        obtain ⟨p1, e1⟩ := name_ok h2
        subst e1
        exact ⟨i, ps, p1, es, rfl, rfl, h1, h3, h4⟩
      | nil => cases h
      | cons _ _ => cases h
theorem sw0 {N : List Str} {sc : Scope} {p : Pat} {ts : List Expr} (h : swNames N sc p ts [] = true) : p = .nil ∧ ts = [] := by
  cases p with
  | nil => cases ts with
    | nil => exact ⟨rfl, rfl⟩
    | cons _ _ => cases h
  | v i => cases ts <;> cases h
  | cons p ps => cases ts <;> cases h
theorem sw_len {ts vs : List Expr} {k : Str → Option NameKind} {xs : List Str} (h : swSpec true k ts vs = some (some xs)) : xs.length = ts.length ∧ vs.length = ts.length ∧ (ts.length = 2 ∨ ts.length = 3) := by
  unfold swSpec at h
  split at h
  · cases h
  · rename_i h1
    split at h
    · cases h
    · split at h
      · cases h
      · rename_i h3
        split at h
        · cases h
        · split at h
          · cases h
          · cases h
            simp only [Bool.or_eq_true, Bool.not_eq_true', bne_iff_ne, ne_eq, not_or, Bool.not_eq_false, Bool.not_true, Bool.false_eq_true, not_false_eq_true, and_true, Decidable.not_not, Bool.or_eq_false_iff] at h1 h3
            obtain ⟨h4, h5⟩ := h1
            refine ⟨h3.1, h5, ?_⟩
            by_cases h6 : ts.length = 2
            · exact .inl h6
            · right
              have h4' : ¬ts.length = 2 → ts.length = 3 := by simpa using h4
              exact h4' h6
theorem ss_par {p : Pat} {es : E} : SdS C nt (.par p es) := by
  intro X n sc tg W lp G tk po sts hh
  have h : (match (asS1 sts).bind asAsg with
    | some (t, x, _) => (match asTup2 t x with
      | some (ts, vs) => ckPar X.N sc tg p ts vs && isL es && ck nt C.lk X.N es sc tg vs
      | none => false)
    | none => false) = true := hh
  clear hh
  split at h
  · rename_i t x pos e1
    obtain ⟨s, e0, e2⟩ := bindS e1
    have e3 := asg_ok e2
    split at h
    · rename_i ts vs e4
      obtain ⟨kt, pt, kv, pv, e5, e6⟩ := tup2_ok e4
      subst e0 e3 e5 e6
      rw [Bool.and_eq_true, Bool.and_eq_true] at h
      obtain ⟨⟨h1, h2⟩, h3⟩ := h
      have pa := (snd es G tk (W := W) vs h3).pa h2
      unfold ckPar at h1
      rw [Bool.and_eq_true, Bool.and_eq_true] at h1
      obtain ⟨⟨k1, k2⟩, k3⟩ := h1
      cases e7 : swSpec true (fun x => sc.names.lookup x) ts vs with
      | none => rw [e7] at k3; cases k3
      | some r =>
        rw [e7] at k3
        cases r with
        | none =>
          have k3 : (decide (lenP p ≤ 100) && ckPs X.N tg p ts) = true := k3
          rw [Bool.and_eq_true, decide_eq_true_eq] at k3
          exact sn_parT G k1 e7 k2 k3.1 k3.2 pa
        | some xs =>
          have k3 : (nodupP p && swNames X.N sc p ts xs) = true := k3
          rw [Bool.and_eq_true] at k3
          obtain ⟨k4, k5⟩ := k3
          have nd : (slotsP p).Nodup := of_decide_eq_true k4
          obtain ⟨l1, l2, l3⟩ := sw_len e7
          match xs, l1, k5, e7 with
          | [], l1, _, _ => exfalso; rw [← l1] at l3; simp at l3
          | [_], l1, _, _ => exfalso; rw [← l1] at l3; simp at l3
          | _ :: _ :: _ :: _ :: _, l1, _, _ => exfalso; rw [← l1] at l3; simp at l3
          | [x, y], l1, k5, e7 =>
            obtain ⟨i, ps, px, ts1, ep, et, n1, lx, k6⟩ := sw1 k5
            obtain ⟨j, ps2, py, ts2, ep2, et2, n2, ly, k7⟩ := sw1 k6
            obtain ⟨ep3, et3⟩ := sw0 k7
            subst ep3 et3 ep2 et2 ep et
            match vs, l2, pa, e7 with
            | [a, b], _, pa, e7 =>
              have hij : i ≠ j := by
                simp [slotsP] at nd
                exact nd
              exact sn_par2 G k1 e7 n1 n2 hij lx ly pa
          | [x, y, z], l1, k5, e7 =>
            obtain ⟨i, ps, px, ts1, ep, et, n1, lx, k6⟩ := sw1 k5
            obtain ⟨j, ps2, py, ts2, ep2, et2, n2, ly, k7⟩ := sw1 k6
            obtain ⟨k, ps3, pz, ts3, ep3, et3, n3, lz, k8⟩ := sw1 k7
            obtain ⟨ep4, et4⟩ := sw0 k8
            subst ep4 et4 ep3 et3 ep2 et2 ep et
            match vs, l2, pa, e7 with
            | [a, b, c], _, pa, e7 =>
              have hij : (i ≠ j ∧ i ≠ k) ∧ j ≠ k := by
                simp [slotsP] at nd
                exact nd
              exact sn_par3 G k1 e7 n1 n2 n3 hij.1.1 hij.1.2 hij.2 lx ly lz pa
    · cases h
  · cases h
/-- without errors -/
def noErr : S → Bool
  | .raise _ _ => false
  | .try_ _ _ => false
  | .seq a b => noErr a && noErr b
  | .ite _ a b => noErr a && noErr b
  | .for_ _ _ b => noErr b
  | .while_ _ b => noErr b
  | _ => true
theorem sndS (s : S) : SdS C nt s := by
  induction s with
  | skip => intro X n sc tg W lp G tk po sts h; exact sn_skip h
  | seq a b ha hb => exact ss_seq ha hb
  | ret e => exact ss_ret
  | retN => exact ss_retN
  | set i e => exact ss_set
  | asg p e => exact ss_asg
  | par p es => exact ss_par
  | ite c a b ha hb => exact ss_ite ha hb
  | for_ p it b hb => exact ss_for hb
  | while_ c b hb => exact ss_while hb
  | brk => exact ss_brk
  | cnt => exact ss_cnt
  | expr e => exact ss_expr
  | append i e => exact ss_append
  | setix i ix e => exact ss_setix
  | extend i e => intro X n sc tg W lp G tk po sts h; cases h
  | appendix i ix e => intro X n sc tg W lp G tk po sts h; cases h
  | appendsd i k d e => intro X n sc tg W lp G tk po sts h; cases h
  | raise c es => exact ss_raise
  | try_ b hs hb => exact ss_try hb
end PL
end

section
set_option maxRecDepth 100000
/-! PlFn: each def keeps the promise that the evaluator gives. -/
namespace PL
open PySem PySem.Spec PyProof.Rows L2

/-- the parameters that are handed in to be changed, with what stands in them -/
def locks : Nat → List Nat → List V → List (Nat × V)
  | _, [], _ => []
  | _, _ :: _, [] => []
  | j, 0 :: ms, _ :: vs => locks (j + 1) ms vs
  | j, (_ + 1) :: ms, v :: vs => (j, v) :: locks (j + 1) ms vs
theorem locks_mem : ∀ {j : Nat} {pm : List Nat} {vs : List V} {p : Nat × V}, p ∈ locks j pm vs → ∃ i m, p.1 = j + i ∧ pm[i]? = some (m + 1) ∧ vs[i]? = some p.2
  | _, [], _, _, h => by cases h
  | _, _ :: _, [], _, h => by
    cases h
  | j, 0 :: ms, v :: vs, p, h => by
    obtain ⟨i, m, h1, h2, h3⟩ := locks_mem (j := j + 1) (pm := ms) (vs := vs) h
    exact ⟨i + 1, m, by omega, h2, h3⟩
  | j, (q + 1) :: ms, v :: vs, p, h => by
    rcases List.mem_cons.mp (show p ∈ (j, v) :: locks (j + 1) ms vs from h) with e | h
    · subst e
      exact ⟨0, q, rfl, rfl, rfl⟩
    · obtain ⟨i, m, h1, h2, h3⟩ := locks_mem (j := j + 1) (pm := ms) (vs := vs) h
      exact ⟨i + 1, m, by omega, h2, h3⟩
theorem locks_at : ∀ {j : Nat} {pm : List Nat} {vs : List V} {i m : Nat} {v : V}, pm[i]? = some (m + 1) → vs[i]? = some v → (j + i, v) ∈ locks j pm vs
  | _, [], _, _, _, _, h, _ => by simp at h
  | _, _ :: _, [], _, _, _, _, h => by simp at h
  | j, q :: ms, w :: vs, 0, m, v, h1, h2 => by
    have e1 : q = m + 1 := by simpa using h1
    have e2 : w = v := by simpa using h2
    subst e1 e2
    exact List.mem_cons_self
  | j, q :: ms, w :: vs, i + 1, m, v, h1, h2 => by
    have h := locks_at (j := j + 1) (pm := ms) (vs := vs) (i := i) (m := m) (v := v) (by simpa using h1) (by simpa using h2)
    have e : j + 1 + i = j + (i + 1) := by omega
    rw [e] at h
    cases q with
    | zero => exact h
    | succ q => exact List.mem_cons_of_mem _ h
theorem lko_locks {C : Cf} {vs : List V} : Lko C (locks 0 C.lk vs) := fun p hp => by
  obtain ⟨i, m, h1, h2, _⟩ := locks_mem hp
  have e : p.1 = i := by omega
  unfold free
  rw [e, List.getD_eq_getElem?_getD, h2]
  rfl
theorem si_nones : ∀ {n : Nat}, SI (List.replicate n none) (List.replicate n none) []
  | 0 => .nil
  | n + 1 => .emp si_nones
theorem si_start : ∀ {vs : List V} {args : List KD} {n : Nat}, vs.length = args.length → SI (vs.map some ++ List.replicate n none) (args.map some ++ List.replicate n none) (vs.zip args)
  | [], [], _, _ => si_nones
  | v :: vs, a :: args, n, h => .has (si_start (by simpa using h))
  | [], _ :: _, _, h => by simp at h
  | _ :: _, [], _, h => by simp at h
theorem mask_ret : ∀ {pm : List Nat} {σ : L2.St} {env : Env} {I : List It} {vs : List V}, SI σ env I → (∀ (i m : Nat) (v : V), pm[i]? = some (m + 1) → vs[i]? = some v → σ[i]? = some (some v)) → vs.length = pm.length →
    ∃ os J, RetI vs (maskO pm env) os ∧ I.Perm (os ++ J)
  | [], σ, env, I, vs, s, l, h1 => by
    have e : vs = [] := List.length_eq_zero_iff.mp h1
    subst e
    exact ⟨[], I, .nil, List.Perm.refl _⟩
  | m :: ms, σ, env, I, [], s, l, h1 => by simp at h1
  | m :: ms, σ, env, I, v :: vs, s, l, h1 => by
    cases s with
    | nil =>
      obtain ⟨os, J, r, p⟩ := mask_ret (pm := ms) (vs := vs) .nil (fun i k w e1 e2 => by have := l (i + 1) k w (by simpa using e1) (by simpa using e2); simp at this) (by simpa using h1)
      exact ⟨os, J, by cases m <;> exact .gone r, p⟩
    | @emp x σ env I s =>
      obtain ⟨os, J, r, p⟩ := mask_ret (pm := ms) (vs := vs) s (fun i k w e1 e2 => by have := l (i + 1) k w (by simpa using e1) (by simpa using e2); simpa using this) (by simpa using h1)
      cases m with
      | zero => exact ⟨os, J, .gone r, p⟩
      | succ m => exact ⟨os, J, .gone r, p⟩
    | @has v0 kd σ env I s =>
      obtain ⟨os, J, r, p⟩ := mask_ret (pm := ms) (vs := vs) s (fun i k w e1 e2 => by have := l (i + 1) k w (by simpa using e1) (by simpa using e2); simpa using this) (by simpa using h1)
      cases m with
      | zero => exact ⟨os, (v0, kd) :: J, .gone r, (p.cons _).trans List.perm_middle.symm⟩
      | succ m =>
        have e : v0 = v := by
          have := l 0 m v rfl rfl
          simpa using this
        subst e
        exact ⟨(v0, kd) :: os, J, .has r, p.cons _⟩
/-- what is known of a def's text and object -/
structure Stat (K : PySem.W.Frag) (mg : Str → Option Value) (nt : NT) (f : Nat) (fd : FnDef) (x : Str) (ad : Addr) (fdat : FuncData) (ps N : List Str) (qual : Str) (params : Arguments) (body : List Stmt) (scope : Scope) : Prop where
  nm : nt.fn f = some x
  mg : mg x = some (.ref ad)
  fn : FunD K x qual params body scope [] [] ad fdat
  sc : FnScope N ps scope
  bd : Binds K fdat ps []
  len : ps.length = fd.pm.length
  kw : ∀ np perm ks, nt.kw f np perm = some ks → KwB K fdat ps np perm ks
  ns : N.length = fd.ns
  ck : ckS nt fd.pm N scope scope true fd.body body = true
/-- what the evaluator is run with at a depth -/
def cfN (fns : Nat → Option FnDef) (glb : Nat → Option D) (cls : Nat → Option ClsDef) (cad : Nat → Option Addr) (n : Nat) (lk : List Nat) : Cf := ⟨fns, glb, cls, callN fns glb cls n, cad, lk⟩
variable {P : Program} {w : World} {K : PySem.W.Frag} {mg : Str → Option Value} {base : Heap} {nt : NT} {fns : Nat → Option FnDef} {glb : Nat → Option D} {cls : Nat → Option ClsDef} {cad : Nat → Option Addr}
/-- the text's facts -/
structure Facts (P : Program) (K : PySem.W.Frag) (mg : Str → Option Value) (nt : NT) (fns : Nat → Option FnDef) (glb : Nat → Option D) (cls : Nat → Option ClsDef) (cad : Nat → Option Addr) : Prop where
  fn : ∀ f fd, fns f = some fd → ∃ nm ad fdat ps N qual params body scope, Stat K mg nt f fd nm ad fdat ps N qual params body scope
  fnd : ∀ f nm, nt.fn f = some nm → (fns f).isSome = true
  gld : ∀ g nm, nt.gl g = some nm → (glb g).isSome = true
  blt : ∀ x ∈ bltNames, mg x = none
  gl : ∀ x d, glb x = some d → ∃ nm v u, nt.gl x = some nm ∧ mg nm = some u ∧ RelV v u ∧ ∀ F, Rp K F v d
  ex : ∀ c cd, cls c = some cd → ∃ nm ca, nt.cl c = some nm ∧ nt.fl c = cd.fld ∧ mg nm = some (.ref ca) ∧ cad c = some ca ∧ ErrOk K P mg ca cd
  exd : ∀ c nm, nt.cl c = some nm → (cls c).isSome = true
  exm : ∀ c1 c2 a1 a2, cad c1 = some a1 → cad c2 = some a2 → (cls c1).isSome = true → (cls c2).isSome = true → PySem.W.exmOne K (.ref a1) (.ref a2) = some (c1 == c2)
/-- each def at a depth -/
def AllAt (P : Program) (w : World) (K : PySem.W.Frag) (mg : Str → Option Value) (base : Heap) (nt : NT) (fns : Nat → Option FnDef) (glb : Nat → Option D) (cls : Nat → Option ClsDef) (cad : Nat → Option Addr) (n : Nat) : Prop :=
  ∀ f fd, fns f = some fd → ∃ nm ad fdat ps, nt.fn f = some nm ∧ mg nm = some (.ref ad) ∧ PySem.W.keepIn K (.ref ad) = true ∧ Binds K fdat ps [] ∧ ps.length = fd.pm.length ∧ (∀ np perm ks, nt.kw f np perm = some ks → KwB K fdat ps np perm ks) ∧
    FnOk P w K mg base (L2.CX P w) n ad fdat ps (spF K (cfN fns glb cls cad n []) f fd.pm.length)
theorem gd_of {CX : CXT} {N ps : List Str} {qual : Str} {scope : Scope} {f : Addr} {cdv : Value} {A : Around} {outer : List PySem.Env} {s : Shared} {H : Hp} {E : XK} {n : Nat} {lk : List Nat} (fa : Facts P K mg nt fns glb cls cad) (al : AllAt P w K mg base nt fns glb cls cad n)
    (S : FnScope N ps scope) (hr : Room n (A.deeper (envOfC qual scope s.heap.objs.size f cdv))) : Gd (cxOf CX P w K mg base N qual scope f cdv A outer s H E) (cfN fns glb cls cad n lk) nt n scope scope where
  nod := S.nd
  esc := rfl
  tg := fun x h => by
    unfold isTg at h
    rw [Bool.or_eq_true, decide_eq_true_eq, decide_eq_true_eq] at h
    exact ⟨h, .inl rfl⟩
  calm := rfl
  room := hr
  blt := fa.blt
  fn := al
  fnd := fa.fnd
  gld := fa.gld
  gl := fa.gl
  ex := fa.ex
  exd := fa.exd
  exm := fa.exm
theorem all_zero (fa : Facts P K mg nt fns glb cls cad) : AllAt P w K mg base nt fns glb cls cad 0 := fun f fd e => by
  obtain ⟨nm, ad, fdat, ps, N, qual, params, body, scope, st⟩ := fa.fn f fd e
  refine ⟨nm, ad, fdat, ps, st.nm, st.mg, st.fn.kp, st.bd, st.len, st.kw, ⟨fun vs H Q E h => h.1.trans st.len.symm, fun A outer s H args us vs Q E _ _ _ _ h => ?_⟩⟩
  obtain ⟨_, F, A, T, as, _, _, h⟩ := h
  exact h.elim
theorem stat_succ (fa : Facts P K mg nt fns glb cls cad) {n : Nat} (al : AllAt P w K mg base nt fns glb cls cad n) {f : Nat} {fd : FnDef} {nm : Str} {ad : Addr} {fdat : FuncData} {ps N : List Str} {qual : Str} {params : Arguments} {body : List Stmt} {scope : Scope}
    (e : fns f = some fd) (st : Stat K mg nt f fd nm ad fdat ps N qual params body scope) : FnOk P w K mg base (L2.CX P w) (n + 1) ad fdat ps (spF K (cfN fns glb cls cad (n + 1) []) f fd.pm.length) := by
  refine st.fn.ok st.sc (fun vs H Q E h => h.1.trans st.len.symm) fun cdv A outer s H vs Q E hr h => ?_
  have G := gd_of (CX := L2.CX P w) (N := N) (ps := ps) (qual := qual) (scope := scope) (f := ad) (cdv := cdv) (A := A) (outer := outer) (s := s) (H := H) (E := E) (lk := fd.pm) fa al st.sc hr
  have tk : Takes (cxOf (L2.CX P w) P w K mg base N qual scope ad cdv A outer s H E) (fun c d _ H => E c d H) := takes_of (E₁ := fun e' s'' => L2.CX P w outer H s E e' s'') rfl rfl rfl rfl
  have po : PassesOwn (model P w) (cxOf (L2.CX P w) P w K mg base N qual scope ad cdv A outer s H E).A (cxOf (L2.CX P w) P w K mg base N qual scope ad cdv A outer s H E).env (cxOf (L2.CX P w) P w K mg base N qual scope ad cdv A outer s H E).xe :=
    passes_of (X := cxOf (L2.CX P w) P w K mg base N qual scope ad cdv A outer s H E) (K := fun e s'' => L2.CX P w outer H s E e s'') (E₁ := fun e' s'' => L2.CX P w outer H s E e' s'') rfl
  refine ⟨tS K (cfN fns glb cls cad n fd.pm) (fun c d _ H => E c d H) fd.body, (sndS (C := cfN fns glb cls cad n fd.pm) fd.body true G tk (fun _ => ⟨po, rfl, rfl⟩) body st.ck).ss, ?_⟩
  obtain ⟨hl, F, A', T, args, la, ok, h⟩ := h
  have hvp : vs.length = fd.pm.length := hl
  have hpN : fd.pm.length ≤ fd.ns := by
    have e1 := congrArg List.length st.sc.pre
    rw [List.length_take] at e1
    have e2 := st.len
    have e3 := st.ns
    omega
  have in0 : In K (locks 0 fd.pm vs) F (startE fd args) (L2.start N vs) H A' T := by
    refine ⟨vs.zip args, ?_, ok, fun p hp => ?_⟩
    · unfold L2.start startE
      have e1 : N.length - vs.length = fd.ns - args.length := by rw [st.ns, hvp, la]
      rw [e1]
      exact si_start (hvp.trans la.symm)
    · obtain ⟨i, m, h1, h2, h3⟩ := locks_mem hp
      have e1 : p.1 = i := by omega
      unfold L2.start
      rw [e1, List.getElem?_append_left (by rw [List.length_map]; exact (List.getElem?_eq_some_iff.mp h3).1), List.getElem?_map, h3]
      rfl
  refine ⟨locks 0 fd.pm vs, F, A', T, startE fd args, lko_locks (C := cfN fns glb cls cad n fd.pm), in0, ?_⟩
  have h : match callN fns glb cls (n + 1) f args with
    | .ok kd outs => ∀ F' H' v os, Same F F' → RetI vs outs os → Ok K F' H' A' ((v, kd) :: (os ++ T)) → Q v H'
    | .exc x outs => ∀ F' H' c dd os, Same F F' → RetI vs outs os → Ok K F' H' A' (os ++ T) → ExR K (cfN fns glb cls cad (n + 1) []) F' H' x c dd → E c dd H'
    | .bad _ => False := h
  have e1 : callN fns glb cls (n + 1) f args = run fns glb cls (callN fns glb cls n) fd args := by
    show (match fns f with
      | some fd => run fns glb cls (callN fns glb cls n) fd args
      | none => .bad "no such def") = _
    rw [e]
  rw [e1] at h
  unfold run at h
  have hen : ∀ {env' : Env} {σ' : L2.St} {F' H' : Hp} {T'}, In K (locks 0 fd.pm vs) F' env' σ' H' A' T' → ∃ os J, RetI vs (maskO fd.pm env') os ∧ Ok K F' H' A' ((os ++ J) ++ T') := fun {env' σ' F' H' T'} i => by
    obtain ⟨I, s, o, l⟩ := i
    obtain ⟨os, J, r, p⟩ := mask_ret (pm := fd.pm) (vs := vs) s (fun i m v e1 e2 => by have := l _ (locks_at (j := 0) e1 e2); simpa using this) hvp
    exact ⟨os, J, r, o.perm (p.append_right _)⟩
  show PostS K (cfN fns glb cls cad n fd.pm) (fun c d _ H => E c d H) (locks 0 fd.pm vs) F A' T (evS fns glb (callN fns glb cls n) cls fd.pm fd.body (startE fd args)) { nx := fun _ H' => Q .non H', rt := Q }
  rw [if_pos la] at h
  have mv : ∀ {F' H' : Hp} {x : It} {os J : List It}, Ok K F' H' A' ((os ++ J) ++ (x :: T)) → Ok K F' H' A' (x :: (os ++ T)) := fun {F' H' x os J} o => by
    refine Ok.dropL (I := J) (o.perm ?_)
    have p1 : ((os ++ J) ++ x :: T).Perm ((J ++ os) ++ x :: T) := List.Perm.append_right _ List.perm_append_comm
    have p2 : ((J ++ os) ++ x :: T).Perm (J ++ (x :: (os ++ T))) := by
      rw [List.append_assoc]
      exact List.Perm.append_left J List.perm_middle
    exact p1.trans p2
  have mv0 : ∀ {F' H' : Hp} {os J : List It}, Ok K F' H' A' ((os ++ J) ++ T) → Ok K F' H' A' (os ++ T) := fun {F' H' os J} o => by
    refine Ok.dropL (I := J) (o.perm ?_)
    have p1 : ((os ++ J) ++ T).Perm ((J ++ os) ++ T) := List.Perm.append_right _ List.perm_append_comm
    refine p1.trans ?_
    rw [List.append_assoc]
  have la' : args.length = fd.pm.length := la
  cases er : evS fns glb (callN fns glb cls n) cls fd.pm fd.body (startE fd args) with
  | bad m =>
    rw [er] at h
    exact h
  | exc x env' =>
    rw [er] at h
    intro F' σ' H' c dd sm i ex
    obtain ⟨os, J, r, o⟩ := hen i
    exact h F' H' c dd os sm r (mv0 o) ex
  | ok f env' =>
    rw [er] at h
    cases f with
    | bk => exact h.elim
    | ct => exact h.elim
    | nx =>
      intro F' σ' H' sm i
      obtain ⟨os, J, r, o⟩ := hen i
      exact h F' H' .non os sm r ((mv0 o).addRp .non)
    | rt kd =>
      intro F' σ' H' v sm i
      obtain ⟨os, J, r, o⟩ := hen i
      exact h F' H' v os sm r (mv o)
theorem all_succ (fa : Facts P K mg nt fns glb cls cad) {n : Nat} (al : AllAt P w K mg base nt fns glb cls cad n) : AllAt P w K mg base nt fns glb cls cad (n + 1) := fun f fd e => by
  obtain ⟨nm, ad, fdat, ps, N, qual, params, body, scope, st⟩ := fa.fn f fd e
  exact ⟨nm, ad, fdat, ps, st.nm, st.mg, st.fn.kp, st.bd, st.len, st.kw, stat_succ fa al e st⟩
theorem all_at (fa : Facts P K mg nt fns glb cls cad) : ∀ n, AllAt P w K mg base nt fns glb cls cad n
  | 0 => all_zero fa
  | n + 1 => all_succ fa (all_at fa n)
end PL
end

section
set_option maxRecDepth 100000
/-! PlHd: the head's Hook with the errors' classes, the end of a law. -/
namespace PL
open PySem PySem.Spec PyProof.Rows L2
/-- an error's class as the text has it -/
structure XD where
  name : Str
  base : String
  fld : Option Str
  qual : Str := ""
  sf : Str := ""
  pr : Str := ""
  params : Arguments := ⟨[], [], none, [], [], none, []⟩
  body : List Stmt := []
  scope : Scope := ⟨.function, [], false, false, []⟩
  file : Str := ""
def XD.cd (x : XD) : ClsDef := ⟨x.base, x.fld⟩
def xCa (K : PySem.W.Frag) (x : XD) : Addr := He.ga K x.name
def xFi (K : PySem.W.Frag) (x : XD) : Addr := He.ma K (xCa K x) "__init__"
def xFd (K : PySem.W.Frag) (x : XD) : Option FuncData := match K.lookup (xFi K x) with
  | some ⟨_, _, .func fd, _⟩ => some fd
  | _ => none
def cdOf (fd : FuncData) : Addr := match fd.code with
  | .ref c => c
  | _ => 0
def ccOf (fd : FuncData) : Addr := match fd.closure with
  | [(_, c)] => c
  | _ => 0
abbrev XW : Type := Option (Str × Arguments × FuncBody × Scope × Addr × List Str × Addr)
def xW (K : PySem.W.Frag) (x : XD) : XW := match x.fld with
  | none => none
  | some _ => (xFd K x).map fun fd => (fd.qualname, fd.params, fd.body, fd.scope, fd.globals, fd.closure.map (·.1), fd.builtins)
def XD.val (x : XD) : XW := match x.fld with
  | none => none
  | some _ => some (x.qual, x.params, .stmts x.body, x.scope, mainGlobals, ["__class__"], builtinsNs)
def nwOf (b : String) : String := b ++ ".__new__"
def inOf (b : String) : String := b ++ ".__init__"
def bmOf (b : String) : List Value := [.type b, .type "Exception", .type "BaseException", .type "object"]
def xFile (K : PySem.W.Frag) (x : XD) (c : Addr) : Bool := match K.lookup c with
  | some ⟨_, _, .fields vs, _⟩ => (match vs[2]? with
    | some (Value.str fl _) => decide (fl = x.file)
    | _ => false)
  | _ => false
def xCell (K : PySem.W.Frag) (x : XD) (c : Addr) : Bool := match K.lookup c with
  | some ⟨_, _, .cell (some (.ref C)), _⟩ => decide (C = xCa K x)
  | _ => false
def xIni (K : PySem.W.Frag) (x : XD) (f : Str) : Bool := match xFd K x with
  | some fd => decide (fd.defaults = .none) && (decide (fd.code = .ref (cdOf fd)) && (PySem.W.codeIn K (.ref (cdOf fd)) x.qual && (xFile K x (cdOf fd) && (xCell K x (ccOf fd) &&
    (decide (PySem.W.takerIn K (xCa K x) f = some none) && (decide (PySem.W.findIn K (.ref (xCa K x)) "__init__" = some (some (.ref (xFi K x)))) &&
    (decide (PySem.W.typeIn K (.ref (xFi K x)) = some (.type "function")) && (decide (PySem.W.ks_superIn K (xCa K x) (xCa K x) "__init__" = some (some (.builtin (inOf x.base)))) &&
    (decide (PySem.W.nsIn K cStatics "thirdparty.any" = some none) && decide (PySem.W.findIn K (.ref (xCa K x)) f = some none))))))))))
  | none => false
def xErr (K : PySem.W.Frag) (x : XD) : Bool :=
  PySem.W.excInitIn K (xCa K x) (bmOf x.base) (nwOf x.base) && (PySem.W.excOver K (xCa K x) (bmOf x.base) && (PySem.W.hasDictIn K (xCa K x) && (PySem.W.keepIn K (.ref (xCa K x)) &&
  (decide (PySem.W.findIn K (.ref (xCa K x)) "__setattr__" = some (some (.builtin "object.__setattr__"))) && (decide (PySem.W.subIn K (.ref (xCa K x)) (.type "BaseException") = some true) &&
  (decide (PySem.W.typeIn K (.ref (xCa K x)) = some (.type "type")) && (decide (PySem.W.subIn K (.ref (xCa K x)) (.type x.base) = some true) && decide (PySem.W.mroIn K (xCa K x) (.ref (xCa K x)) = some true))))))))
def xCls (K : PySem.W.Frag) (x : XD) : Bool :=
  decide (PySem.W.findIn K (.ref (xCa K x)) "__getattribute__" = some (some (.builtin "BaseException.__getattribute__"))) && (decide (PySem.W.findIn K (.ref (xCa K x)) "__getattr__" = some none) &&
  (decide (PySem.W.findIn K (.ref (xCa K x)) "__class__" = some (some (.builtin "object.__class__"))) && (decide (PySem.W.specialIn K (.builtin "object.__class__") "__get__" = some (some (.builtin "getset_descriptor.__get__"))) &&
  (decide (PySem.W.takesIn K (.builtin "object.__class__") = some true) && decide (PySem.W.mroIn K (xCa K x) (.type "object") = some true)))))
def xKit (K : PySem.W.Frag) (x : XD) : Bool :=
  decide (PySem.W.kitOne K (.ref (xCa K x)) (.type "ValueError") = some (x.base == "ValueError")) && decide (PySem.W.kitOne K (.ref (xCa K x)) (.type "LookupError") = some (x.base == "LookupError"))
def XD.ok (K : PySem.W.Frag) (x : XD) : Bool :=
  He.eqO (PySem.W.nsIn K mainGlobals x.name) (some (some (.ref (xCa K x)))) && (xErr K x && (xCls K x && (xKit K x && match x.fld with
    | none => decide (PySem.W.findIn K (.ref (xCa K x)) "__init__" = some (some (.builtin (inOf x.base))))
    | some f => xIni K x f)))
/-- what the text of such an __init__ is -/
structure XT (P : Program) (x : XD) : Prop where
  bs : isBase x.base = true
  fl : ((P.main.file : Str) == x.file) = true
  bd : ∀ (name : Str) (kV doc pm ct a b : Value) (an : Option Addr) (cda cc : Addr), x.fld.isSome = true → bindArgs (PySem.W.ksFn name x.qual x.params x.body x.scope .none kV doc pm an (.ref cda) ct cc) ⟨[a, b], []⟩ = pure [(x.sf, a), (x.pr, b)]
  par : x.fld.isSome = true → ∃ ar : Arg, (x.params.posonlyargs ++ x.params.args).head? = some ar ∧ ar.arg = x.sf
  ne : x.fld.isSome = true → x.sf ≠ x.pr
  body : ∀ f, x.fld = some f → ∃ p0 p1 p2 p3 p4 p5 p6 p7 p8 p9, (p2.endLine == p4.line) = true ∧ x.body = [.Expr (.Call (.Attribute (.Call (.Name "super" p0) [] [] p1) "__init__" p2) [.Name x.pr p3] [] p4) p5, .Assign [.Attribute (.Name x.sf p6) f p7] (.Name x.pr p8) p9]
  sc : x.fld.isSome = true → x.scope.kind = .function ∧ x.scope.isCoroutine = false ∧ x.scope.isGenerator = false ∧ (∀ z ∈ x.scope.names, z.2 ≠ .cell) ∧ x.scope.names.lookup ("super" : Str) = some .globalImplicit ∧ x.scope.names.lookup ("__class__" : Str) = some .free ∧
    x.scope.names.lookup x.sf = some .local ∧ x.scope.names.lookup x.pr = some .local ∧ (P.main.scope.names.lookup ("super" : Str)).isSome = false ∧ (x.sf == ("__debug__" : Str)) = false ∧ (x.pr == ("__debug__" : Str)) = false
theorem base_facts {b : String} (h : isBase b = true) : PySem.W.KxsFacts b (inOf b) ∧ ExcBaseFacts b (nwOf b) (inOf b) (bmOf b) ∧ StoreFacts b (bmOf b) "object.__setattr__" "object" := by
  unfold isBase at h
  rw [Bool.or_eq_true, decide_eq_true_eq, decide_eq_true_eq] at h
  rcases h with e | e <;> subst e
  · exact ⟨PySem.W.kxs_ValueError, F.excBase_ValueError, F.store_ValueError⟩
  · exact ⟨PySem.W.kxs_LookupError, F.excBase_LookupError, F.store_LookupError⟩
theorem xErr_ok {K : PySem.W.Frag} {x : XD} (h : xErr K x = true) : ErrC K (xCa K x) x.base (nwOf x.base) (inOf x.base) (bmOf x.base) := by
  unfold xErr at h
  simp only [Bool.and_eq_true, decide_eq_true_eq] at h
  obtain ⟨h1, h2, h3, h4, h5, h6, h7, h8, h9⟩ := h
  exact ⟨h1, h2, h3, h4, h5, h6, h7, h8, h9⟩
theorem xIni_ok {P : Program} {K : PySem.W.Frag} {x : XD} {f : Str} (ef : x.fld = some f) (t : XT P x) (v : xW K x = x.val) (h : xIni K x f = true) :
    ∃ cda cc, ErrI K (xCa K x) (inOf x.base) f (xFi K x) ∧ IniD K P (xCa K x) f (xFi K x) x.qual x.sf x.pr x.params x.body x.scope cda cc ∧ PySem.W.findIn K (.ref (xCa K x)) f = some none := by
  have ei : x.fld.isSome = true := by rw [ef]; rfl
  unfold xIni at h
  unfold xW XD.val at v
  rw [ef] at v
  have v : (xFd K x).map (fun fd => (fd.qualname, fd.params, fd.body, fd.scope, fd.globals, fd.closure.map (·.1), fd.builtins)) = some (x.qual, x.params, FuncBody.stmts x.body, x.scope, mainGlobals, [("__class__" : Str)], builtinsNs) := v
  cases q : xFd K x with
  | none =>
    rw [q] at h
    cases h
  | some fd =>
    rw [q] at h v
    simp only [Bool.and_eq_true, decide_eq_true_eq] at h
    obtain ⟨h1, h2, h3, h4, h5, h6, h7, h8, h9, h10, h11⟩ := h
    have q2 : ∃ oc od osl, K.lookup (xFi K x) = some ⟨oc, od, .func fd, osl⟩ := by
      unfold xFd at q
      split at q
      · rename_i oc od fd' osl hk
        cases q
        exact ⟨_, _, _, hk⟩
      · cases q
    obtain ⟨oc, od, osl, lk⟩ := q2
    obtain ⟨n1, n2, n3, n4, n5, n6, n7, n8, n9, n10, n11, n12, n13, n14, n15⟩ := fd
    have v := Option.some.inj v
    simp only [Prod.mk.injEq] at v
    obtain ⟨v1, v2, v3, v4, v5, v6, v7⟩ := v
    subst v1 v2 v3 v4 v5 v7
    have h1 : n8 = Value.none := h1
    subst h1
    obtain ⟨cc, ec⟩ : ∃ cc : Addr, n7 = [(("__class__" : Str), cc)] := by
      clear h1 h2 h3 h4 h5 q v lk
      match n7, v6 with
      | [], v6 => cases v6
      | [(a, cc)], v6 =>
        have e : a = ("__class__" : Str) := (List.cons.inj v6).1
        exact ⟨cc, by rw [e]⟩
      | _ :: _ :: _, v6 => cases (List.cons.inj v6).2
    subst ec
    generalize ed : cdOf _ = cda at h2 h3 h4
    have h2 : n13 = .ref cda := h2
    subst h2
    have h5 : xCell K x cc = true := h5
    obtain ⟨s1, s2, s3, s4, s5, s6, s7, s8, s9, s10, s11⟩ := t.sc ei
    refine ⟨cda, cc, ⟨h6, h7, h8, h9, h10⟩, ⟨⟨oc, od, osl, n1, n9, n10, n11, n14, n12, lk⟩, h3, ?_, ?_, fun name kV doc pm ct a b an => t.bd name kV doc pm ct a b an cda cc ei, t.par ei, t.ne ei, t.body f ef, s1, s2, s3, s4, s5, s6, s7, s8, s9, s10, s11⟩, h11⟩
    · unfold xFile at h4
      split at h4
      · rename_i a b vs c hk
        split at h4
        · rename_i fl tf hv
          have e := of_decide_eq_true h4
          exact ⟨a, b, vs, c, fl, tf, hk, hv, by rw [e]; exact t.fl⟩
        · cases h4
      · cases h4
    · unfold xCell at h5
      split at h5
      · rename_i a b C c hk
        have e := of_decide_eq_true h5
        exact ⟨a, b, c, by rw [hk, e]⟩
      · cases h5
theorem XD.err {P : Program} {K : PySem.W.Frag} {mg : Str → Option Value} {x : XD} (t : XT P x) (v : xW K x = x.val) (hs : mg "super" = none) (h : x.ok K = true) : ErrOk K P mg (xCa K x) x.cd ∧ PySem.W.nsIn K mainGlobals x.name = some (some (.ref (xCa K x))) := by
  unfold XD.ok at h
  simp only [Bool.and_eq_true] at h
  obtain ⟨h1, h2, h3, h4, h5⟩ := h
  obtain ⟨f1, f2, f3⟩ := base_facts t.bs
  have T := xErr_ok h2
  unfold xCls at h3
  unfold xKit at h4
  simp only [Bool.and_eq_true, decide_eq_true_eq] at h3 h4
  obtain ⟨c1, c2, c3, c4, c5, c6⟩ := h3
  refine ⟨⟨⟨_, _, _, f1, f2, f3, T, ?_⟩, ⟨c1, c2, T.exC, T.hd⟩, ⟨c1, c2, T.exC, T.hd, c3, c4, c5, c6⟩, h4.1, h4.2⟩, He.eqO_ok h1⟩
  show match x.fld with
    | none => _
    | some f => _
  cases ef : x.fld with
  | none =>
    rw [ef] at h5
    exact of_decide_eq_true h5
  | some f =>
    rw [ef] at h5
    obtain ⟨cda, cc, i1, i2, i3⟩ := xIni_ok ef t v h5
    exact ⟨_, _, _, _, _, _, _, _, _, i1, i2, hs, i3⟩
/-! ### the Hook -/
def exmAll (K : PySem.W.Frag) (xs : List XD) : Bool := (List.range xs.length).all fun i => (List.range xs.length).all fun j => match xs[i]?, xs[j]? with
  | some x, some y => decide (PySem.W.exmOne K (.ref (xCa K x)) (.ref (xCa K y)) = some (i == j))
  | _, _ => true
abbrev AlX : Type := Bool × List He.FnW × List XW
def obsX (fn : List He.DefD) (xs : List XD) (K : PySem.W.Frag) : AlX :=
  ((bltNames.all fun x => He.eqO (PySem.W.nsIn K mainGlobals x) (some none)) && ((fn.all fun d => d.ok K && He.eqO (PySem.W.nsIn K mainGlobals d.name) (some (some (.ref (He.ga K d.name))))) && ((xs.all fun x => x.ok K) && exmAll K xs)),
    fn.map (fun d => He.fnW K d.at_), xs.map (xW K))
def valX (fn : List He.DefD) (xs : List XD) : AlX := (true, fn.map He.DefD.val, xs.map XD.val)
def SaysX (fn : List He.DefD) (xs : List XD) (K : PySem.W.Frag) : Prop := obsX fn xs K = valX fn xs
def obsXG (n : Nat) (fn : List He.DefD) (xs : List XD) (g : Addr → Option Obj) : AlX := obsX fn xs (He.frG g (cStatics :: He.asD g n))
def hookX (n : Nat) (fn : List He.DefD) (xs : List XD) : PySem.W.Hook where
  α := AlX
  obs := fun s => obsXG n fn xs s.heap.get?
  val := fun _ => valX fn xs
  says := fun _ h => ∃ K : PySem.W.Frag, K.In h ∧ SaysX fn xs K
  of := fun _ _ e => ⟨_, He.frG_in, e⟩
  keeps := fun _ _ _ ⟨K, hK, c⟩ k => ⟨K, PySem.W.Frag.In.keeps hK k, c⟩
theorem obsXG_eq {n : Nat} {fn : List He.DefD} {xs : List XD} {g : Addr → Option Obj} {s : Shared} (h : ∀ a, g a = s.heap.get? a) : obsXG n fn xs g = (hookX n fn xs).obs s := by
  have e : g = s.heap.get? := funext h
  rw [e] <;> rfl
section
variable {fn : List He.DefD} {xs : List XD} {K : PySem.W.Frag} {h : Heap} {mg : Str → Option Value} {P : Program}
theorem SaysX.bits (c : SaysX fn xs K) : (bltNames.all fun x => He.eqO (PySem.W.nsIn K mainGlobals x) (some none)) = true ∧ (fn.all fun d => d.ok K && He.eqO (PySem.W.nsIn K mainGlobals d.name) (some (some (.ref (He.ga K d.name))))) = true ∧ (xs.all fun x => x.ok K) = true ∧ exmAll K xs = true := by
  have c1 := congrArg (fun z : AlX => z.1) c
  obtain ⟨a, b⟩ := He.ba (show (_ && _) = true from c1)
  obtain ⟨b1, b2⟩ := He.ba b
  obtain ⟨b3, b4⟩ := He.ba b2
  exact ⟨a, b1, b3, b4⟩
theorem SaysX.blt (c : SaysX fn xs K) (X : K.In h) (G : h.Ns mainGlobals mg) : ∀ x ∈ bltNames, mg x = none := fun x hx =>
  PySem.W.mg_none_of X G (He.eqO_ok (List.all_eq_true.mp c.bits.1 x hx))
theorem SaysX.def_ (c : SaysX fn xs K) (X : K.In h) (G : h.Ns mainGlobals mg) (i : Nat) {d : He.DefD} (hd : fn[i]? = some d) (ha : d.at_ = (d.name, none)) :
    mg d.name = some (.ref (He.ga K d.name)) ∧ ∃ fd, FunD K d.name d.qual d.params d.body d.scope (d.dvs K) (d.kws K) (He.ga K d.name) fd := by
  obtain ⟨h1, h2⟩ := He.ba (List.all_eq_true.mp c.bits.2.1 d (List.mem_of_getElem? hd))
  refine ⟨PySem.W.mg_of X G (He.eqO_ok h2), ?_⟩
  have e : fn.map (fun d => He.fnW K d.at_) = fn.map He.DefD.val := congrArg (fun z : AlX => z.2.1) c
  have e2 : (fn.map fun d => He.fnW K d.at_)[i]? = (fn.map He.DefD.val)[i]? := by rw [e]
  rw [List.getElem?_map, List.getElem?_map, hd] at e2
  obtain ⟨fd, F⟩ := He.DefD.funD (Option.some.inj e2) h1
  have ea : He.fAd K d.at_ = He.ga K d.name := by rw [ha] <;> rfl
  rw [ea] at F
  exact ⟨fd, F⟩
theorem SaysX.err (c : SaysX fn xs K) (X : K.In h) (G : h.Ns mainGlobals mg) (i : Nat) {x : XD} (hx : xs[i]? = some x) (t : XT P x) : mg x.name = some (.ref (xCa K x)) ∧ ErrOk K P mg (xCa K x) x.cd := by
  have h1 := List.all_eq_true.mp c.bits.2.2.1 x (List.mem_of_getElem? hx)
  have e : xs.map (xW K) = xs.map XD.val := congrArg (fun z : AlX => z.2.2) c
  have e2 : (xs.map (xW K))[i]? = (xs.map XD.val)[i]? := by rw [e]
  rw [List.getElem?_map, List.getElem?_map, hx] at e2
  obtain ⟨e3, e4⟩ := XD.err t (Option.some.inj e2) (c.blt X G _ (by decide +kernel)) h1
  exact ⟨PySem.W.mg_of X G e4, e3⟩
def cadX (K : PySem.W.Frag) (xs : List XD) (i : Nat) : Option Addr := (xs[i]?).map (xCa K)
def clsX (xs : List XD) (i : Nat) : Option ClsDef := (xs[i]?).map XD.cd
theorem SaysX.exm (c : SaysX fn xs K) (c1 c2 : Nat) (a1 a2 : Addr) (h1 : cadX K xs c1 = some a1) (h2 : cadX K xs c2 = some a2) : PySem.W.exmOne K (.ref a1) (.ref a2) = some (c1 == c2) := by
  have hm := c.bits.2.2.2
  unfold cadX at h1 h2
  obtain ⟨x, q1, e1⟩ := Option.map_eq_some_iff.mp h1
  obtain ⟨y, q2, e2⟩ := Option.map_eq_some_iff.mp h2
  subst e1 e2
  have l1 := (List.getElem?_eq_some_iff.mp q1).1
  have l2 := (List.getElem?_eq_some_iff.mp q2).1
  have z := List.all_eq_true.mp (List.all_eq_true.mp hm c1 (List.mem_range.mpr l1)) c2 (List.mem_range.mpr l2)
  simp only [q1, q2] at z
  exact of_decide_eq_true z
end
theorem kwb_of {x qual : Str} {params : Arguments} {body : List Stmt} {scope : Scope} {f : Addr} {fd : FuncData} {ps : List Str} {np : Nat} {perm : List Nat} {ks : List Str} {K : PySem.W.Frag} (F : FunD K x qual params body scope [] [] f fd)
    (h : ∀ (kV doc pm : Value) (an : Option Addr) (cdv ct : Value) (us ws : List Value), us.length = np → ws.length = ks.length → bindArgs (PySem.W.fnOf x qual params body scope .none kV doc pm an cdv ct) ⟨us, ks.zip ws⟩ = pure (ps.zip (permL (us ++ ws) perm))) : KwB K fd ps np perm ks := by
  obtain ⟨oc, od, dV, kV, doc, pm, an, cdv, ct, osl, rfl, lk, hcd, hD, hK⟩ := F.ex
  rcases hD with ⟨_, rfl⟩ | ⟨e, _⟩
  · exact fun s us ws _ h1 h2 => .of_eq (h kV doc pm an cdv ct us ws h1 h2)
  · exact absurd rfl e
/-! ### the end -/
theorem ok_true {K : PySem.W.Frag} {F H : Hp} {A : List Addr} {I : List It} {v : V} {k : Nat} (o : Ok K F H A ((v, (k, .bool true)) :: I)) : v = .bl true := by
  obtain ⟨S, h1, _⟩ := o
  cases h1 with
  | @cons _ _ _ _ S1 S2 p t =>
    have r : Rp K F v (.bool true) := match k, p with
      | 0, p => p.1
      | k + 1, .inl p => p.2.1
      | k + 1, .inr ⟨a, vs, ds, S', e1, e2, _⟩ => by cases e2
    cases r
    rfl
theorem rpl_ns {K : PySem.W.Frag} {F : Hp} : ∀ ns : List Int, RpL K F (ns.map V.int) (ns.map PyData.int)
  | [] => .nil
  | n :: ns => .cons (.int n) (rpl_ns ns)
theorem pl_end {l : PySem.W.OpenLaw} {n k law : Nat} {q : Program} {loose : List Str} {XP : (Str → Option Value) → Heap → Prop} {YP : World → Heap → Prop} {d : DefRec} {x : Str} {nt : NT} {fns : Nat → Option FnDef} {glb : Nat → Option D} {cls : Nat → Option ClsDef} {fd : FnDef}
    (hn : l.most = some n) (hn2 : n ≤ sizeLine) (hdf : d.params.defaults = []) (hr : Room (k + 1) callerA) (hfd : fns law = some fd) (hpm : fd.pm.length = 1)
    (Fa : ∀ (w : World) (mg : Str → Option Value) (fa : Addr) (h : Heap), YP w h → h.Ns mainGlobals mg → mg d.name = some (.ref fa) →
      ∃ (K : PySem.W.Frag) (cad : Nat → Option Addr) (nm : Str) (fdat : FuncData) (N : List Str) (qual : Str) (params : Arguments) (body : List Stmt) (scope : Scope), K.In h ∧ Facts l.prog K mg nt fns glb cls cad ∧ Stat K mg nt law fd nm fa fdat [x] N qual params body scope ∧
        ∀ (s : Shared) (u : Value), BindsTo s fdat ⟨[u], []⟩ [(x, u)])
    (ev : ∀ ns : List Int, ns.length ≤ n → (∀ z ∈ ns, Builtin.Int.intBits z ≤ 1048576) → ∃ j outs, callN fns glb cls (k + 1) law [(0, .list (ns.map .int))] = .ok (j, .bool true) outs) :
    PySem.W.WalkO q loose XP YP l.row.toRowW d [] (fun f vs => PySem.call f vs) := by
  refine Att.attach_callB hn hdf fun w s₀ s₁ mg mb fa o pm cd doc a vs ns G Y ho hd hcd hmg hobj hints hlen hbits hg => ?_
  obtain ⟨K, cad, nm, fdat, N, qual, params, body, scope, KX, fc, st, hb⟩ := Fa w mg fa _ Y G.T.g hmg
  refine law_call (CX := L2.CX l.prog w) (sp := spF K (cfN fns glb cls cad (k + 1) []) law fd.pm.length) KX G.T.g G.T.b G.T.builtins G.T.nolimit hg hobj hints (Nat.le_trans hlen hn2) hr (fun base _ _ => stat_succ fc (all_at fc k) hfd st) hb (fun H hO hS => ?_) fun H e s' c => ?_
  · obtain ⟨j, outs, e⟩ := ev ns hlen hbits
    have hP : SqP K H a (ns.map V.int) := by
      rcases hS with hS | ⟨o', its, m, hk, h1, h2, h3, h4, h5⟩
      · exact .inl hS
      · have e1 := KX a o' hk
        rw [hobj] at e1
        have e2 := (Option.some.inj e1).symm
        subst e2
        cases h3
        exact .inr ⟨_, _, hk, h4, h5⟩
    have hz : (ns.map V.int).length ≤ sizeLine := by rw [List.length_map]; exact Nat.le_trans hlen hn2
    refine ⟨hpm.symm, H, [], [], [(0, .list (ns.map .int))], hpm.symm, ⟨[] ++ [], .cons ⟨.lst hP hz (rpl_ns ns), rfl⟩ .nil, List.nodup_nil, fun b hb => absurd hb (List.not_mem_nil), Same.refl H⟩, ?_⟩
    show match callN fns glb cls (k + 1) law [(0, .list (ns.map .int))] with
      | .ok kd outs => _
      | .exc x outs => _
      | .bad _ => _
    rw [e]
    intro F' H' v os _ _ ok
    exact ok_true ok
  · obtain ⟨_, _, _, _, _, _, _, _, _, _, _, _, z⟩ := c
    exact z
end PL
end

section
set_option maxRecDepth 100000
namespace PL.k01
open PySem PL
-- is_number(thing) pm=[0] slots=['thing']
def b0 : S :=
 (.ret (.and (.op (.isi [.int]) (.cons (.bor 0) .nil)) (.op .not (.cons (.op (.isi [.bool]) (.cons (.bor 0) .nil)) .nil))))
-- is_below(thing, many) pm=[0, 0] slots=['thing', 'many']
def b1 : S :=
 (.ret (.and (.call 0 (.cons (.var 0) .nil)) (.chain .le .lt (.cst (.int 0)) (.var 0) (.var 1))))
-- rises(row) pm=[0] slots=['row', 'one', 'other']
def b2 : S :=
 (.ret (.op .all (.cons (.comp 0 (.op .lt (.cons (.bor 1) (.cons (.bor 2) .nil))) (.cons (.v 1) (.cons (.v 2) .nil)) (.iter .zip (.cons (.var 0) (.cons (.op .sla (.cons (.bor 0) (.cons (.cst (.int 1)) .nil))) .nil))) .nil) .nil)))
-- is_asker(member) pm=[0] slots=['member']
def b3 : S :=
 (.ret (.op (.isi [.list, .tuple]) (.cons (.bor 0) .nil)))
-- is_council(thing) pm=[0] slots=['thing', 'number', 'member', 'own']
def b4 : S :=
 (.seq (.ite (.or (.op .not (.cons (.op (.isi [.tuple]) (.cons (.bor 0) .nil)) .nil)) (.op .eq (.cons (.op .len (.cons (.bor 0) .nil)) (.cons (.cst (.int 0)) .nil))))
 (.ret (.cst (.bool false)))
 .skip)
  (.seq (.for_ (.cons (.v 1) (.cons (.v 2) .nil)) (.iter .enum (.cons (.var 0) .nil))
 (.ite (.op (.isi [.tuple]) (.cons (.bor 2) .nil))
 (.seq (.ite (.or (.op .eq (.cons (.op .len (.cons (.bor 2) .nil)) (.cons (.cst (.int 0)) .nil))) (.op .not (.cons (.op .all (.cons (.comp 0 (.call 1 (.cons (.var 3) (.cons (.op .len (.cons (.bor 0) .nil)) .nil))) (.v 3) (.iter .seq (.cons (.var 2) .nil)) .nil) .nil)) .nil)))
 (.ret (.cst (.bool false)))
 .skip)
  (.ite (.or (.op .not (.cons (.call 2 (.cons (.var 2) .nil)) .nil)) (.op .isin (.cons (.bor 1) (.cons (.bor 2) .nil))))
 (.ret (.cst (.bool false)))
 .skip))
 (.ite (.op .not (.cons (.call 0 (.cons (.var 2) .nil)) .nil))
 (.ret (.cst (.bool false)))
 .skip)))
  (.ret (.cst (.bool true)))))
-- check_members(council, numbers) pm=[0, 0] slots=['council', 'numbers', 'number']
def b5 : S :=
 (.for_ (.v 2) (.iter .seq (.cons (.var 1) .nil))
 (.ite (.op .not (.cons (.call 1 (.cons (.var 2) (.cons (.op .len (.cons (.bor 0) .nil)) .nil))) .nil))
 (.raise 0 (.cons (.var 2) .nil))
 .skip))
-- askers(council) pm=[0] slots=['council', 'number', 'member']
def b6 : S :=
 (.ret (.op .tuple (.cons (.comp 0 (.var 1) (.cons (.v 1) (.cons (.v 2) .nil)) (.iter .enum (.cons (.var 0) .nil)) (.call 3 (.cons (.var 2) .nil))) .nil)))
-- firm_ones(council) pm=[0] slots=['council', 'number', 'member']
def b7 : S :=
 (.ret (.op .tuple (.cons (.comp 0 (.var 1) (.cons (.v 1) (.cons (.v 2) .nil)) (.iter .enum (.cons (.var 0) .nil)) (.op .not (.cons (.call 3 (.cons (.var 2) .nil)) .nil))) .nil)))
-- asked_of(council, number) pm=[0, 0] slots=['council', 'number']
def b8 : S :=
 (.ret (.ite (.call 3 (.cons (.op .ix (.cons (.bor 0) (.cons (.bor 1) .nil))) .nil)) (.op .tuple (.cons (.op .ix (.cons (.bor 0) (.cons (.bor 1) .nil))) .nil)) (.tup .nil)))
-- arcs_of(council) pm=[0] slots=['council', 'number', 'goal']
def b9 : S :=
 (.ret (.op .tuple (.cons (.comp2 (.tup (.cons (.var 1) (.cons (.var 2) .nil))) (.v 1) (.iter .seq (.cons (.call 6 (.cons (.var 0) .nil)) .nil)) .nil (.v 2) (.iter .seq (.cons (.call 8 (.cons (.var 0) (.cons (.var 1) .nil))) .nil)) .nil) .nil)))
-- asked_by(council, member) pm=[0, 0] slots=['council', 'member', 'number', 'goal']
def b10 : S :=
 (.seq (.expr (.call 5 (.cons (.var 0) (.cons (.lst 0 (.cons (.var 1) .nil)) .nil))))
  (.ret (.op .tuple (.cons (.comp 0 (.var 2) (.cons (.v 2) (.cons (.v 3) .nil)) (.iter .seq (.cons (.call 9 (.cons (.var 0) .nil)) .nil)) (.op .eq (.cons (.bor 3) (.cons (.bor 1) .nil)))) .nil))))
-- is_road(council, thing) pm=[0, 0] slots=['council', 'thing', 'one', 'other', 'own']
def b11 : S :=
 (.seq (.ite (.or (.op .not (.cons (.op (.isi [.tuple]) (.cons (.bor 1) .nil)) .nil)) (.op .eq (.cons (.op .len (.cons (.bor 1) .nil)) (.cons (.cst (.int 0)) .nil))))
 (.ret (.cst (.bool false)))
 .skip)
  (.seq (.ite (.or (.op .not (.cons (.op .all (.cons (.comp 0 (.call 1 (.cons (.var 4) (.cons (.op .len (.cons (.bor 0) .nil)) .nil))) (.v 4) (.iter .seq (.cons (.var 1) .nil)) .nil) .nil)) .nil)) (.op .lt (.cons (.op .lenSet (.cons (.bor 1) .nil)) (.cons (.op .len (.cons (.bor 1) .nil)) .nil))))
 (.ret (.cst (.bool false)))
 .skip)
  (.ret (.op .all (.cons (.comp 0 (.op .isin (.cons (.bor 3) (.cons (.call 8 (.cons (.var 0) (.cons (.var 2) .nil))) .nil))) (.cons (.v 2) (.cons (.v 3) .nil)) (.iter .zip (.cons (.var 1) (.cons (.op .sla (.cons (.bor 1) (.cons (.cst (.int 1)) .nil))) .nil))) .nil) .nil)))))
-- _law_box(_law_script, _law_nth_so) pm=[0, 0] slots=['_law_script', '_law_nth_so', '_law_cell']
def b12 : S :=
 (.seq (.set 2 (.ite (.op .lt (.cons (.bor 1) (.cons (.op .len (.cons (.bor 0) .nil)) .nil))) (.op .ix (.cons (.bor 0) (.cons (.bor 1) .nil))) (.cst (.int 0))))
  (.ret (.lst 0 (.cons (.op .mul (.cons (.op .abs (.cons (.bor 2) .nil)) (.cons (.op .int (.cons (.op .ge (.cons (.op .abs (.cons (.bor 2) .nil)) (.cons (.op .pow (.cons (.cst (.int 10)) (.cons (.cst (.int 18)) .nil))) .nil))) .nil)) .nil))) (.cons (.op .add (.cons (.op .add (.cons (.op .mod (.cons (.op .int (.cons (.bor 2) .nil)) (.cons (.cst (.int 2305843009213693951)) .nil))) (.cons (.op .mul (.cons (.cst (.int 39373)) (.cons (.bor 1) .nil))) .nil))) (.cons (.cst (.int 1929001)) .nil))) (.cons (.cst (.int 0)) .nil))))))
-- _law_take(_law_box_here, _law_below_so) pm=[1, 0] slots=['_law_box_here', '_law_below_so', '_law_once', '_law_far', '_law_twice', '_law_drawn']
def b13 : S :=
 (.seq (.ite (.op .gt (.cons (.op .ix (.cons (.bor 0) (.cons (.cst (.int 0)) .nil))) (.cons (.cst (.int 0)) .nil)))
 (.seq (.set 5 (.op .mod (.cons (.op .int (.cons (.op .ix (.cons (.bor 0) (.cons (.cst (.int 0)) .nil))) .nil)) (.cons (.bor 1) .nil))))
  (.seq (.setix 0 (.cst (.int 0)) (.op .fdiv (.cons (.op .ix (.cons (.bor 0) (.cons (.cst (.int 0)) .nil))) (.cons (.bor 1) .nil))))
  (.ret (.mov 5))))
 .skip)
  (.seq (.setix 0 (.cst (.int 2)) (.op .add (.cons (.op .ix (.cons (.bor 0) (.cons (.cst (.int 2)) .nil))) (.cons (.cst (.int 1)) .nil))))
  (.seq (.set 2 (.op .mod (.cons (.op .int (.cons (.op .mul (.cons (.op .add (.cons (.op .ix (.cons (.bor 0) (.cons (.cst (.int 1)) .nil))) (.cons (.op .mul (.cons (.cst (.int 48271)) (.cons (.op .ix (.cons (.bor 0) (.cons (.cst (.int 2)) .nil))) .nil))) .nil))) (.cons (.op .add (.cons (.cst (.int 39373)) (.cons (.op .ix (.cons (.bor 0) (.cons (.cst (.int 2)) .nil))) .nil))) .nil))) .nil)) (.cons (.cst (.int 2147483647)) .nil))))
  (.seq (.set 3 (.op .add (.cons (.op .mod (.cons (.op .int (.cons (.bor 2) .nil)) (.cons (.cst (.int 40009)) .nil))) (.cons (.cst (.int 7)) .nil))))
  (.seq (.set 4 (.op .mod (.cons (.op .int (.cons (.op .mul (.cons (.op .add (.cons (.op .add (.cons (.bor 2) (.cons (.op .ix (.cons (.bor 0) (.cons (.cst (.int 2)) .nil))) .nil))) (.cons (.op .fdiv (.cons (.op .ix (.cons (.bor 0) (.cons (.cst (.int 1)) .nil))) (.cons (.cst (.int 1000003)) .nil))) .nil))) (.cons (.bor 3) .nil))) .nil)) (.cons (.cst (.int 2147483629)) .nil))))
  (.ret (.op .mod (.cons (.op .int (.cons (.op .fdiv (.cons (.op .mod (.cons (.op .int (.cons (.op .add (.cons (.op .mul (.cons (.bor 4) (.cons (.cst (.int 48271)) .nil))) (.cons (.bor 2) .nil))) .nil)) (.cons (.cst (.int 2147483587)) .nil))) (.cons (.cst (.int 64)) .nil))) .nil)) (.cons (.bor 1) .nil)))))))))
-- _law_cells(_law_script, _law_top_so) pm=[0, 0] slots=['_law_script', '_law_top_so', '_law_cells_so', '_law_nth_so', '_law_cell', '_law_at_so']
def b14 : S :=
 (.seq (.set 2 (.or (.op .list (.cons (.op .slb (.cons (.bor 0) (.cons (.bor 1) .nil))) .nil)) (.lst 0 (.cons (.cst (.int 0)) .nil))))
  (.seq (.for_ (.cons (.v 3) (.cons (.v 4) .nil)) (.iter .enum (.cons (.cut (.bor 0) (.var 1) (.cst (.int 63))) .nil))
 (.seq (.set 5 (.op .mod (.cons (.op .int (.cons (.bor 3) .nil)) (.cons (.bor 1) .nil))))
  (.setix 2 (.var 5) (.op .add (.cons (.op .ix (.cons (.bor 2) (.cons (.bor 5) .nil))) (.cons (.op .mul (.cons (.bor 4) (.cons (.op .add (.cons (.bor 3) (.cons (.cst (.int 2)) .nil))) .nil))) .nil))))))
  (.ret (.mov 2))))
-- _law_same(_law_got, _law_due) pm=[0, 0] slots=['_law_got', '_law_due', '_law_mine', '_law_its']
def b15 : S :=
 (.seq (.ite (.op (.isi [.list, .tuple]) (.cons (.bor 1) .nil))
 (.seq (.ite (.or (.op .ne (.cons (.op (.isi [.list]) (.cons (.bor 0) .nil)) (.cons (.op (.isi [.list]) (.cons (.bor 1) .nil)) .nil))) (.op .ne (.cons (.op (.isi [.tuple]) (.cons (.bor 0) .nil)) (.cons (.op (.isi [.tuple]) (.cons (.bor 1) .nil)) .nil))))
 (.ret (.cst (.bool false)))
 .skip)
  (.ret (.and (.op .eq (.cons (.op .len (.cons (.bor 0) .nil)) (.cons (.op .len (.cons (.bor 1) .nil)) .nil))) (.op .all (.cons (.comp 0 (.call 15 (.cons (.var 2) (.cons (.var 3) .nil))) (.cons (.v 2) (.cons (.v 3) .nil)) (.iter .zip (.cons (.var 0) (.cons (.var 1) .nil))) .nil) .nil)))))
 .skip)
  (.seq (.ite (.or (.op .isN (.cons (.bor 1) .nil)) (.op (.isi [.bool, .str]) (.cons (.bor 1) .nil)))
 (.ret (.and (.op .eq (.cons (.bor 0) (.cons (.bor 1) .nil))) (.and (.op .eq (.cons (.op (.isi [.bool]) (.cons (.bor 0) .nil)) (.cons (.op (.isi [.bool]) (.cons (.bor 1) .nil)) .nil))) (.op .eq (.cons (.op .isN (.cons (.bor 0) .nil)) (.cons (.op .isN (.cons (.bor 1) .nil)) .nil))))))
 .skip)
  (.ret (.and (.op (.isi [.int]) (.cons (.bor 0) .nil)) (.and (.op .not (.cons (.op (.isi [.bool]) (.cons (.bor 0) .nil)) .nil)) (.op .eq (.cons (.bor 0) (.cons (.bor 1) .nil))))))))
-- _law_lists(_law_matter_so) pm=[0] slots=['_law_matter_so', '_law_bit']
def b16 : S :=
 (.ret (.ite (.op (.isi [.list, .tuple]) (.cons (.bor 0) .nil)) (.comp 0 (.call 16 (.cons (.var 1) .nil)) (.v 1) (.iter .seq (.cons (.var 0) .nil)) .nil) (.var 0)))
-- _law_of(_law_box_here, _law_pool_so) pm=[1, 0] slots=['_law_box_here', '_law_pool_so']
def b17 : S :=
 (.ret (.op .ix (.cons (.bor 1) (.cons (.call 13 (.cons (.bor 0) (.cons (.op .len (.cons (.bor 1) .nil)) .nil))) .nil))))
-- _law_pick(_law_box_here, _law_pool_so, _law_size_so) pm=[1, 0, 0] slots=['_law_box_here', '_law_pool_so', '_law_size_so', '_law_lap', '_law_left_so', '_law_lot_so']
def b18 : S :=
 (.seq (.par (.cons (.v 4) (.cons (.v 5) .nil)) (.cons (.op .list (.cons (.bor 1) .nil)) (.cons (.lst 0 .nil) .nil)))
  (.seq (.for_ (.v 3) (.iter .range1 (.cons (.op .min2 (.cons (.bor 2) (.cons (.op .len (.cons (.bor 4) .nil)) .nil))) .nil))
 (.append 5 (.popat 4 (.call 13 (.cons (.bor 0) (.cons (.op .len (.cons (.bor 4) .nil)) .nil))))))
  (.ret (.mov 5))))
-- _law_mixed(_law_box_here, _law_rows_so) pm=[1, 0] slots=['_law_box_here', '_law_rows_so']
def b19 : S :=
 (.ret (.call 18 (.cons (.bor 0) (.cons (.var 1) (.cons (.op .len (.cons (.bor 1) .nil)) .nil)))))
-- _law_any(_law_tin, _law_most_so) pm=[1, 0] slots=['_law_tin', '_law_most_so', '_law_much_so', '_law_found', '_law_j', '_law_pool_so', '_law_k']
def b20 : S :=
 (.seq (.set 2 (.op .add (.cons (.cst (.int 1)) (.cons (.call 13 (.cons (.bor 0) (.cons (.var 1) .nil))) .nil))))
  (.seq (.set 3 (.lst 0 .nil))
  (.seq (.for_ (.v 4) (.iter .range1 (.cons (.var 2) .nil))
 (.ite (.or (.op .eq (.cons (.bor 2) (.cons (.cst (.int 1)) .nil))) (.op .lt (.cons (.call 13 (.cons (.bor 0) (.cons (.cst (.int 5)) .nil))) (.cons (.cst (.int 2)) .nil))))
 (.append 3 (.call 17 (.cons (.bor 0) (.cons (.lst 0 (.cons (.cst (.int 0)) (.cons (.cst (.int 1)) (.cons (.cst (.int 7)) (.cons (.op .neg (.cons (.cst (.int 3)) .nil)) (.cons (.cst (.int 7)) (.cons (.op .pow (.cons (.cst (.int 10)) (.cons (.cst (.int 9)) .nil))) .nil))))))) .nil))))
 (.seq (.set 5 (.comp 0 (.var 6) (.v 6) (.iter .range1 (.cons (.var 2) .nil)) (.op .ne (.cons (.bor 6) (.cons (.bor 4) .nil)))))
  (.append 3 (.op .tuple (.cons (.op .sorted (.cons (.op .slb (.cons (.call 19 (.cons (.bor 0) (.cons (.var 5) .nil))) (.cons (.op .add (.cons (.cst (.int 1)) (.cons (.call 13 (.cons (.bor 0) (.cons (.cst (.int 3)) .nil))) .nil))) .nil))) .nil)) .nil))))))
  (.ret (.op .tuple (.cons (.bor 3) .nil))))))
-- _law_whole(_law_bit_so) pm=[0] slots=['_law_bit_so']
def b21 : S :=
 (.ret (.and (.op (.isi [.int]) (.cons (.bor 0) .nil)) (.op .not (.cons (.op (.isi [.bool]) (.cons (.bor 0) .nil)) .nil))))
-- _law_is_hall(_law_matter_so) pm=[0] slots=['_law_matter_so', '_law_j', '_law_own', '_law_bit_so']
def b22 : S :=
 (.seq (.ite (.or (.op .not (.cons (.op (.isi [.tuple]) (.cons (.bor 0) .nil)) .nil)) (.op .eq (.cons (.bor 0) (.cons (.tup .nil) .nil))))
 (.ret (.cst (.bool false)))
 .skip)
  (.seq (.for_ (.cons (.v 1) (.cons (.v 2) .nil)) (.iter .enum (.cons (.var 0) .nil))
 (.ite (.op .not (.cons (.op (.isi [.tuple]) (.cons (.bor 2) .nil)) .nil))
 (.ite (.op .not (.cons (.call 21 (.cons (.var 2) .nil)) .nil))
 (.ret (.cst (.bool false)))
 .skip)
 (.ite (.or (.op .eq (.cons (.bor 2) (.cons (.tup .nil) .nil))) (.op .ne (.cons (.comp 0 (.var 3) (.v 3) (.iter .seq (.cons (.var 2) .nil)) (.op .not (.cons (.call 21 (.cons (.var 3) .nil)) .nil))) (.cons (.lst 0 .nil) .nil))))
 (.ret (.cst (.bool false)))
 (.ite (.or (.op .ne (.cons (.op .sortedSet (.cons (.bor 2) .nil)) (.cons (.op .list (.cons (.bor 2) .nil)) .nil))) (.or (.op .isin (.cons (.bor 1) (.cons (.bor 2) .nil))) (.or (.op .lt (.cons (.op .ix (.cons (.bor 2) (.cons (.cst (.int 0)) .nil))) (.cons (.cst (.int 0)) .nil))) (.op .ge (.cons (.op .ix (.cons (.bor 2) (.cons (.op .neg (.cons (.cst (.int 1)) .nil)) .nil))) (.cons (.op .len (.cons (.bor 0) .nil)) .nil))))))
 (.ret (.cst (.bool false)))
 .skip))))
  (.ret (.cst (.bool true)))))
-- _law_is_way(_law_hall_so, _law_matter_so) pm=[0, 0] slots=['_law_hall_so', '_law_matter_so', '_law_j', '_law_own', '_law_bit_so']
def b23 : S :=
 (.seq (.ite (.or (.op .not (.cons (.op (.isi [.tuple]) (.cons (.bor 1) .nil)) .nil)) (.op .eq (.cons (.bor 1) (.cons (.tup .nil) .nil))))
 (.ret (.cst (.bool false)))
 .skip)
  (.seq (.ite (.op .ne (.cons (.comp 0 (.var 4) (.v 4) (.iter .seq (.cons (.var 1) .nil)) (.or (.op .not (.cons (.call 21 (.cons (.var 4) .nil)) .nil)) (.op .not (.cons (.chain .le .lt (.cst (.int 0)) (.var 4) (.op .len (.cons (.bor 0) .nil))) .nil)))) (.cons (.lst 0 .nil) .nil)))
 (.ret (.cst (.bool false)))
 .skip)
  (.seq (.for_ (.v 2) (.iter .range1 (.cons (.op .sub (.cons (.op .len (.cons (.bor 1) .nil)) (.cons (.cst (.int 1)) .nil))) .nil))
 (.seq (.set 3 (.op .ix (.cons (.bor 0) (.cons (.op .ix (.cons (.bor 1) (.cons (.bor 2) .nil))) .nil))))
  (.ite (.or (.op .not (.cons (.op (.isi [.tuple]) (.cons (.bor 3) .nil)) .nil)) (.or (.op .notin (.cons (.op .ix (.cons (.bor 1) (.cons (.op .add (.cons (.bor 2) (.cons (.cst (.int 1)) .nil))) .nil))) (.cons (.bor 3) .nil))) (.op .isin (.cons (.op .ix (.cons (.bor 1) (.cons (.bor 2) .nil))) (.cons (.op .sla (.cons (.bor 1) (.cons (.op .add (.cons (.bor 2) (.cons (.cst (.int 1)) .nil))) .nil))) .nil)))))
 (.ret (.cst (.bool false)))
 .skip)))
  (.ret (.cst (.bool true))))))
-- _law_bent(_law_tin, _law_hall_so) pm=[1, 0] slots=['_law_tin', '_law_hall_so', '_law_own', '_law_later_so', '_law_rows_so', '_law_j', '_law_fresh_so', '_law_bit_so']
def b24 : S :=
 (.seq (.par (.cons (.v 5) (.cons (.v 6) .nil)) (.cons (.call 13 (.cons (.bor 0) (.cons (.op .len (.cons (.bor 1) .nil)) .nil))) (.cons (.op .sub (.cons (.call 13 (.cons (.bor 0) (.cons (.op .add (.cons (.op .len (.cons (.bor 1) .nil)) (.cons (.cst (.int 2)) .nil))) .nil))) (.cons (.cst (.int 1)) .nil))) .nil)))
  (.seq (.set 2 (.ite (.op (.isi [.tuple]) (.cons (.op .ix (.cons (.bor 1) (.cons (.bor 5) .nil))) .nil)) (.op .ix (.cons (.bor 1) (.cons (.bor 5) .nil))) (.tup .nil)))
  (.seq (.set 3 (.lst 0 (.cons (.op .add (.cons (.bor 2) (.cons (.tup (.cons (.var 6) .nil)) .nil))) (.cons (.op .tuple (.cons (.op .sortedSet (.cons (.op .add (.cons (.bor 2) (.cons (.tup (.cons (.var 6) .nil)) .nil))) .nil)) .nil)) (.cons (.op .sla (.cons (.bor 2) (.cons (.cst (.int 1)) .nil))) (.cons (.op .rev (.cons (.bor 2) .nil)) (.cons (.op .list (.cons (.bor 2) .nil)) (.cons (.tup (.cons (.var 2) .nil)) .nil))))))))
  (.seq (.set 3 (.op .add (.cons (.bor 3) (.cons (.lst 0 (.cons (.var 6) .nil)) .nil))))
  (.seq (.set 3 (.op .add (.cons (.bor 3) (.cons (.lst 0 (.cons (.op .eq (.cons (.bor 6) (.cons (.cst (.int 1)) .nil))) (.cons (.cst .none) (.cons (.cst (.str (PySem.Str.ofString "1"))) (.cons (.tup (.cons (.op .str (.cons (.bor 6) .nil)) .nil)) (.cons (.op .add (.cons (.bor 2) (.cons (.tup (.cons (.cst (.bool true)) .nil)) .nil))) (.cons (.op .add (.cons (.bor 2) (.cons (.tup (.cons (.cst .none) .nil)) .nil))) .nil))))))) .nil))))
  (.seq (.set 4 (.comp 0 (.op .add (.cons (.op .add (.cons (.op .slb (.cons (.bor 1) (.cons (.bor 5) .nil))) (.cons (.tup (.cons (.var 7) .nil)) .nil))) (.cons (.op .sla (.cons (.bor 1) (.cons (.op .add (.cons (.bor 5) (.cons (.cst (.int 1)) .nil))) .nil))) .nil))) (.v 7) (.iter .seq (.cons (.var 3) .nil)) .nil))
  (.ret (.op .add (.cons (.bor 4) (.cons (.lst 0 (.cons (.op .list (.cons (.bor 1) .nil)) (.cons (.op .slb (.cons (.bor 1) (.cons (.bor 5) .nil))) (.cons (.op .add (.cons (.bor 1) (.cons (.op .slb (.cons (.bor 1) (.cons (.cst (.int 1)) .nil))) .nil))) (.cons (.call 16 (.cons (.var 1) .nil)) (.cons (.tup (.cons (.var 1) .nil)) .nil)))))) .nil))))))))))
-- _law_trails(_law_tin, _law_hall_so) pm=[1, 0] slots=['_law_tin', '_law_hall_so', '_law_found', '_law_lap', '_law_row_so', '_law_turn', '_law_own', '_law_pool_so']
def b25 : S :=
 (.seq (.set 2 (.lst 0 .nil))
  (.seq (.for_ (.v 3) (.iter .range1 (.cons (.cst (.int 4)) .nil))
 (.seq (.set 4 (.lst 0 (.cons (.call 13 (.cons (.bor 0) (.cons (.op .len (.cons (.bor 1) .nil)) .nil))) .nil)))
  (.seq (.for_ (.v 5) (.iter .range1 (.cons (.call 13 (.cons (.bor 0) (.cons (.cst (.int 5)) .nil))) .nil))
 (.seq (.set 6 (.op .ix (.cons (.bor 1) (.cons (.op .ix (.cons (.bor 4) (.cons (.op .neg (.cons (.cst (.int 1)) .nil)) .nil))) .nil))))
  (.seq (.set 7 (.ite (.and (.op (.isi [.tuple]) (.cons (.bor 6) .nil)) (.op .gt (.cons (.call 13 (.cons (.bor 0) (.cons (.cst (.int 6)) .nil))) (.cons (.cst (.int 0)) .nil)))) (.op .list (.cons (.bor 6) .nil)) (.op .listRange1 (.cons (.op .len (.cons (.bor 1) .nil)) .nil))))
  (.append 4 (.call 17 (.cons (.bor 0) (.cons (.var 7) .nil)))))))
  (.append 2 (.op .tuple (.cons (.bor 4) .nil))))))
  (.ret (.op .add (.cons (.bor 2) (.cons (.lst 0 (.cons (.tup .nil) (.cons (.op .rev (.cons (.op .ix (.cons (.bor 2) (.cons (.cst (.int 0)) .nil))) .nil)) (.cons (.op .add (.cons (.op .ix (.cons (.bor 2) (.cons (.cst (.int 1)) .nil))) (.cons (.tup (.cons (.op .len (.cons (.bor 1) .nil)) .nil)) .nil))) (.cons (.tup (.cons (.op .neg (.cons (.cst (.int 1)) .nil)) .nil)) (.cons (.op .list (.cons (.op .ix (.cons (.bor 2) (.cons (.cst (.int 2)) .nil))) .nil)) (.cons (.op .add (.cons (.op .ix (.cons (.bor 2) (.cons (.cst (.int 3)) .nil))) (.cons (.tup (.cons (.cst .none) .nil)) .nil))) (.cons (.cst .none) (.cons (.cst (.int 0)) .nil))))))))) .nil))))))
-- _law_heard(_law_hall_so, _law_bit_so) pm=[0, 0] slots=['_law_hall_so', '_law_bit_so', 'error', '_law_caught', '_law_mine']
def b26 : S :=
 (.seq (.par (.cons (.v 3) (.cons (.v 4) .nil)) (.cons (.cst .none) (.cons (.cst .none) .nil)))
  (.seq (.try_ (.set 4 (.call 10 (.cons (.var 0) (.cons (.var 1) .nil)))) [⟨0, some 2, (some 3), true, [(.str (PySem.Str.ofString "none")), (.fld (PySem.Str.ofString "number")), (.isi "LookupError")]⟩])
  (.ret (.ite (.op .isN (.cons (.bor 3) .nil)) (.mov 4) (.mov 3)))))
-- _law_case_right(_law_tin, _law_hall_so) pm=[1, 0] slots=['_law_tin', '_law_hall_so', '_law_inner_so', '_law_plain_so', '_law_pairs_so', '_law_j', '_law_by_so', '_law_got', '_law_due', '_law_odd_so', '_law_rows_so', '_law_soft', '_law_size_so', '_law_own', '_law_far', '_law_near']
def b27 : S :=
 (.seq (.par (.cons (.v 11) (.cons (.v 12) .nil)) (.cons (.call 16 (.cons (.var 1) .nil)) (.cons (.op .len (.cons (.bor 1) .nil)) .nil)))
  (.seq (.set 2 (.op .tuple (.cons (.comp 0 (.var 5) (.v 5) (.iter .range1 (.cons (.var 12) .nil)) (.op (.isi [.tuple]) (.cons (.op .ix (.cons (.bor 1) (.cons (.bor 5) .nil))) .nil))) .nil)))
  (.seq (.set 3 (.op .tuple (.cons (.comp 0 (.var 5) (.v 5) (.iter .range1 (.cons (.var 12) .nil)) (.op .notin (.cons (.bor 5) (.cons (.bor 2) .nil)))) .nil)))
  (.seq (.set 4 (.lst 0 .nil))
  (.seq (.for_ (.v 5) (.iter .seq (.cons (.var 2) .nil))
 (.set 4 (.op .add (.cons (.bor 4) (.cons (.comp 0 (.tup (.cons (.var 5) (.cons (.var 14) .nil))) (.v 14) (.iter .seq (.cons (.op .ix (.cons (.bor 1) (.cons (.bor 5) .nil))) .nil)) .nil) .nil)))))
  (.seq (.set 6 (.comp 0 (.op .tuple (.cons (.comp 0 (.var 15) (.cons (.v 15) (.cons (.v 14) .nil)) (.iter .seq (.cons (.var 4) .nil)) (.op .eq (.cons (.bor 14) (.cons (.bor 5) .nil)))) .nil)) (.v 5) (.iter .range1 (.cons (.var 12) .nil)) .nil))
  (.seq (.set 7 (.lst 0 (.cons (.call 4 (.cons (.var 1) .nil)) (.cons (.call 6 (.cons (.var 1) .nil)) (.cons (.call 7 (.cons (.var 1) .nil)) (.cons (.call 9 (.cons (.var 1) .nil)) .nil))))))
  (.seq (.set 7 (.op .add (.cons (.bor 7) (.cons (.lst 0 (.cons (.callk 6 0 [0] (.cons (.var 11) .nil)) (.cons (.callk 7 0 [0] (.cons (.var 11) .nil)) (.cons (.callk 9 0 [0] (.cons (.var 11) .nil)) (.cons (.call 4 (.cons (.var 11) .nil)) .nil))))) .nil))))
  (.seq (.set 8 (.lst 0 (.cons (.cst (.bool true)) (.cons (.var 2) (.cons (.var 3) (.cons (.op .tuple (.cons (.bor 4) .nil)) (.cons (.var 2) (.cons (.var 3) (.cons (.op .tuple (.cons (.bor 4) .nil)) (.cons (.cst (.bool false)) .nil))))))))))
  (.seq (.set 7 (.op .add (.cons (.bor 7) (.cons (.lst 0 (.cons (.comp 0 (.call 10 (.cons (.var 1) (.cons (.var 5) .nil))) (.v 5) (.iter .range1 (.cons (.var 12) .nil)) .nil) (.cons (.call 10 (.cons (.var 11) (.cons (.op .sub (.cons (.bor 12) (.cons (.cst (.int 1)) .nil))) .nil))) .nil))) .nil))))
  (.seq (.set 7 (.op .add (.cons (.bor 7) (.cons (.lst 0 (.cons (.call 26 (.cons (.var 1) (.cons (.var 12) .nil))) (.cons (.call 26 (.cons (.var 11) (.cons (.op .neg (.cons (.cst (.int 1)) .nil)) .nil))) (.cons (.op .eq (.cons (.bor 11) (.cons (.call 16 (.cons (.var 1) .nil)) .nil))) .nil)))) .nil))))
  (.seq (.set 8 (.op .add (.cons (.bor 8) (.cons (.lst 0 (.cons (.var 6) (.cons (.op .ix (.cons (.bor 6) (.cons (.op .neg (.cons (.cst (.int 1)) .nil)) .nil))) (.cons (.lst 0 (.cons (.cst (.str (PySem.Str.ofString "none"))) (.cons (.var 12) (.cons (.cst (.bool true)) .nil)))) (.cons (.lst 0 (.cons (.cst (.str (PySem.Str.ofString "none"))) (.cons (.op .neg (.cons (.cst (.int 1)) .nil)) (.cons (.cst (.bool true)) .nil)))) (.cons (.cst (.bool true)) .nil)))))) .nil))))
  (.seq (.ite (.op .not (.cons (.call 15 (.cons (.var 7) (.cons (.var 8) .nil))) .nil))
 (.ret (.cst (.bool false)))
 .skip)
  (.seq (.set 9 (.call 24 (.cons (.bor 0) (.cons (.var 1) .nil))))
  (.seq (.ite (.op .not (.cons (.call 15 (.cons (.comp 0 (.call 4 (.cons (.var 13) .nil)) (.v 13) (.iter .seq (.cons (.var 9) .nil)) .nil) (.cons (.comp 0 (.call 22 (.cons (.var 13) .nil)) (.v 13) (.iter .seq (.cons (.var 9) .nil)) .nil) .nil))) .nil))
 (.ret (.cst (.bool false)))
 .skip)
  (.seq (.set 10 (.call 25 (.cons (.bor 0) (.cons (.var 1) .nil))))
  (.seq (.set 7 (.op .add (.cons (.comp 0 (.call 11 (.cons (.var 1) (.cons (.var 13) .nil))) (.v 13) (.iter .seq (.cons (.var 10) .nil)) .nil) (.cons (.comp 0 (.call 11 (.cons (.var 11) (.cons (.var 13) .nil))) (.v 13) (.iter .seq (.cons (.var 10) .nil)) .nil) .nil))))
  (.ret (.call 15 (.cons (.var 7) (.cons (.op .mul (.cons (.comp 0 (.call 23 (.cons (.var 1) (.cons (.var 13) .nil))) (.v 13) (.iter .seq (.cons (.var 10) .nil)) .nil) (.cons (.cst (.int 2)) .nil))) .nil)))))))))))))))))))))
-- _law_by_hand_right() pm=[] slots=['_law_got', '_law_due', '_law_wide_so', '_law_odd_so', '_law_rows_so', '_law_hall_so', '_law_far', '_law_j', '_law_own', '_law_bit_so']
def b28 : S :=
 (.seq (.par (.cons (.v 5) (.cons (.v 6) .nil)) (.cons (.tup (.cons (.cst (.int 5)) (.cons (.tup (.cons (.cst (.int 0)) (.cons (.cst (.int 2)) .nil))) (.cons (.tup (.cons (.cst (.int 1)) (.cons (.cst (.int 3)) .nil))) (.cons (.cst (.int 9)) .nil))))) (.cons (.op .pow (.cons (.cst (.int 10)) (.cons (.cst (.int 30)) .nil))) .nil)))
  (.seq (.set 0 (.lst 0 (.cons (.call 6 (.cons (.var 5) .nil)) (.cons (.call 7 (.cons (.var 5) .nil)) (.cons (.comp 0 (.call 10 (.cons (.var 5) (.cons (.var 7) .nil))) (.v 7) (.iter .range1 (.cons (.cst (.int 4)) .nil)) .nil) (.cons (.call 9 (.cons (.var 5) .nil)) .nil))))))
  (.seq (.set 1 (.lst 0 (.cons (.tup (.cons (.cst (.int 1)) (.cons (.cst (.int 2)) .nil))) (.cons (.tup (.cons (.cst (.int 0)) (.cons (.cst (.int 3)) .nil))) (.cons (.lst 0 (.cons (.tup (.cons (.cst (.int 1)) .nil)) (.cons (.tup (.cons (.cst (.int 2)) .nil)) (.cons (.tup (.cons (.cst (.int 1)) .nil)) (.cons (.tup (.cons (.cst (.int 2)) .nil)) .nil))))) (.cons (.tup (.cons (.tup (.cons (.cst (.int 1)) (.cons (.cst (.int 0)) .nil))) (.cons (.tup (.cons (.cst (.int 1)) (.cons (.cst (.int 2)) .nil))) (.cons (.tup (.cons (.cst (.int 2)) (.cons (.cst (.int 1)) .nil))) (.cons (.tup (.cons (.cst (.int 2)) (.cons (.cst (.int 3)) .nil))) .nil))))) .nil))))))
  (.seq (.set 2 (.op .tuple (.cons (.comp 0 (.op .tuple (.cons (.op .sorted (.cons (.comp 0 (.op .mod (.cons (.op .add (.cons (.bor 7) (.cons (.bor 9) .nil))) (.cons (.cst (.int 16)) .nil))) (.v 9) (.iter .seq (.cons (.tup (.cons (.cst (.int 1)) (.cons (.cst (.int 2)) (.cons (.cst (.int 3)) (.cons (.cst (.int 5)) (.cons (.cst (.int 7)) .nil)))))) .nil)) .nil) .nil)) .nil)) (.v 7) (.iter .range1 (.cons (.cst (.int 10)) .nil)) .nil) .nil)))
  (.seq (.set 2 (.op .add (.cons (.bor 2) (.cons (.tup (.cons (.var 6) (.cons (.op .neg (.cons (.bor 6) .nil)) (.cons (.cst (.int 0)) (.cons (.cst (.int 1)) (.cons (.var 6) (.cons (.cst (.int 2)) .nil))))))) .nil))))
  (.seq (.set 0 (.op .add (.cons (.bor 0) (.cons (.lst 0 (.cons (.call 4 (.cons (.var 2) .nil)) (.cons (.call 6 (.cons (.var 2) .nil)) (.cons (.op .len (.cons (.call 9 (.cons (.var 2) .nil)) .nil)) (.cons (.call 10 (.cons (.var 2) (.cons (.cst (.int 15)) .nil))) (.cons (.call 7 (.cons (.tup (.cons (.op .neg (.cons (.bor 6) .nil)) .nil)) .nil)) .nil)))))) .nil))))
  (.seq (.set 1 (.op .add (.cons (.bor 1) (.cons (.lst 0 (.cons (.cst (.bool true)) (.cons (.op .tupRange1 (.cons (.cst (.int 10)) .nil)) (.cons (.cst (.int 50)) (.cons (.tup (.cons (.cst (.int 8)) .nil)) (.cons (.tup (.cons (.cst (.int 0)) .nil)) .nil)))))) .nil))))
  (.seq (.set 3 (.lst 0 (.cons (.cst .none) (.cons (.cst (.int 0)) (.cons (.cst (.bool true)) (.cons (.cst (.str (PySem.Str.ofString "ab"))) (.cons (.tup .nil) (.cons (.lst 0 .nil) (.cons (.tup (.cons (.tup .nil) .nil)) (.cons (.tup (.cons (.tup (.cons (.cst (.int 0)) .nil)) .nil)) (.cons (.tup (.cons (.cst (.int 1)) (.cons (.tup (.cons (.cst (.int 0)) (.cons (.cst (.int 0)) .nil))) .nil))) (.cons (.tup (.cons (.cst (.int 1)) (.cons (.tup (.cons (.cst (.int 1)) .nil)) .nil))) (.cons (.tup (.cons (.cst (.int 1)) (.cons (.tup (.cons (.cst (.int 2)) .nil)) .nil))) (.cons (.tup (.cons (.cst (.int 1)) (.cons (.tup (.cons (.op .neg (.cons (.cst (.int 1)) .nil)) .nil)) .nil))) .nil))))))))))))))
  (.seq (.set 3 (.op .add (.cons (.bor 3) (.cons (.lst 0 (.cons (.tup (.cons (.cst (.int 1)) (.cons (.cst (.int 2)) (.cons (.tup (.cons (.cst (.int 1)) (.cons (.cst (.int 0)) .nil))) .nil)))) .nil)) .nil))))
  (.seq (.set 3 (.op .add (.cons (.bor 3) (.cons (.lst 0 (.cons (.tup (.cons (.cst (.int 1)) (.cons (.lst 0 (.cons (.cst (.int 0)) .nil)) .nil))) (.cons (.lst 0 (.cons (.cst (.int 1)) (.cons (.tup (.cons (.cst (.int 0)) .nil)) .nil))) (.cons (.tup (.cons (.cst (.bool true)) .nil)) (.cons (.tup (.cons (.cst .none) .nil)) (.cons (.tup (.cons (.cst (.str (PySem.Str.ofString "a"))) .nil)) (.cons (.tup (.cons (.cst (.int 1)) (.cons (.tup (.cons (.cst (.str (PySem.Str.ofString "a"))) .nil)) .nil))) (.cons (.tup (.cons (.cst (.int 1)) (.cons (.tup (.cons (.cst (.bool true)) .nil)) .nil))) (.cons (.tup (.cons (.cst (.int 1)) (.cons (.tup (.cons (.cst (.int 0)) (.cons (.cst .none) .nil))) .nil))) .nil))))))))) .nil))))
  (.seq (.set 3 (.op .add (.cons (.bor 3) (.cons (.lst 0 (.cons (.tup (.cons (.cst (.int 1)) (.cons (.tup (.cons (.tup (.cons (.cst (.int 0)) .nil)) .nil)) .nil))) .nil)) .nil))))
  (.seq (.set 3 (.op .add (.cons (.bor 3) (.cons (.lst 0 (.cons (.tup (.cons (.cst (.int 1)) (.cons (.tup (.cons (.cst (.int 0)) (.cons (.lst 0 (.cons (.cst (.int 0)) .nil)) .nil))) .nil))) .nil)) .nil))))
  (.seq (.append 0 (.comp 0 (.call 4 (.cons (.var 8) .nil)) (.v 8) (.iter .seq (.cons (.var 3) .nil)) .nil))
  (.seq (.append 1 (.op .mul (.cons (.lst 0 (.cons (.cst (.bool false)) .nil)) (.cons (.op .len (.cons (.bor 3) .nil)) .nil))))
  (.seq (.append 0 (.comp 0 (.call 4 (.cons (.var 8) .nil)) (.v 8) (.iter .seq (.cons (.tup (.cons (.tup (.cons (.cst (.int 0)) .nil)) (.cons (.tup (.cons (.cst (.int 1)) (.cons (.tup (.cons (.cst (.int 0)) .nil)) .nil))) (.cons (.tup (.cons (.tup (.cons (.cst (.int 1)) .nil)) (.cons (.tup (.cons (.cst (.int 0)) .nil)) .nil))) (.cons (.tup (.cons (.cst (.int 1)) (.cons (.tup (.cons (.cst (.int 0)) (.cons (.cst (.int 2)) .nil))) (.cons (.tup (.cons (.cst (.int 0)) (.cons (.cst (.int 1)) .nil))) .nil)))) (.cons (.op .tupRange1 (.cons (.cst (.int 40)) .nil)) .nil)))))) .nil)) .nil))
  (.seq (.append 1 (.op .mul (.cons (.lst 0 (.cons (.cst (.bool true)) .nil)) (.cons (.cst (.int 5)) .nil))))
  (.seq (.set 4 (.lst 0 (.cons (.tup (.cons (.cst (.int 0)) .nil)) (.cons (.tup (.cons (.cst (.int 1)) (.cons (.cst (.int 0)) .nil))) (.cons (.tup (.cons (.cst (.int 2)) (.cons (.cst (.int 1)) (.cons (.cst (.int 0)) .nil)))) (.cons (.tup (.cons (.cst (.int 1)) (.cons (.cst (.int 2)) (.cons (.cst (.int 3)) .nil)))) (.cons (.tup (.cons (.cst (.int 0)) (.cons (.cst (.int 1)) .nil))) (.cons (.tup (.cons (.cst (.int 1)) (.cons (.cst (.int 2)) (.cons (.cst (.int 1)) .nil)))) (.cons (.tup (.cons (.cst (.int 1)) (.cons (.cst (.int 1)) .nil))) (.cons (.tup (.cons (.cst (.int 1)) (.cons (.cst (.int 3)) .nil))) (.cons (.tup .nil) (.cons (.lst 0 (.cons (.cst (.int 1)) (.cons (.cst (.int 0)) .nil))) (.cons (.tup (.cons (.cst (.int 1)) (.cons (.cst (.int 4)) .nil))) (.cons (.tup (.cons (.op .neg (.cons (.cst (.int 1)) .nil)) .nil)) (.cons (.cst .none) .nil)))))))))))))))
  (.seq (.set 4 (.op .add (.cons (.bor 4) (.cons (.lst 0 (.cons (.cst (.int 1)) .nil)) .nil))))
  (.seq (.set 4 (.op .add (.cons (.bor 4) (.cons (.lst 0 (.cons (.tup (.cons (.cst (.bool true)) (.cons (.cst (.int 0)) .nil))) (.cons (.tup (.cons (.cst (.int 1)) (.cons (.cst .none) .nil))) (.cons (.tup (.cons (.cst (.int 1)) (.cons (.tup (.cons (.cst (.int 0)) .nil)) .nil))) (.cons (.tup (.cons (.cst (.str (PySem.Str.ofString "1"))) .nil)) (.cons (.tup (.cons (.cst (.int 1)) (.cons (.lst 0 (.cons (.cst (.int 0)) .nil)) .nil))) (.cons (.cst (.str (PySem.Str.ofString "10"))) (.cons (.tup (.cons (.cst (.int 2)) (.cons (.cst (.int 3)) (.cons (.cst (.int 3)) .nil)))) .nil)))))))) .nil))))
  (.seq (.append 0 (.comp 0 (.call 11 (.cons (.var 5) (.cons (.var 8) .nil))) (.v 8) (.iter .seq (.cons (.var 4) .nil)) .nil))
  (.seq (.append 1 (.op .add (.cons (.op .mul (.cons (.lst 0 (.cons (.cst (.bool true)) .nil)) (.cons (.cst (.int 4)) .nil))) (.cons (.op .mul (.cons (.lst 0 (.cons (.cst (.bool false)) .nil)) (.cons (.cst (.int 17)) .nil))) .nil))))
  (.seq (.set 0 (.op .add (.cons (.bor 0) (.cons (.lst 0 (.cons (.callk 11 0 [1, 0] (.cons (.tup (.cons (.cst (.int 2)) (.cons (.cst (.int 3)) .nil))) (.cons (.call 16 (.cons (.var 5) .nil)) .nil))) (.cons (.callk 4 0 [0] (.cons (.var 5) .nil)) .nil))) .nil))))
  (.seq (.set 0 (.op .add (.cons (.bor 0) (.cons (.lst 0 (.cons (.callk 10 0 [1, 0] (.cons (.cst (.int 0)) (.cons (.call 16 (.cons (.var 5) .nil)) .nil))) (.cons (.call 26 (.cons (.var 5) (.cons (.cst (.int 4)) .nil))) (.cons (.call 26 (.cons (.tup (.cons (.cst (.int 3)) .nil)) (.cons (.op .neg (.cons (.cst (.int 1)) .nil)) .nil))) .nil)))) .nil))))
  (.ret (.call 15 (.cons (.var 0) (.cons (.op .add (.cons (.bor 1) (.cons (.lst 0 (.cons (.cst (.bool true)) (.cons (.cst (.bool true)) (.cons (.tup (.cons (.cst (.int 1)) .nil)) (.cons (.lst 0 (.cons (.cst (.str (PySem.Str.ofString "none"))) (.cons (.cst (.int 4)) (.cons (.cst (.bool true)) .nil)))) (.cons (.lst 0 (.cons (.cst (.str (PySem.Str.ofString "none"))) (.cons (.op .neg (.cons (.cst (.int 1)) .nil)) (.cons (.cst (.bool true)) .nil)))) .nil)))))) .nil))) .nil)))))))))))))))))))))))))))
-- _law_right(_law_tin) pm=[1] slots=['_law_tin', '_law_turn']
def b29 : S :=
 (.ret (.op .all (.cons (.comp 0 (.call 27 (.cons (.bor 0) (.cons (.call 20 (.cons (.bor 0) (.cons (.cst (.int 6)) .nil))) .nil))) (.v 1) (.iter .range1 (.cons (.cst (.int 3)) .nil)) .nil) .nil)))
-- law(_law_script) pm=[0] slots=['_law_script', '_law_cells_here', '_law_k']
def b30 : S :=
 (.seq (.ite (.op .not (.cons (.call 28 .nil) .nil))
 (.ret (.cst (.bool false)))
 .skip)
  (.seq (.set 1 (.call 14 (.cons (.var 0) (.cons (.cst (.int 2)) .nil))))
  (.ret (.op .all (.cons (.comp 0 (.call 29 (.cons (.call 12 (.cons (.var 1) (.cons (.var 2) .nil))) .nil)) (.v 2) (.iter .range1 (.cons (.op .len (.cons (.bor 1) .nil)) .nil)) .nil) .nil)))))
def fnL : List FnDef := [⟨[0], 1, b0⟩, ⟨[0, 0], 2, b1⟩, ⟨[0], 3, b2⟩, ⟨[0], 1, b3⟩, ⟨[0], 4, b4⟩, ⟨[0, 0], 3, b5⟩, ⟨[0], 3, b6⟩, ⟨[0], 3, b7⟩, ⟨[0, 0], 2, b8⟩, ⟨[0], 3, b9⟩, ⟨[0, 0], 4, b10⟩, ⟨[0, 0], 5, b11⟩, ⟨[0, 0], 3, b12⟩, ⟨[1, 0], 6, b13⟩, ⟨[0, 0], 6, b14⟩, ⟨[0, 0], 4, b15⟩, ⟨[0], 2, b16⟩, ⟨[1, 0], 2, b17⟩, ⟨[1, 0, 0], 6, b18⟩, ⟨[1, 0], 2, b19⟩, ⟨[1, 0], 7, b20⟩, ⟨[0], 1, b21⟩, ⟨[0], 4, b22⟩, ⟨[0, 0], 5, b23⟩, ⟨[1, 0], 8, b24⟩, ⟨[1, 0], 8, b25⟩, ⟨[0, 0], 5, b26⟩, ⟨[1, 0], 16, b27⟩, ⟨[], 10, b28⟩, ⟨[1], 2, b29⟩, ⟨[0], 3, b30⟩]
def clsL : List ClsDef := [⟨"LookupError", some (PySem.Str.ofString "number")⟩]
def glbL : List D := []
end PL.k01
end

section
set_option maxRecDepth 100000
namespace PL.k01
open PySem PL
variable {cls : Nat → Option ClsDef}
abbrev cN (cls : Nat → Option ClsDef) (n : Nat) := callN (fun i => fnL[i]?) (fun i => glbL[i]?) cls n
theorem callN_succ {cls : Nat → Option ClsDef} {n f : Nat} {args : List KD} {fd : FnDef} (h : fnL[f]? = some fd) : cN cls (n + 1) f args = run (fun i => fnL[i]?) (fun i => glbL[i]?) cls (cN cls n) fd args := by
  show (match fnL[f]? with
    | some fd => _
    | none => _) = _
  rw [h]
/-! ### sizes -/
theorem log2_le {a k : Nat} (h : a < 2 ^ k) : a.log2 ≤ k := by
  by_cases h0 : a = 0
  · subst h0
    simp
  · exact Nat.le_of_lt ((Nat.log2_lt h0).mpr h)
theorem mulOk_lt {i j : Int} {k : Nat} (h : i.natAbs < 2 ^ k) (h' : j.natAbs < 2 ^ k) (hk : k < 10000000) : mulOk i j = true := by
  unfold mulOk
  have h1 := log2_le h
  have h2 := log2_le h'
  rw [decide_eq_true_eq]
  omega
theorem divOk_lt {j : Int} (h : 0 < j) (h' : j < 2 ^ 62) : divOk j = true := by
  unfold divOk
  have h1 : j.natAbs < 2 ^ 62 := by omega
  have h2 := log2_le h1
  have h3 : j ≠ 0 := by omega
  simp only [Bool.and_eq_true, decide_eq_true_eq]
  exact ⟨h3, by omega⟩
theorem fmod_nn {a b : Int} (hb : 0 < b) : 0 ≤ a.fmod b ∧ a.fmod b < b := ⟨Int.fmod_nonneg_of_pos a hb, Int.fmod_lt_of_pos a hb⟩
theorem small_abs {i : Int} {k : Nat} (h0 : 0 ≤ i) (h : i < ((2 ^ k : Nat) : Int)) : i.natAbs < 2 ^ k := by omega
/-! ### a box and its draws -/
abbrev bx (x y z : Int) : D := .list [.int x, .int y, .int z]
structure Bx (x y z : Int) : Prop where
  x0 : 0 ≤ x
  y0 : 0 ≤ y
  y1 : y < 2 ^ 62
  z0 : 0 ≤ z
def dr1 (y z : Int) : Int := ((y + 48271 * (z + 1)) * (39373 + (z + 1))).fmod 2147483647
def dr2 (y z : Int) : Int := ((dr1 y z + (z + 1) + y.fdiv 1000003) * ((dr1 y z).fmod 40009 + 7)).fmod 2147483629
def drw (y z m : Int) : Int := (((dr2 y z * 48271 + dr1 y z).fmod 2147483587).fdiv 64).fmod m
theorem take_big {n : Nat} {x y z m : Int} (hx : 0 < x) (hm : 0 < m) (hm2 : m < 2 ^ 60) :
    cN cls (n + 1) 13 [(1, bx x y z), (0, .int m)] = .ok (0, .int (x.fmod m)) [some (1, bx (x.fdiv m) y z), none] := by
  rw [callN_succ rfl]
  have h0 : m ≠ 0 := by omega
  have h1 : divOk m = true := divOk_lt hm (by omega)
  simp [b13, run, startE, evS, ev, oneS, oneKD, R.bind, opR, itemsKD, itemKD, getS, semOp, sem1, sem2, sem3, sIx, ixAt, sGt, sLt, sLe, sAdd, sSub, sMul, sFdiv, sMod, sAbs, sInt, sLen, lowerItems, lowerS, truth, freshOp, free, maskO, ixPos, callR, argsFor, outsTo, slotsOf, freezeS, setS, ksD, iterOf, slotsP, hx, h0, h1]
theorem take_small {n : Nat} {y z m : Int} (hy : 0 ≤ y) (hy2 : y < 2 ^ 62) (hz : 0 ≤ z) (hz2 : z < 2 ^ 40) (hm : 0 < m) (hm2 : m < 2 ^ 60) :
    cN cls (n + 1) 13 [(1, bx 0 y z), (0, .int m)] = .ok (0, .int (drw y z m)) [some (1, bx 0 y (z + 1)), none] := by
  rw [callN_succ rfl]
  have h0 : m ≠ 0 := by omega
  have a1 : mulOk 48271 (z + 1) = true := mulOk_lt (k := 100) (by decide) (by omega) (by decide)
  have a2 : mulOk (y + 48271 * (z + 1)) (39373 + (z + 1)) = true := mulOk_lt (k := 100) (by omega) (by omega) (by decide)
  have d1 : divOk 1000003 = true := by decide
  have d2 : divOk 64 = true := by decide
  have q1 := fmod_nn (a := (y + 48271 * (z + 1)) * (39373 + (z + 1))) (b := 2147483647) (by decide)
  have q2 := fmod_nn (a := dr1 y z) (b := 40009) (by decide)
  have q3 : 0 ≤ y.fdiv 1000003 ∧ y.fdiv 1000003 ≤ y := by
    rw [Int.fdiv_eq_ediv_of_nonneg _ (by decide)]
    omega
  have q1' : 0 ≤ dr1 y z ∧ dr1 y z < 2147483647 := q1
  have a3 : mulOk (dr1 y z + (z + 1) + y.fdiv 1000003) ((dr1 y z).fmod 40009 + 7) = true := mulOk_lt (k := 100) (by omega) (by omega) (by decide)
  have q4 := fmod_nn (a := (dr1 y z + (z + 1) + y.fdiv 1000003) * ((dr1 y z).fmod 40009 + 7)) (b := 2147483629) (by decide)
  have q4' : 0 ≤ dr2 y z ∧ dr2 y z < 2147483629 := q4
  have a4 : mulOk (dr2 y z) 48271 = true := mulOk_lt (k := 100) (by omega) (by decide) (by decide)
  unfold dr2 dr1 at a4
  unfold dr1 at a3
  simp [b13, run, startE, evS, ev, oneS, oneKD, R.bind, opR, itemsKD, itemKD, getS, semOp, sem1, sem2, sem3, sIx, ixAt, sGt, sLt, sLe, sAdd, sSub, sMul, sFdiv, sMod, sAbs, sInt, sLen, lowerItems, lowerS, truth, freshOp, free, maskO, ixPos, callR, argsFor, outsTo, slotsOf, freezeS, setS, ksD, iterOf, slotsP, h0, a1, a2, a3, a4, d1, d2]
  rfl
/-- a draw -/
theorem take_ok (n : Nat) {x y z m : Int} (b : Bx x y z) (hz : z < 2 ^ 40) (hm : 0 < m) (hm2 : m < 2 ^ 60) :
    ∃ r x' z', cN cls (n + 1) 13 [(1, bx x y z), (0, .int m)] = .ok (0, .int r) [some (1, bx x' y z'), none] ∧ 0 ≤ r ∧ r < m ∧ Bx x' y z' ∧ z' ≤ z + 1 := by
  by_cases hx : 0 < x
  · have q := fmod_nn (a := x) hm
    have q2 : 0 ≤ x.fdiv m := by
      rw [Int.fdiv_eq_ediv_of_nonneg _ (by omega)]
      exact Int.ediv_nonneg b.x0 (by omega)
    exact ⟨_, _, _, take_big hx hm hm2, q.1, q.2, ⟨q2, b.y0, b.y1, b.z0⟩, by omega⟩
  · have e : x = 0 := by have := b.x0; omega
    subst e
    have q := fmod_nn (a := ((dr2 y z * 48271 + dr1 y z).fmod 2147483587).fdiv 64) hm
    exact ⟨_, _, _, take_small b.y0 b.y1 b.z0 hz hm hm2, q.1, q.2, ⟨by decide, b.y0, b.y1, by have := b.z0; omega⟩, by omega⟩
end PL.k01
end

section
set_option maxRecDepth 100000
namespace PL.k01
open PySem PL
theorem f0 : fnL[0]? = some ⟨[0], 1, b0⟩ := rfl
theorem f1 : fnL[1]? = some ⟨[0, 0], 2, b1⟩ := rfl
theorem f2 : fnL[2]? = some ⟨[0], 3, b2⟩ := rfl
theorem f3 : fnL[3]? = some ⟨[0], 1, b3⟩ := rfl
theorem f4 : fnL[4]? = some ⟨[0], 4, b4⟩ := rfl
theorem f5 : fnL[5]? = some ⟨[0, 0], 3, b5⟩ := rfl
theorem f6 : fnL[6]? = some ⟨[0], 3, b6⟩ := rfl
theorem f7 : fnL[7]? = some ⟨[0], 3, b7⟩ := rfl
theorem f8 : fnL[8]? = some ⟨[0, 0], 2, b8⟩ := rfl
theorem f9 : fnL[9]? = some ⟨[0], 3, b9⟩ := rfl
theorem f10 : fnL[10]? = some ⟨[0, 0], 4, b10⟩ := rfl
theorem f11 : fnL[11]? = some ⟨[0, 0], 5, b11⟩ := rfl
theorem f12 : fnL[12]? = some ⟨[0, 0], 3, b12⟩ := rfl
theorem f13 : fnL[13]? = some ⟨[1, 0], 6, b13⟩ := rfl
theorem f14 : fnL[14]? = some ⟨[0, 0], 6, b14⟩ := rfl
theorem f15 : fnL[15]? = some ⟨[0, 0], 4, b15⟩ := rfl
theorem f16 : fnL[16]? = some ⟨[0], 2, b16⟩ := rfl
theorem f17 : fnL[17]? = some ⟨[1, 0], 2, b17⟩ := rfl
theorem f18 : fnL[18]? = some ⟨[1, 0, 0], 6, b18⟩ := rfl
theorem f19 : fnL[19]? = some ⟨[1, 0], 2, b19⟩ := rfl
theorem f20 : fnL[20]? = some ⟨[1, 0], 7, b20⟩ := rfl
theorem f21 : fnL[21]? = some ⟨[0], 1, b21⟩ := rfl
theorem f22 : fnL[22]? = some ⟨[0], 4, b22⟩ := rfl
theorem f23 : fnL[23]? = some ⟨[0, 0], 5, b23⟩ := rfl
theorem f24 : fnL[24]? = some ⟨[1, 0], 8, b24⟩ := rfl
theorem f25 : fnL[25]? = some ⟨[1, 0], 8, b25⟩ := rfl
theorem f26 : fnL[26]? = some ⟨[0, 0], 5, b26⟩ := rfl
theorem f27 : fnL[27]? = some ⟨[1, 0], 16, b27⟩ := rfl
theorem f28 : fnL[28]? = some ⟨[], 10, b28⟩ := rfl
theorem f29 : fnL[29]? = some ⟨[1], 2, b29⟩ := rfl
theorem f30 : fnL[30]? = some ⟨[0], 3, b30⟩ := rfl
variable {cls : Nat → Option ClsDef}
/-! ### held parts -/
def evB (fns : Nat → Option FnDef) (glb : Nat → Option D) (call : CallF) (cls : Nat → Option ClsDef) (lk : List Nat) (s : S) : Env → R Flow := evS fns glb call cls lk s
def evX (fns : Nat → Option FnDef) (glb : Nat → Option D) (call : CallF) (e : E) : Env → R (List Item) := ev fns glb call e
theorem evFor {fns : Nat → Option FnDef} {glb : Nat → Option D} {call : CallF} {cls : Nat → Option ClsDef} {lk : List Nat} {p : Pat} {it : E} {b : S} {env : Env} : evS fns glb call cls lk (.for_ p it b) env = (ev fns glb call it env).bind fun xs env1 => match ksD xs with
    | some ds => if (slotsP p).all (free lk) then forLoop p (evB fns glb call cls lk b) ds env1 else .bad "for locked"
    | none => .bad "for iter" := rfl
theorem evComp {fns : Nat → Option FnDef} {glb : Nat → Option D} {call : CallF} {m : Nat} {p : Pat} {e it c : E} {env : Env} : ev fns glb call (.comp m e p it c) env = compR m p (condOf c (evX fns glb call c)) (evX fns glb call e) (ev fns glb call it env) := rfl
theorem evComp2 {fns : Nat → Option FnDef} {glb : Nat → Option D} {call : CallF} {p p2 : Pat} {e it c it2 c2 : E} {env : Env} : ev fns glb call (.comp2 e p it c p2 it2 c2) env = comp2R p p2 (condOf c (evX fns glb call c)) (evX fns glb call it2) (condOf c2 (evX fns glb call c2)) (evX fns glb call e) (ev fns glb call it env) := rfl
theorem bind_v {i : Nat} {d : D} {env : Env} (h : i < env.length) : bindPat (.v i) d env = some (env.set i (some (0, d))) := by
  simp [bindPat, h]
/-! ### loops -/
theorem for_inv {p : Pat} {body : Env → R Flow} (I : Nat → Env → Prop) : ∀ (ds : List D) (i : Nat) (env : Env), I i env →
    (∀ k d, ds[k]? = some d → ∀ env, I (i + k) env → ∃ env1 env2, bindPat p d env = some env1 ∧ body env1 = .ok .nx env2 ∧ I (i + k + 1) env2) →
    ∃ env', forLoop p body ds env = .ok .nx env' ∧ I (i + ds.length) env'
  | [], i, env, h, _ => ⟨env, rfl, h⟩
  | d :: ds, i, env, h, st => by
    obtain ⟨e1, e2, b1, b2, b3⟩ := st 0 d rfl env h
    obtain ⟨e', r, h'⟩ := for_inv I ds (i + 1) e2 b3 fun k d hk env hI => by
      have e : i + 1 + k = i + (k + 1) := by omega
      rw [e] at hI ⊢
      exact st (k + 1) d (by simpa using hk) env hI
    refine ⟨e', ?_, ?_⟩
    · simp only [forLoop, b1, b2]
      exact r
    · have e : i + (d :: ds).length = i + 1 + ds.length := by simp; omega
      rw [e]
      exact h'
theorem for_all {p : Pat} {body : Env → R Flow} {kd : KD} (I : Env → Prop) (T : Nat → D → Bool) : ∀ (ds : List D) (i : Nat) (env : Env), I env →
    (∀ k d, ds[k]? = some d → ∀ env, I env → ∃ env1, bindPat p d env = some env1 ∧ (T (i + k) d = true → ∃ env2, body env1 = .ok .nx env2 ∧ I env2) ∧ (T (i + k) d = false → ∃ env2, body env1 = .ok (.rt kd) env2)) →
    ((∀ k d, ds[k]? = some d → T (i + k) d = true) ∧ ∃ env', forLoop p body ds env = .ok .nx env' ∧ I env') ∨ ((∃ k d, ds[k]? = some d ∧ T (i + k) d = false) ∧ ∃ env', forLoop p body ds env = .ok (.rt kd) env')
  | [], i, env, h, _ => .inl ⟨fun k d hk => by simp at hk, env, rfl, h⟩
  | d :: ds, i, env, h, st => by
    obtain ⟨e1, b1, b2, b3⟩ := st 0 d rfl env h
    cases ht : T (i + 0) d with
    | false =>
      obtain ⟨e2, b4⟩ := b3 ht
      exact .inr ⟨⟨0, d, rfl, ht⟩, e2, by simp only [forLoop, b1, b4]⟩
    | true =>
      obtain ⟨e2, b4, b5⟩ := b2 ht
      have e : forLoop p body (d :: ds) env = forLoop p body ds e2 := by simp only [forLoop, b1, b4]
      rw [e]
      rcases for_all I T ds (i + 1) e2 b5 (fun k d hk env hI => by
        have e : i + 1 + k = i + (k + 1) := by omega
        rw [e]
        exact st (k + 1) d (by simpa using hk) env hI) with ⟨h1, h2⟩ | ⟨⟨k, d', h1, h2⟩, h3⟩
      · refine .inl ⟨fun k d' hk => ?_, h2⟩
        cases k with
        | zero => cases hk; exact ht
        | succ k =>
          have e : i + (k + 1) = i + 1 + k := by omega
          rw [e]
          exact h1 k d' (by simpa using hk)
      · refine .inr ⟨⟨k + 1, d', by simpa using h1, ?_⟩, h3⟩
        have e : i + (k + 1) = i + 1 + k := by omega
        rw [e]
        exact h2
/-- a comprehension whose parts leave all as it was -/
theorem comp_pure {m : Nat} {p : Pat} {cond : Option (Env → R (List Item))} {elt : Env → R (List Item)} {env : Env} (T : D → Bool) (g : D → D) : ∀ (ds acc : List D),
    (∀ d ∈ ds, ∃ env1 env2, bindPat p d env = some env1 ∧ testR cond env1 = .ok (T d) env2 ∧ (T d = true → ∃ k env3, elt env2 = .ok [.val (k, g d)] env3 ∧ m ≤ k ∧ wipeE env3 (slotsP p) = env) ∧ (T d = false → wipeE env2 (slotsP p) = env)) →
    compLoop m p cond elt ds acc env = .ok (acc ++ (ds.filter T).map g) env
  | [], acc, _ => by simp [compLoop]
  | d :: ds, acc, st => by
    obtain ⟨e1, e2, b1, b2, b3, b4⟩ := st d List.mem_cons_self
    have ih := fun acc => comp_pure T g ds acc fun d hd => st d (List.mem_cons_of_mem _ hd)
    cases ht : T d with
    | true =>
      obtain ⟨k, e3, b5, b6, b7⟩ := b3 ht
      rw [ht] at b2
      simp only [compLoop, b1, b2, b5, if_pos b6, b7]
      rw [ih]
      simp [ht]
    | false =>
      rw [ht] at b2
      simp only [compLoop, b1, b2, b4 ht]
      rw [ih]
      simp [ht]
theorem comp_map {m : Nat} {p : Pat} {elt : Env → R (List Item)} {env : Env} (g : D → D) (ds : List D)
    (h : ∀ d ∈ ds, ∃ env1 k env3, bindPat p d env = some env1 ∧ elt env1 = .ok [.val (k, g d)] env3 ∧ m ≤ k ∧ wipeE env3 (slotsP p) = env) : compLoop m p none elt ds [] env = .ok (ds.map g) env := by
  have := comp_pure (m := m) (p := p) (cond := none) (elt := elt) (env := env) (fun _ => true) g ds [] fun d hd => by
    obtain ⟨e1, k, e3, b1, b2, b3, b4⟩ := h d hd
    exact ⟨e1, e1, b1, rfl, fun _ => ⟨k, e3, b2, b3, b4⟩, fun z => nomatch z⟩
  rw [List.filter_eq_self.mpr (fun _ _ => rfl), List.nil_append] at this
  exact this
/-- with a state -/
theorem comp_inv {m : Nat} {p : Pat} {elt : Env → R (List Item)} (I : Nat → Env → Prop) (P : D → Prop) : ∀ (ds acc : List D) (i : Nat) (env : Env), I i env →
    (∀ k d, ds[k]? = some d → ∀ env, I (i + k) env → ∃ env1 j v env3, bindPat p d env = some env1 ∧ elt env1 = .ok [.val (j, v)] env3 ∧ m ≤ j ∧ P v ∧ I (i + k + 1) (wipeE env3 (slotsP p))) →
    ∃ vs env', compLoop m p none elt ds acc env = .ok (acc ++ vs) env' ∧ vs.length = ds.length ∧ (∀ v ∈ vs, P v) ∧ I (i + ds.length) env'
  | [], acc, i, env, h, _ => ⟨[], env, by simp [compLoop], rfl, fun _ hv => absurd hv List.not_mem_nil, h⟩
  | d :: ds, acc, i, env, h, st => by
    obtain ⟨e1, j, v, e3, b1, b2, b3, b4, b5⟩ := st 0 d rfl env h
    obtain ⟨vs, e', r1, r2, r3, r4⟩ := comp_inv I P ds (acc ++ [v]) (i + 1) _ b5 fun k d hk env hI => by
      have e : i + 1 + k = i + (k + 1) := by omega
      rw [e] at hI ⊢
      exact st (k + 1) d (by simpa using hk) env hI
    refine ⟨v :: vs, e', ?_, by simp [r2], fun w hw => ?_, ?_⟩
    · simp only [compLoop, b1, testR, b2, if_pos b3]
      rw [r1]
      simp
    · rcases List.mem_cons.mp hw with rfl | hw
      · exact b4
      · exact r3 w hw
    · have e : i + (d :: ds).length = i + 1 + ds.length := by simp; omega
      rw [e]
      exact r4
theorem ksD_map : ∀ ds : List D, ksD (ds.map fun v => Item.val (0, v)) = some ds
  | [] => rfl
  | d :: ds => by simp [ksD, ksD_map ds]
theorem rangeD_nat (n : Nat) : rangeD 0 n = (List.range n).map fun i => .int (i : Nat) := by
  unfold rangeD
  simp
theorem rng1_nat {n : Nat} (h : n ≤ 16777216) : rng1 (.int n) = some (rangeD 0 n) := by
  have h1 : szOk (n : Int).toNat = true := decide_eq_true (by rw [Int.toNat_natCast]; exact h)
  have h2 : decide (-(2 ^ 62) ≤ (n : Int)) = true := decide_eq_true (by omega)
  show (if szOk (n : Int).toNat && decide (-(2 ^ 62) ≤ (n : Int)) then _ else _) = _
  rw [h1, h2]
  rfl
theorem range_get {n k : Nat} {d : D} (h : (rangeD 0 n)[k]? = some d) : k < n ∧ d = .int (k : Nat) := by
  rw [rangeD_nat, List.getElem?_map] at h
  obtain ⟨a, h1, h2⟩ := Option.map_eq_some_iff.mp h
  obtain ⟨h3, h4⟩ := List.getElem?_eq_some_iff.mp h1
  simp at h3 h4
  subst h4
  exact ⟨h3, h2.symm⟩
theorem ix_nat {α : Type} {xs : List α} {r : Int} (h0 : 0 ≤ r) (h1 : r < xs.length) : ∃ v, ixAt xs r = some v ∧ v ∈ xs := by
  obtain ⟨k, rfl⟩ := Int.eq_ofNat_of_zero_le h0
  have hk : k < xs.length := by simpa using h1
  exact ⟨xs[k], by simp [ixAt, hk], List.getElem_mem hk⟩
/-! ### _law_of, _law_pick, _law_mixed -/
theorem of_ok (n : Nat) {x y z : Int} {xs : List D} (b : Bx x y z) (hz : z < 2 ^ 40) (hx : xs ≠ []) (hl : xs.length < 2 ^ 30) :
    ∃ v x' z', cN cls (n + 2) 17 [(1, bx x y z), (0, .list xs)] = .ok (0, v) [some (1, bx x' y z'), none] ∧ v ∈ xs ∧ Bx x' y z' ∧ z' ≤ z + 1 := by
  have hp : 0 < xs.length := List.length_pos_iff.mpr hx
  obtain ⟨r, x', z', h1, h2, h3, h4, h5⟩ := take_ok (cls := cls) n (m := (xs.length : Int)) b hz (by omega) (by omega)
  obtain ⟨v, h6, h7⟩ := ix_nat h2 h3
  refine ⟨v, x', z', ?_, h7, h4, h5⟩
  unfold ixAt at h6
  rw [callN_succ f17]
  simp [b17, f13, ↓evFor, ↓evComp, ↓evComp2, run, startE, evS, ev, oneS, oneKD, R.bind, opR, itemsKD, itemKD, getS, semOp, sem1, sem2, sem3, sIx, ixAt, sGt, sLt, sLe, sAdd, sSub, sMul, sFdiv, sMod, sAbs, sInt, sLen, lowerItems, lowerS, truth, freshOp, free, maskO, ixPos, callR, argsFor, outsTo, slotsOf, freezeS, setS, ksD, iterOf, slotsP, h1, h2]
  simp [h2] at h6
  simp [h6]
  rfl
end PL.k01
end

section
set_option maxRecDepth 100000
namespace PL.k01
open PySem PL
variable {cls : Nat → Option ClsDef}
theorem cons_erase : ∀ (l : List D) (q : Nat) (h : q < l.length), (l[q] :: l.eraseIdx q).Perm l
  | [], q, h => by simp at h
  | a :: l, 0, h => by simp
  | a :: l, q + 1, h => by
    have h' : q < l.length := by simpa using h
    simp only [List.getElem_cons_succ, List.eraseIdx_cons_succ]
    exact (List.Perm.swap _ _ _).trans ((cons_erase l q h').cons a)
theorem pick_ok (n : Nat) {x y z : Int} {pool : List D} (b : Bx x y z) (hz : z + pool.length < 2 ^ 40) (hl : pool.length ≤ 1000) :
    ∃ lot x' z', cN cls (n + 2) 18 [(1, bx x y z), (0, .list pool), (0, .int pool.length)] = .ok (1, .list lot) [some (1, bx x' y z'), none, none] ∧ lot.Perm pool ∧ Bx x' y z' ∧ z' ≤ z + pool.length := by
  rw [callN_succ f18]
  have hr : rng1 (.int (pool.length : Nat)) = some (rangeD 0 pool.length) := rng1_nat (by omega)
  have rl : (rangeD 0 pool.length).length = pool.length := by rw [rangeD_nat]; simp
  simp [b18, ↓evFor, ↓evComp, ↓evComp2, run, startE, evS, ev, oneS, oneKD, R.bind, opR, itemsKD, itemKD, getS, semOp, sem1, sem2, sem3, sIx, ixAt, sGt, sLt, sLe, sAdd, sSub, sMul, sFdiv, sMod, sAbs, sInt, sLen, lowerItems, lowerS, truth, freshOp, free, maskO, ixPos, callR, argsFor, outsTo, slotsOf, freezeS, setS, ksD, iterOf, slotsP, mkLst, valsKD, szOk, seqOf, parSet, slotsP, iterOf, ksD, ksD_map, sMin2, hr]
  generalize hF : forLoop _ _ _ _ = r
  obtain ⟨e', h1, x', z', left, lot, lap, h2, h3, h4, h5, h6⟩ : ∃ e', r = .ok .nx e' ∧ ∃ (x' z' : Int) (left lot : List D) (lap : Option KD), e' = [some (1, bx x' y z'), some (0, .list pool), some (0, .int pool.length), lap, some (1, .list left), some (1, .list lot)] ∧ Bx x' y z' ∧ z' ≤ z + pool.length ∧ lot.length = pool.length ∧ (lot ++ left).Perm pool := by
    have key := for_inv (p := .v 3) (body := evB (fun i => fnL[i]?) (fun i => glbL[i]?) (callN (fun i => fnL[i]?) (fun i => glbL[i]?) cls (n + 1)) cls [1, 0, 0] (.append 5 (.popat 4 (.call 13 (.cons (.bor 0) (.cons (.op .len (.cons (.bor 4) .nil)) .nil))))))
      (fun k e => ∃ (x' z' : Int) (left lot : List D) (lap : Option KD), e = [some (1, bx x' y z'), some (0, .list pool), some (0, .int pool.length), lap, some (1, .list left), some (1, .list lot)] ∧ Bx x' y z' ∧ z' ≤ z + k ∧ lot.length = k ∧ (lot ++ left).Perm pool)
      (rangeD 0 pool.length) 0 [some (1, bx x y z), some (0, .list pool), some (0, .int pool.length), none, some (1, .list pool), some (1, .list [])] ⟨x, z, pool, [], none, rfl, b, by omega, rfl, List.Perm.refl _⟩ fun k d hk env hI => by
        obtain ⟨x1, z1, left, lot, lap, e1, e2, e3, e4, e5⟩ := hI
        obtain ⟨hk, rfl⟩ := range_get hk
        subst e1
        have hlen := e5.length_eq
        rw [List.length_append] at hlen
        have hp : 0 < left.length := by omega
        obtain ⟨r, x2, z2, t1, t2, t3, t4, t5⟩ := take_ok (cls := cls) n (m := (left.length : Int)) e2 (by omega) (by omega) (by omega)
        obtain ⟨q, rfl⟩ := Int.eq_ofNat_of_zero_le t2
        have hq : q < left.length := by omega
        refine ⟨_, [some (1, bx x2 y z2), some (0, .list pool), some (0, .int pool.length), some (0, .int (k : Nat)), some (1, .list (left.eraseIdx q)), some (1, .list (lot ++ [left[q]]))], by simp [bindPat]; rfl, ?_, x2, z2, _, _, _, rfl, t4, by omega, by simp; omega, ?_⟩
        · have hm : lot.length < maxLen := by show lot.length < 16777216; omega
          unfold evB
          simp [f13, ↓evFor, ↓evComp, ↓evComp2, run, startE, evS, ev, oneS, oneKD, R.bind, opR, itemsKD, itemKD, getS, semOp, sem1, sem2, sem3, sIx, ixAt, sGt, sLt, sLe, sAdd, sSub, sMul, sFdiv, sMod, sAbs, sInt, sLen, lowerItems, lowerS, truth, freshOp, free, maskO, ixPos, callR, argsFor, outsTo, slotsOf, freezeS, setS, ksD, iterOf, slotsP, t1, popatR, hq, hm]
        · rw [List.append_assoc]
          refine List.Perm.trans (List.Perm.append_left lot ?_) e5
          exact cons_erase left q hq
    rw [rl, Nat.zero_add] at key
    rw [← hF]
    exact key
  subst h1 h2
  have e0 : left = [] := by
    have := h6.length_eq
    rw [List.length_append] at this
    exact List.length_eq_zero_iff.mp (by omega)
  subst e0
  rw [List.append_nil] at h6
  exact ⟨lot, x', z', rfl, h6, h3, h4⟩
theorem mixed_ok (n : Nat) {x y z : Int} {pool : List D} (b : Bx x y z) (hz : z + pool.length < 2 ^ 40) (hl : pool.length ≤ 1000) :
    ∃ lot x' z', cN cls (n + 3) 19 [(1, bx x y z), (0, .list pool)] = .ok (1, .list lot) [some (1, bx x' y z'), none] ∧ lot.Perm pool ∧ Bx x' y z' ∧ z' ≤ z + pool.length := by
  obtain ⟨lot, x', z', h1, h2, h3, h4⟩ := pick_ok (cls := cls) n b hz hl
  refine ⟨lot, x', z', ?_, h2, h3, h4⟩
  rw [callN_succ f19]
  simp [b19, f18, ↓evFor, ↓evComp, ↓evComp2, run, startE, evS, ev, oneS, oneKD, R.bind, opR, itemsKD, itemKD, getS, semOp, sem1, sem2, sem3, sIx, ixAt, sGt, sLt, sLe, sAdd, sSub, sMul, sFdiv, sMod, sAbs, sInt, sLen, lowerItems, lowerS, truth, freshOp, free, maskO, ixPos, callR, argsFor, outsTo, slotsOf, freezeS, setS, ksD, iterOf, slotsP, h1]
end PL.k01
end

section
set_option maxRecDepth 100000
namespace PL.k01
open PySem PL
variable {cls : Nat → Option ClsDef}
/-! ### numbers in rows -/
abbrev iD (ns : List Int) : List D := ns.map PyData.int
theorem ints_map : ∀ ns : List Int, ints? (iD ns) = some ns
  | [] => rfl
  | n :: ns => by
    show (ints? (iD ns)).map (n :: ·) = _
    rw [ints_map ns]
    rfl
theorem ints_inv : ∀ {ds : List D} {ns : List Int}, ints? ds = some ns → ds = iD ns
  | [], ns, h => by
    cases h
    rfl
  | .int i :: ds, ns, h => by
    obtain ⟨ms, h1, h2⟩ := Option.map_eq_some_iff.mp (show (ints? ds).map (i :: ·) = some ns from h)
    subst h2
    rw [ints_inv h1]
    rfl
  | .none :: _, _, h => nomatch h
  | .bool _ :: _, _, h => nomatch h
  | .str _ :: _, _, h => nomatch h
  | .list _ :: _, _, h => nomatch h
  | .tuple _ :: _, _, h => nomatch h
  | .dict _ :: _, _, h => nomatch h
def intQ : D → Option Int
  | .int i => some i
  | _ => none
theorem fm_cons (i : Int) (ds : List D) : (PyData.int i :: ds).filterMap intQ = i :: ds.filterMap intQ := List.filterMap_cons_some (f := intQ) (a := PyData.int i) (b := i) rfl
theorem fm_iD : ∀ ms : List Int, (iD ms).filterMap intQ = ms
  | [] => rfl
  | m :: ms => by
    show (PyData.int m :: iD ms).filterMap intQ = _
    rw [fm_cons, fm_iD ms]
theorem all_iD : ∀ {lot : List D}, (∀ d ∈ lot, ∃ i, d = .int i) → lot = iD (lot.filterMap intQ)
  | [], _ => rfl
  | d :: lot, h => by
    obtain ⟨i, rfl⟩ := h d List.mem_cons_self
    rw [fm_cons]
    show _ = PyData.int i :: iD _
    rw [← all_iD fun d hd => h d (List.mem_cons_of_mem _ hd)]
theorem perm_iD {lot : List D} {ns : List Int} (h : lot.Perm (iD ns)) : ∃ ms, lot = iD ms ∧ ms.Perm ns := by
  have h1 := h.filterMap intQ
  rw [fm_iD] at h1
  refine ⟨lot.filterMap intQ, all_iD fun d hd => ?_, h1⟩
  obtain ⟨i, _, e⟩ := List.mem_map.mp (h.mem_iff.mp hd)
  exact ⟨i, e.symm⟩
theorem insI_perm (x : Int) : ∀ ys : List Int, (insI x ys).Perm (x :: ys)
  | [] => List.Perm.refl _
  | y :: ys => by
    unfold insI
    split
    · exact ((insI_perm x ys).cons y).trans (List.Perm.swap _ _ _)
    · exact List.Perm.refl _
theorem isort_perm : ∀ xs : List Int, (isort xs).Perm xs
  | [] => List.Perm.refl _
  | x :: xs => (insI_perm x _).trans ((isort_perm xs).cons x)
theorem insI_sorted (x : Int) : ∀ ys : List Int, ys.Pairwise (· ≤ ·) → (insI x ys).Pairwise (· ≤ ·)
  | [], _ => List.pairwise_singleton _ _
  | y :: ys, h => by
    unfold insI
    obtain ⟨h1, h2⟩ := List.pairwise_cons.mp h
    split
    · rename_i hlt
      refine List.pairwise_cons.mpr ⟨fun a ha => ?_, insI_sorted x ys h2⟩
      rcases List.mem_cons.mp ((insI_perm x ys).mem_iff.mp ha) with e | ha
      · omega
      · exact h1 a ha
    · rename_i hlt
      refine List.pairwise_cons.mpr ⟨fun a ha => ?_, h⟩
      rcases List.mem_cons.mp ha with e | ha
      · omega
      · have := h1 a ha
        omega
theorem isort_sorted : ∀ xs : List Int, (isort xs).Pairwise (· ≤ ·)
  | [] => List.Pairwise.nil
  | x :: xs => insI_sorted x _ (isort_sorted xs)
theorem lt_of_le_nodup {l : List Int} (h : l.Pairwise (· ≤ ·)) (n : l.Nodup) : l.Pairwise (· < ·) := by
  have := h.and n
  exact this.imp fun {a b} q => by
    have h1 : a ≤ b := q.1
    have h2 : a ≠ b := q.2
    omega
theorem okD_int (i : Int) : okD (.int i) = true := by rfl
theorem eqv_int (a b : Int) : PyData.eqv (.int a) (.int b) = decide (a = b) := by
  simp only [PyData.eqv]
  rfl
end PL.k01
end

section
set_option maxRecDepth 100000
namespace PL.k01
open PySem PL
variable {cls : Nat → Option ClsDef}
/-- a member at k of a hall of n -/
def Mem (n k : Nat) (d : D) : Prop := (∃ i : Int, d = .int i) ∨ ∃ ns : List Int, d = .tuple (iD ns) ∧ ns ≠ [] ∧ ns.Pairwise (· < ·) ∧ ∀ a ∈ ns, 0 ≤ a ∧ a < n ∧ a ≠ (k : Int)
def Hall (ds : List D) : Prop := ds ≠ [] ∧ ds.length ≤ 6 ∧ ∀ k d, ds[k]? = some d → Mem ds.length k d
theorem snoc_get {fs : List D} {d : D} {P : Nat → D → Prop} (h : ∀ i d, fs[i]? = some d → P i d) (hd : P fs.length d) : ∀ i e, (fs ++ [d])[i]? = some e → P i e := fun i e he => by
  by_cases hi : i < fs.length
  · rw [List.getElem?_append_left hi] at he
    exact h i e he
  · rw [List.getElem?_append_right (by omega)] at he
    have : i - fs.length = 0 := by
      have := (List.getElem?_eq_some_iff.mp he).1
      simp at this
      omega
    rw [this] at he
    cases he
    have e1 : i = fs.length := by omega
    rw [e1]
    exact hd
theorem range_filter (n : Nat) (j : Nat) : (rangeD 0 n).filter (fun d => !PyData.eqv d (.int (j : Nat))) = iD (((List.range n).map fun i : Nat => (i : Int)).filter fun i => !decide (i = (j : Int))) := by
  rw [rangeD_nat]
  unfold iD
  rw [List.filter_map, List.filter_map, List.map_map]
  congr 1
theorem any_ok (n : Nat) {x y z : Int} (b : Bx x y z) (hz : z < 2 ^ 39) :
    ∃ ds x' z', cN cls (n + 4) 20 [(1, bx x y z), (0, .int 6)] = .ok (0, .tuple ds) [some (1, bx x' y z'), none] ∧ Hall ds ∧ Bx x' y z' ∧ z' ≤ z + 200 := by
  obtain ⟨r, x0, z0, t1, t2, t3, b0, t5⟩ := take_ok (cls := cls) (n + 2) (m := 6) b (by omega) (by omega) (by omega)
  obtain ⟨q, rfl⟩ := Int.eq_ofNat_of_zero_le t2
  have hr : rng1 (.int (1 + (q : Int))) = some (rangeD 0 (1 + (q : Int))) := by
    have := rng1_nat (n := 1 + q) (by omega)
    simpa using this
  have rl : (rangeD 0 (1 + (q : Int))).length = 1 + q := by
    have : rangeD 0 (1 + (q : Int)) = rangeD 0 ((1 + q : Nat) : Int) := by simp
    rw [this, rangeD_nat]
    simp
  have rget : ∀ {k d}, (rangeD 0 (1 + (q : Int)))[k]? = some d → k < 1 + q ∧ d = .int (k : Nat) := fun {k d} h => by
    have : rangeD 0 (1 + (q : Int)) = rangeD 0 ((1 + q : Nat) : Int) := by simp
    rw [this] at h
    exact range_get h
  rw [callN_succ f20]
  simp [b20, f13, ↓evFor, ↓evComp, ↓evComp2, run, startE, evS, ev, oneS, oneKD, R.bind, opR, itemsKD, itemKD, getS, semOp, sem1, sem2, sem3, sIx, ixAt, sGt, sLt, sLe, sAdd, sSub, sMul, sFdiv, sMod, sAbs, sInt, sLen, lowerItems, lowerS, truth, freshOp, free, maskO, ixPos, callR, argsFor, outsTo, slotsOf, freezeS, setS, ksD, iterOf, slotsP, mkLst, valsKD, szOk, iterOf, ksD_map, slotsP, t1, hr]
  generalize hF : forLoop _ _ _ _ = rr
  obtain ⟨e', h1, x', z', fs, s4, s5, h2, h3, h4, h5, h6⟩ : ∃ e', rr = .ok .nx e' ∧ ∃ (x' z' : Int) (fs : List D) (s4 s5 : Option KD), e' = [some (1, bx x' y z'), some (0, .int 6), some (0, .int (1 + (q : Int))), some (1, .list fs), s4, s5, none] ∧ Bx x' y z' ∧ z' ≤ z + 1 + 30 * (1 + q : Nat) ∧ fs.length = 1 + q ∧ ∀ i d, fs[i]? = some d → Mem (1 + q) i d := by
    have key := for_inv (p := .v 4) (body := evB (fun i => fnL[i]?) (fun i => glbL[i]?) (callN (fun i => fnL[i]?) (fun i => glbL[i]?) cls (n + 3)) cls [1, 0] (.ite (.or (.op .eq (.cons (.bor 2) (.cons (.cst (.int 1)) .nil))) (.op .lt (.cons (.call 13 (.cons (.bor 0) (.cons (.cst (.int 5)) .nil))) (.cons (.cst (.int 2)) .nil))))  (.append 3 (.call 17 (.cons (.bor 0) (.cons (.lst 0 (.cons (.cst (.int 0)) (.cons (.cst (.int 1)) (.cons (.cst (.int 7)) (.cons (.op .neg (.cons (.cst (.int 3)) .nil)) (.cons (.cst (.int 7)) (.cons (.op .pow (.cons (.cst (.int 10)) (.cons (.cst (.int 9)) .nil))) .nil))))))) .nil))))  (.seq (.set 5 (.comp 0 (.var 6) (.v 6) (.iter .range1 (.cons (.var 2) .nil)) (.op .ne (.cons (.bor 6) (.cons (.bor 4) .nil)))))   (.append 3 (.op .tuple (.cons (.op .sorted (.cons (.op .slb (.cons (.call 19 (.cons (.bor 0) (.cons (.var 5) .nil))) (.cons (.op .add (.cons (.cst (.int 1)) (.cons (.call 13 (.cons (.bor 0) (.cons (.cst (.int 3)) .nil))) .nil))) .nil))) .nil)) .nil))))))
      (fun k e => ∃ (x' z' : Int) (fs : List D) (s4 s5 : Option KD), e = [some (1, bx x' y z'), some (0, .int 6), some (0, .int (1 + (q : Int))), some (1, .list fs), s4, s5, none] ∧ Bx x' y z' ∧ z' ≤ z + 1 + 30 * k ∧ fs.length = k ∧ ∀ i d, fs[i]? = some d → Mem (1 + q) i d)
      (rangeD 0 (1 + (q : Int))) 0 [some (1, bx x0 y z0), some (0, .int 6), some (0, .int (1 + (q : Int))), some (1, .list []), none, none, none] ⟨x0, z0, [], none, none, rfl, b0, by omega, rfl, fun i d h => by simp at h⟩ fun k d hk env hI => by
        obtain ⟨x1, z1, fs, s4, s5, e1, e2, e3, e4, e5⟩ := hI
        obtain ⟨hk, rfl⟩ := rget hk
        rw [Nat.zero_add] at e3 e4
        subst e1
        have hm : fs.length < 16777216 := by omega
        have memI : ∀ v : D, v ∈ [PyData.int 0, .int 1, .int 7, .int (-3), .int 7, .int 1000000000] → ∃ i, v = .int i := fun v hv => by
          simp at hv
          rcases hv with h | h | h | h | h | h <;> exact ⟨_, h⟩
        by_cases h1 : q = 0
        · have h1' : (1 + (q : Int) = 1) := by omega
          obtain ⟨v, x2, z2, t1, t2, t3, t4⟩ := of_ok (cls := cls) (n + 1) (xs := [.int 0, .int 1, .int 7, .int (-3), .int 7, .int 1000000000]) e2 (by omega) (by simp) (by simp)
          refine ⟨_, [some (1, bx x2 y z2), some (0, .int 6), some (0, .int (1 + (q : Int))), some (1, .list (fs ++ [v])), some (0, .int (k : Nat)), s5, none], bind_v (by simp), ?_, x2, z2, fs ++ [v], some (0, .int (k : Nat)), s5, rfl, t3, by omega, by simp; omega, snoc_get e5 (.inl (memI v t2))⟩
          unfold evB
          simp [f17, ↓evFor, ↓evComp, ↓evComp2, run, startE, evS, ev, oneS, oneKD, R.bind, opR, itemsKD, itemKD, getS, semOp, sem1, sem2, sem3, sIx, ixAt, sGt, sLt, sLe, sAdd, sSub, sMul, sFdiv, sMod, sAbs, sInt, sLen, lowerItems, lowerS, truth, freshOp, free, maskO, ixPos, callR, argsFor, outsTo, slotsOf, freezeS, setS, ksD, iterOf, slotsP, sEq, okD_int, eqv_int, sNeg, sPow, powOk, mkLst, valsKD, szOk, maxLen, t1, hm, h1']
        · have h1' : ¬ (1 + (q : Int) = 1) := by omega
          obtain ⟨r, x2, z2, t1, t2, t3, b2, t4⟩ := take_ok (cls := cls) (n + 2) (m := 5) e2 (by omega) (by omega) (by omega)
          by_cases h2 : r < 2
          · obtain ⟨v, x3, z3, t5, t6, t7, t8⟩ := of_ok (cls := cls) (n + 1) (xs := [.int 0, .int 1, .int 7, .int (-3), .int 7, .int 1000000000]) b2 (by omega) (by simp) (by simp)
            refine ⟨_, [some (1, bx x3 y z3), some (0, .int 6), some (0, .int (1 + (q : Int))), some (1, .list (fs ++ [v])), some (0, .int (k : Nat)), s5, none], bind_v (by simp), ?_, x3, z3, fs ++ [v], some (0, .int (k : Nat)), s5, rfl, t7, by omega, by simp; omega, snoc_get e5 (.inl (memI v t6))⟩
            unfold evB
            simp [f17, f13, ↓evFor, ↓evComp, ↓evComp2, run, startE, evS, ev, oneS, oneKD, R.bind, opR, itemsKD, itemKD, getS, semOp, sem1, sem2, sem3, sIx, ixAt, sGt, sLt, sLe, sAdd, sSub, sMul, sFdiv, sMod, sAbs, sInt, sLen, lowerItems, lowerS, truth, freshOp, free, maskO, ixPos, callR, argsFor, outsTo, slotsOf, freezeS, setS, ksD, iterOf, slotsP, sEq, okD_int, eqv_int, sNeg, sPow, powOk, mkLst, valsKD, szOk, maxLen, t1, hm, h1, h1', h2, t5]
          · obtain ⟨pl, hpl⟩ : ∃ pl, pl = ((List.range (1 + q)).map fun i : Nat => (i : Int)).filter fun i => !decide (i = (k : Int)) := ⟨_, rfl⟩
            have hmem : ∀ a ∈ pl, 0 ≤ a ∧ a < (1 + q : Nat) ∧ a ≠ (k : Int) := fun a ha => by
              rw [hpl, List.mem_filter, List.mem_map] at ha
              obtain ⟨⟨i, h3, rfl⟩, h4⟩ := ha
              have := List.mem_range.mp h3
              simp at h4
              omega
            have hnd : pl.Nodup := by
              rw [hpl]
              exact List.Pairwise.filter _ (List.Pairwise.map _ (fun a b (h : a ≠ b) => by omega) List.nodup_range)
            have hne : pl ≠ [] := fun h => by
              have h3 : ((if k = 0 then 1 else 0 : Nat) : Int) ∈ pl := by
                rw [hpl, List.mem_filter, List.mem_map]
                refine ⟨⟨_, List.mem_range.mpr (by split <;> omega), rfl⟩, ?_⟩
                simp
                split <;> omega
              rw [h] at h3
              cases h3
            have hpl6 : pl.length ≤ 6 := by
              rw [hpl]
              refine Nat.le_trans (List.length_filter_le _ _) ?_
              simp
              omega
            have hcomp : ∀ {s5 : Option KD}, compLoop 0 (.v 6) (some (evX (fun i => fnL[i]?) (fun i => glbL[i]?) (callN (fun i => fnL[i]?) (fun i => glbL[i]?) cls (n + 3)) (.op .ne (.cons (.bor 6) (.cons (.bor 4) .nil)))))
                (evX (fun i => fnL[i]?) (fun i => glbL[i]?) (callN (fun i => fnL[i]?) (fun i => glbL[i]?) cls (n + 3)) (.var 6)) (rangeD 0 (1 + (q : Int))) []
                [some (1, bx x2 y z2), some (0, .int 6), some (0, .int (1 + (q : Int))), some (1, .list fs), some (0, .int (k : Nat)), s5, none]
                = .ok (iD pl) [some (1, bx x2 y z2), some (0, .int 6), some (0, .int (1 + (q : Int))), some (1, .list fs), some (0, .int (k : Nat)), s5, none] := fun {s5} => by
              rw [comp_pure (fun d => !PyData.eqv d (.int (k : Nat))) (fun d => d) (rangeD 0 (1 + (q : Int))) [] fun d hd => ?_]
              · have e1 : (1 + (q : Int)) = ((1 + q : Nat) : Int) := by simp
                rw [e1, range_filter, ← hpl]
                simp
              · obtain ⟨i, hi⟩ := List.mem_iff_getElem?.mp hd
                obtain ⟨_, rfl⟩ := rget hi
                refine ⟨_, [some (1, bx x2 y z2), some (0, .int 6), some (0, .int (1 + (q : Int))), some (1, .list fs), some (0, .int (k : Nat)), s5, some (0, .int (i : Nat))], bind_v (by simp), ?_, fun _ => ⟨0, [some (1, bx x2 y z2), some (0, .int 6), some (0, .int (1 + (q : Int))), some (1, .list fs), some (0, .int (k : Nat)), s5, some (0, .int (i : Nat))], ?_, Nat.le_refl _, rfl⟩, fun _ => rfl⟩
                · unfold evX
                  simp [testR, ↓evFor, ↓evComp, ↓evComp2, run, startE, evS, ev, oneS, oneKD, R.bind, opR, itemsKD, itemKD, getS, semOp, sem1, sem2, sem3, sIx, ixAt, sGt, sLt, sLe, sAdd, sSub, sMul, sFdiv, sMod, sAbs, sInt, sLen, lowerItems, lowerS, truth, freshOp, free, maskO, ixPos, callR, argsFor, outsTo, slotsOf, freezeS, setS, ksD, iterOf, slotsP, sEq, okD_int]
                · unfold evX
                  simp [↓evFor, ↓evComp, ↓evComp2, run, startE, evS, ev, oneS, oneKD, R.bind, opR, itemsKD, itemKD, getS, semOp, sem1, sem2, sem3, sIx, ixAt, sGt, sLt, sLe, sAdd, sSub, sMul, sFdiv, sMod, sAbs, sInt, sLen, lowerItems, lowerS, truth, freshOp, free, maskO, ixPos, callR, argsFor, outsTo, slotsOf, freezeS, setS, ksD, iterOf, slotsP]
            obtain ⟨lot, x3, z3, t5, t6, t7, t8⟩ := mixed_ok (cls := cls) n (pool := iD pl) b2 (by simp; omega) (by simp; omega)
            obtain ⟨ms, rfl, hp⟩ := perm_iD t6
            have t8' : z3 ≤ z2 + 6 := by
              have : (iD pl).length ≤ 6 := by simpa using hpl6
              omega
            obtain ⟨r2, x4, z4, t9, ta, tb, tc, td⟩ := take_ok (cls := cls) (n + 2) (m := 3) t7 (by omega) (by omega) (by omega)
            obtain ⟨p, rfl⟩ := Int.eq_ofNat_of_zero_le ta
            have hcut : cutD (iD ms) none (some (1 + (p : Int))) = iD (ms.take (1 + p)) := by
              have e1 : ¬ (1 + (p : Int)) < 0 := by omega
              have e2 : (1 + (p : Int)).toNat = 1 + p := by omega
              unfold cutD clip
              simp only [e1, if_false, e2, List.length_map, List.drop_zero, Nat.sub_zero, ← List.map_take]
              congr 1
              rw [List.take_eq_take_iff]
              omega
            have hso : sSorted (iD (ms.take (1 + p))) = some (iD (isort (ms.take (1 + p)))) := by
              unfold sSorted
              rw [ints_map]
            have hso2 : sSorted (List.take (1 + p) (List.map PyData.int ms)) = some (iD (isort (ms.take (1 + p)))) := by
              rw [← List.map_take]
              exact hso
            refine ⟨_, [some (1, bx x4 y z4), some (0, .int 6), some (0, .int (1 + (q : Int))), some (1, .list (fs ++ [.tuple (iD (isort (ms.take (1 + p))))])), some (0, .int (k : Nat)), some (0, .list (iD pl)), none], bind_v (by simp), ?_, x4, z4, fs ++ [.tuple (iD (isort (ms.take (1 + p))))], some (0, .int (k : Nat)), some (0, .list (iD pl)), rfl, tc, by omega, by simp; omega, snoc_get e5 (.inr ⟨isort (ms.take (1 + p)), rfl, ?_, ?_, ?_⟩)⟩
            · unfold evB
              simp [f13, f19, ↓evFor, ↓evComp, ↓evComp2, run, startE, evS, ev, oneS, oneKD, R.bind, opR, itemsKD, itemKD, getS, semOp, sem1, sem2, sem3, sIx, ixAt, sGt, sLt, sLe, sAdd, sSub, sMul, sFdiv, sMod, sAbs, sInt, sLen, lowerItems, lowerS, truth, freshOp, free, maskO, ixPos, callR, argsFor, outsTo, slotsOf, freezeS, setS, ksD, iterOf, slotsP, sEq, okD_int, eqv_int, iterOf, ksD, ksD_map, slotsP, compR, condOf, wipeE, freezeAll, backE, lstOf, seqOf, sCut, cutOf, t1, hm, h1, h1', h2, hr, hcomp, t5, t9, hcut, hso2, maxLen]
            · intro h3
              have h4 := (isort_perm (ms.take (1 + p))).length_eq
              rw [h3, List.length_take, hp.length_eq] at h4
              have : 0 < pl.length := List.length_pos_iff.mpr hne
              simp at h4
              omega
            · exact lt_of_le_nodup (isort_sorted _) ((isort_perm _).nodup_iff.mpr ((hp.nodup_iff.mpr hnd).sublist (List.take_sublist _ _)))
            · intro a ha
              rw [e4]
              exact hmem a (hp.mem_iff.mp (List.mem_of_mem_take ((isort_perm _).mem_iff.mp ha)))
    rw [rl, Nat.zero_add] at key
    rw [← hF]
    exact key
  subst h1 h2
  refine ⟨fs, x', z', ?_, ⟨fun h => ?_, by omega, fun i d hd => ?_⟩, h3, by omega⟩
  · simp [↓evFor, ↓evComp, ↓evComp2, run, startE, evS, ev, oneS, oneKD, R.bind, opR, itemsKD, itemKD, getS, semOp, sem1, sem2, sem3, sIx, ixAt, sGt, sLt, sLe, sAdd, sSub, sMul, sFdiv, sMod, sAbs, sInt, sLen, lowerItems, lowerS, truth, freshOp, free, maskO, ixPos, callR, argsFor, outsTo, slotsOf, freezeS, setS, ksD, iterOf, slotsP, seqOf]
  · rw [h] at h5
    simp at h5
    omega
  · rw [h5]
    exact h6 i d hd
end PL.k01
end

section
set_option maxRecDepth 100000
namespace PL.k01
open PySem PL
variable {cls : Nat → Option ClsDef}
theorem bind_pair {i j : Nat} {a b : D} {env : Env} (hi : i < env.length) (hj : j < env.length) : bindPat (.cons (.v i) (.cons (.v j) .nil)) (.tuple [a, b]) env = some ((env.set i (some (0, a))).set j (some (0, b))) := by
  simp [bindPat, bindPats, seqOf, hi, hj]
theorem enum_get : ∀ {ds : List D} {k i : Nat} {d : D}, (enumD k ds)[i]? = some d → ∃ x, ds[i]? = some x ∧ d = .tuple [.int ((k + i : Nat) : Int), x]
  | [], _, _, _, h => by simp [enumD] at h
  | x :: ds, k, 0, d, h => ⟨x, rfl, by simp [enumD] at h; rw [← h]; simp⟩
  | x :: ds, k, i + 1, d, h => by
    obtain ⟨y, e1, e2⟩ := enum_get (ds := ds) (k := k + 1) (i := i) (by simpa [enumD] using h)
    refine ⟨y, by simpa using e1, ?_⟩
    rw [e2, show k + 1 + i = k + (i + 1) by omega]
theorem enum_len : ∀ (ds : List D) (k : Nat), (enumD k ds).length = ds.length
  | [], _ => rfl
  | _ :: ds, k => by simp [enumD, enum_len ds]
theorem iD_get {ns : List Int} {i : Nat} {d : D} (h : (iD ns)[i]? = some d) : ∃ a, ns[i]? = some a ∧ d = .int a := by
  rw [List.getElem?_map] at h
  obtain ⟨a, h1, h2⟩ := Option.map_eq_some_iff.mp h
  exact ⟨a, h1, h2.symm⟩
/-! ### _law_box -/
theorem box_ok (n K : Nat) {cs : List Int} {j : Nat} (hj : j < cs.length) (h2 : cs.length ≤ 2) (hb : ∀ c ∈ cs, c.natAbs < 2 ^ K) (hK : K < 10000000) (hK0 : 1 ≤ K) :
    ∃ x y, cN cls (n + 1) 12 [(0, .list (iD cs)), (0, .int j)] = .ok (1, bx x y 0) [none, none] ∧ Bx x y 0 := by
  obtain ⟨c, hc⟩ : ∃ c, cs[j]? = some c := ⟨cs[j], by simp [hj]⟩
  have hc1 := hb c (List.mem_of_getElem? hc)
  have q := fmod_nn (a := c) (b := 2305843009213693951) (by decide)
  have hlt : (j : Int) < (cs.length : Int) := by omega
  have p18 : (10 : Int) ^ 18 = 1000000000000000000 := by decide
  have habs : (if c < 0 then -c else c).natAbs < 2 ^ K := by split <;> omega
  have two : 1 < 2 ^ K := Nat.one_lt_two_pow (by omega)
  have m1 : mulOk (if c < 0 then -c else c) 1 = true := mulOk_lt (k := K) habs (by simpa using two) hK
  have m0 : mulOk (if c < 0 then -c else c) 0 = true := mulOk_lt (k := K) habs (by simp; omega) hK
  have m2 : mulOk 39373 (j : Int) = true := mulOk_lt (k := 100) (by decide) (by omega) (by decide)
  rw [callN_succ f12]
  by_cases h18 : (1000000000000000000 : Int) ≤ (if c < 0 then -c else c)
  · refine ⟨if c < 0 then -c else c, c.fmod 2305843009213693951 + 39373 * j + 1929001, ?_, ⟨by omega, by omega, by omega, by omega⟩⟩
    simp [b12, ↓evFor, ↓evComp, ↓evComp2, run, startE, evS, ev, oneS, oneKD, R.bind, opR, itemsKD, itemKD, getS, semOp, sem1, sem2, sem3, sIx, ixAt, sGt, sLt, sLe, sAdd, sSub, sMul, sFdiv, sMod, sAbs, sInt, sLen, lowerItems, lowerS, truth, freshOp, free, maskO, ixPos, callR, argsFor, outsTo, slotsOf, freezeS, setS, ksD, iterOf, slotsP, sPow, powOk, mkLst, valsKD, szOk, maxLen, hlt, hc, m1, m2, h18]
  · refine ⟨0, c.fmod 2305843009213693951 + 39373 * j + 1929001, ?_, ⟨by omega, by omega, by omega, by omega⟩⟩
    simp [b12, ↓evFor, ↓evComp, ↓evComp2, run, startE, evS, ev, oneS, oneKD, R.bind, opR, itemsKD, itemKD, getS, semOp, sem1, sem2, sem3, sIx, ixAt, sGt, sLt, sLe, sAdd, sSub, sMul, sFdiv, sMod, sAbs, sInt, sLen, lowerItems, lowerS, truth, freshOp, free, maskO, ixPos, callR, argsFor, outsTo, slotsOf, freezeS, setS, ksD, iterOf, slotsP, sPow, powOk, mkLst, valsKD, szOk, maxLen, hlt, hc, m0, m2, h18]
/-! ### _law_cells -/
theorem cells_ok (n K : Nat) {ns : List Int} (hl : ns.length ≤ 63) (hb : ∀ c ∈ ns, c.natAbs < 2 ^ K) (hK : K < 1000000 * 9) (hK0 : 8 ≤ K) :
    ∃ cs, cN cls (n + 1) 14 [(0, .list (iD ns)), (0, .int 2)] = .ok (1, .list (iD cs)) [none, none] ∧ cs ≠ [] ∧ cs.length ≤ 2 ∧ ∀ c ∈ cs, c.natAbs < 2 ^ (K + 13) := by
  obtain ⟨L0, hL0, hne, h2, hle⟩ : ∃ L0 : List Int, (if (ns.take 2).isEmpty then [0] else ns.take 2) = L0 ∧ L0 ≠ [] ∧ L0.length ≤ 2 ∧ ∀ c ∈ L0, c.natAbs < 2 ^ K := by
    refine ⟨_, rfl, ?_, ?_, ?_⟩
    · split
      · simp
      · rename_i h
        intro e
        rw [e] at h
        simp at h
    · split
      · simp
      · simp
        omega
    · intro c hc
      split at hc
      · simp at hc
        subst hc
        exact Nat.two_pow_pos K
      · exact hb c (List.mem_of_mem_take hc)
  have c1 : cutD (iD ns) none (some 2) = iD (ns.take 2) := by
    unfold cutD clip
    simp only [List.length_map, List.drop_zero, Nat.sub_zero, ← List.map_take]
    congr 1
    rw [List.take_eq_take_iff]
    simp
  have c2 : cutD (iD ns) (some 2) (some 63) = iD (ns.drop 2) := by
    unfold cutD clip
    simp only [List.length_map, ← List.map_take, ← List.map_drop]
    congr 1
    simp
    by_cases h : 2 ≤ ns.length
    · rw [Nat.min_eq_left h, List.take_of_length_le (by simp; omega)]
    · rw [Nat.min_eq_right (by omega), List.drop_eq_nil_of_le (by omega), List.drop_eq_nil_of_le (by omega)]
      simp
  rw [callN_succ f14]
  have hlen : (enumD 0 (iD (ns.drop 2))).length ≤ 61 := by
    rw [enum_len]
    simp
    omega
  have hbig : ∀ k : Nat, k ≤ 61 → ∀ c : Int, c.natAbs ≤ 2 ^ K * (1 + 70 * k) → c.natAbs < 2 ^ (K + 13) := fun k hk c hc => by
    rw [Nat.pow_add]
    have : 2 ^ K * (1 + 70 * k) < 2 ^ K * 2 ^ 13 := Nat.mul_lt_mul_of_pos_left (by omega) (Nat.two_pow_pos K)
    omega
  have key := for_inv (p := .cons (.v 3) (.cons (.v 4) .nil)) (body := evB (fun i => fnL[i]?) (fun i => glbL[i]?) (callN (fun i => fnL[i]?) (fun i => glbL[i]?) cls n) cls [0, 0] (.seq (.set 5 (.op .mod (.cons (.op .int (.cons (.bor 3) .nil)) (.cons (.bor 1) .nil))))   (.setix 2 (.var 5) (.op .add (.cons (.op .ix (.cons (.bor 2) (.cons (.bor 5) .nil))) (.cons (.op .mul (.cons (.bor 4) (.cons (.op .add (.cons (.bor 3) (.cons (.cst (.int 2)) .nil))) .nil))) .nil))))))
      (fun k e => ∃ (cs : List Int) (s3 s4 s5 : Option KD), e = [some (0, .list (iD ns)), some (0, .int 2), some (1, .list (iD cs)), s3, s4, s5] ∧ cs.length = L0.length ∧ ∀ c ∈ cs, c.natAbs ≤ 2 ^ K * (1 + 70 * k))
      (enumD 0 (iD (ns.drop 2))) 0 [some (0, .list (iD ns)), some (0, .int 2), some (1, .list (iD L0)), none, none, none] ⟨L0, none, none, none, rfl, rfl, fun c hc => by have := hle c hc; omega⟩ fun k d hk env hI => by
        obtain ⟨cs, s3, s4, s5, e1, e2, e3⟩ := hI
        have hk61 : k < 61 := Nat.lt_of_lt_of_le (List.getElem?_eq_some_iff.mp hk).1 hlen
        obtain ⟨dx, hx, rfl⟩ := enum_get hk
        obtain ⟨a, ha, rfl⟩ := iD_get hx
        subst e1
        have hns : 2 < ns.length := by
          have := (List.getElem?_eq_some_iff.mp ha).1
          simp at this
          omega
        have hL2 : L0.length = 2 := by
          rw [← hL0]
          have : (ns.take 2).isEmpty = false := by
            cases ns with
            | nil => simp at hns
            | cons x xs => rfl
          rw [this]
          simp
          omega
        have ha1 := hb a (List.mem_of_mem_drop (List.mem_of_getElem? ha))
        obtain ⟨c0, c1, rfl⟩ : ∃ c0 c1, cs = [c0, c1] := by
          match cs, e2.trans hL2 with
          | [c0, c1], _ => exact ⟨c0, c1, rfl⟩
        have hm : mulOk a ((k : Int) + 2) = true := mulOk_lt (k := K) ha1 (by
          have : 2 ^ 8 ≤ 2 ^ K := Nat.pow_le_pow_right (by decide) hK0
          omega) (by omega)
        have hmul : (a * ((k : Int) + 2)).natAbs ≤ 2 ^ K * 63 := by
          rw [Int.natAbs_mul]
          exact Nat.mul_le_mul (by omega) (by omega)
        have q := fmod_nn (a := (k : Int)) (b := 2) (by decide)
        have h0 := e3 c0 (by simp)
        have h1 := e3 c1 (by simp)
        have grow : ∀ c : Int, c.natAbs ≤ 2 ^ K * (1 + 70 * (0 + k : Nat)) → (c + a * ((k : Int) + 2)).natAbs ≤ 2 ^ K * (1 + 70 * (0 + k + 1 : Nat)) := fun c hc => by
          have e : 2 ^ K * (1 + 70 * (0 + k + 1)) = 2 ^ K * (1 + 70 * (0 + k)) + 2 ^ K * 70 := by rw [← Nat.mul_add]; congr 1
          omega
        have keep : ∀ c : Int, c.natAbs ≤ 2 ^ K * (1 + 70 * (0 + k : Nat)) → c.natAbs ≤ 2 ^ K * (1 + 70 * (0 + k + 1 : Nat)) := fun c hc => by
          have e : 2 ^ K * (1 + 70 * (0 + k + 1)) = 2 ^ K * (1 + 70 * (0 + k)) + 2 ^ K * 70 := by rw [← Nat.mul_add]; congr 1
          omega
        have hf : (k : Int).fmod 2 = 0 ∨ (k : Int).fmod 2 = 1 := by omega
        rcases hf with hf | hf
        · refine ⟨_, [some (0, .list (iD ns)), some (0, .int 2), some (1, .list (iD [c0 + a * ((k : Int) + 2), c1])), some (0, .int (k : Nat)), some (0, .int a), some (0, .int 0)], bind_pair (by simp) (by simp), ?_, _, _, _, _, rfl, e2, ?_⟩
          · unfold evB
            simp [↓evFor, ↓evComp, ↓evComp2, run, startE, evS, ev, oneS, oneKD, R.bind, opR, itemsKD, itemKD, getS, semOp, sem1, sem2, sem3, sIx, ixAt, sGt, sLt, sLe, sAdd, sSub, sMul, sFdiv, sMod, sAbs, sInt, sLen, lowerItems, lowerS, truth, freshOp, free, maskO, ixPos, callR, argsFor, outsTo, slotsOf, freezeS, setS, ksD, iterOf, slotsP, hf, hm]
          · intro c hc
            simp at hc
            rcases hc with e | e
            · rw [e]; exact grow c0 h0
            · rw [e]; exact keep c1 h1
        · refine ⟨_, [some (0, .list (iD ns)), some (0, .int 2), some (1, .list (iD [c0, c1 + a * ((k : Int) + 2)])), some (0, .int (k : Nat)), some (0, .int a), some (0, .int 1)], bind_pair (by simp) (by simp), ?_, _, _, _, _, rfl, e2, ?_⟩
          · unfold evB
            simp [↓evFor, ↓evComp, ↓evComp2, run, startE, evS, ev, oneS, oneKD, R.bind, opR, itemsKD, itemKD, getS, semOp, sem1, sem2, sem3, sIx, ixAt, sGt, sLt, sLe, sAdd, sSub, sMul, sFdiv, sMod, sAbs, sInt, sLen, lowerItems, lowerS, truth, freshOp, free, maskO, ixPos, callR, argsFor, outsTo, slotsOf, freezeS, setS, ksD, iterOf, slotsP, hf, hm]
          · intro c hc
            simp at hc
            rcases hc with e | e
            · rw [e]; exact keep c0 h0
            · rw [e]; exact grow c1 h1
  obtain ⟨e', h1, cs, s3, s4, s5, h3, h4, h5⟩ := key
  subst h3
  refine ⟨cs, ?_, fun h => hne (List.length_eq_zero_iff.mp (by rw [← h4, h]; rfl)), by omega, fun c hc => hbig _ (by omega) c (h5 c hc)⟩
  have hr : cN cls (n + 1) 14 [(0, .list (iD ns)), (0, .int 2)] = run (fun i => fnL[i]?) (fun i => glbL[i]?) cls (cN cls n) ⟨[0, 0], 6, b14⟩ [(0, .list (iD ns)), (0, .int 2)] := callN_succ f14
  by_cases he : ns = []
  · subst he
    have e : L0 = [0] := by rw [← hL0]; rfl
    subst e
    have c3 : cutD ([] : List D) none (some 2) = [] := rfl
    have c4 : cutD ([] : List D) (some 2) (some 63) = [] := rfl
    simp at h1
    simp [b14, ↓evFor, ↓evComp, ↓evComp2, run, startE, evS, ev, oneS, oneKD, R.bind, opR, itemsKD, itemKD, getS, semOp, sem1, sem2, sem3, sIx, ixAt, sGt, sLt, sLe, sAdd, sSub, sMul, sFdiv, sMod, sAbs, sInt, sLen, lowerItems, lowerS, truth, freshOp, free, maskO, ixPos, callR, argsFor, outsTo, slotsOf, freezeS, setS, ksD, iterOf, slotsP, mkLst, valsKD, szOk, maxLen, sCut, cutOf, seqOf, c3, c4, ksD_map, h1]
  · have e : L0 = ns.take 2 := by
      rw [← hL0]
      have : (ns.take 2).isEmpty = false := by
        cases ns with
        | nil => exact absurd rfl he
        | cons x xs => rfl
      rw [this]
      rfl
    subst e
    simp [b14, ↓evFor, ↓evComp, ↓evComp2, run, startE, evS, ev, oneS, oneKD, R.bind, opR, itemsKD, itemKD, getS, semOp, sem1, sem2, sem3, sIx, ixAt, sGt, sLt, sLe, sAdd, sSub, sMul, sFdiv, sMod, sAbs, sInt, sLen, lowerItems, lowerS, truth, freshOp, free, maskO, ixPos, callR, argsFor, outsTo, slotsOf, freezeS, setS, ksD, iterOf, slotsP, mkLst, valsKD, szOk, maxLen, sCut, cutOf, seqOf, c1, c2, ksD_map, h1, he, -List.map_take, -List.map_drop]
end PL.k01
end

section
set_option maxRecDepth 100000
namespace PL.k01
open PySem PL
variable {cls : Nat → Option ClsDef}
/-! ### _law_same -/
theorem all_true (k : Nat) : ∀ (vs : List D), (∀ v ∈ vs, v = .bool true) → sem1 .all (.list vs) = some (.bool true) := fun vs h => by
  have e : ∀ vs : List D, (∀ v ∈ vs, v = .bool true) → bools? vs = some (vs.map fun _ => true) := fun vs => by
    induction vs with
    | nil => intro _; rfl
    | cons v vs ih =>
      intro h
      rw [h v List.mem_cons_self]
      show (bools? vs).map (true :: ·) = _
      rw [ih fun w hw => h w (List.mem_cons_of_mem _ hw)]
      rfl
  show (some vs).bind (fun xs => (bools? xs).map fun bs => PyData.bool (bs.all id)) = _
  rw [Option.bind_some, e vs h]
  simp
theorem bools_c {α : Type} : ∀ l : List α, bools? (l.map fun _ => PyData.bool true) = some (l.map fun _ => true)
  | [] => rfl
  | _ :: l => by
    show (bools? (l.map fun _ => PyData.bool true)).map (true :: ·) = _
    rw [bools_c l]
    rfl
theorem okD_bool (b : Bool) : okD (.bool b) = true := rfl
def samD : Nat → D → Bool
  | 0, _ => false
  | n + 1, .list xs => xs.all (samD n)
  | n + 1, .tuple xs => xs.all (samD n)
  | n + 1, .dict _ => false
  | n + 1, d => okD d
theorem zip_self : ∀ xs : List D, zipD xs xs = xs.map fun x => .tuple [x, x]
  | [] => rfl
  | x :: xs => by simp [zipD, zip_self xs]
theorem same_comp {n : Nat} {xs : List D} {a b : D} (h : ∀ x ∈ xs, cN cls n 15 [(0, x), (0, x)] = .ok (0, .bool true) [none, none]) :
    compLoop 0 (.cons (.v 2) (.cons (.v 3) .nil)) none (evX (fun i => fnL[i]?) (fun i => glbL[i]?) (callN (fun i => fnL[i]?) (fun i => glbL[i]?) cls n) (.call 15 (.cons (.var 2) (.cons (.var 3) .nil)))) (zipD xs xs) [] [some (0, a), some (0, b), none, none] = .ok ((zipD xs xs).map fun _ => .bool true) [some (0, a), some (0, b), none, none] := by
  refine comp_map (fun _ => .bool true) _ fun d hd => ?_
  rw [zip_self] at hd
  obtain ⟨x, hx, rfl⟩ := List.mem_map.mp hd
  refine ⟨_, 0, [some (0, a), some (0, b), some (0, x), some (0, x)], bind_pair (by simp) (by simp), ?_, Nat.le_refl _, rfl⟩
  unfold evX
  simp [f15, ↓evFor, ↓evComp, ↓evComp2, run, startE, evS, ev, oneS, oneKD, R.bind, opR, itemsKD, itemKD, getS, semOp, sem1, sem2, sem3, sIx, ixAt, sGt, sLt, sLe, sAdd, sSub, sMul, sFdiv, sMod, sAbs, sInt, sLen, lowerItems, lowerS, truth, freshOp, free, maskO, ixPos, callR, argsFor, outsTo, slotsOf, freezeS, setS, ksD, iterOf, slotsP, h x hx]
theorem same_ok : ∀ (n : Nat) (d : D), samD n d = true → cN cls n 15 [(0, d), (0, d)] = .ok (0, .bool true) [none, none]
  | 0, d, h => by simp [samD] at h
  | n + 1, .list xs, h => by
    have h := List.all_eq_true.mp (show xs.all (samD n) = true from h)
    have hc := same_comp (cls := cls) (n := n) (xs := xs) (a := .list xs) (b := .list xs) fun x hx => same_ok n x (h x hx)
    rw [callN_succ f15]
    simp [b15, ↓evFor, ↓evComp, ↓evComp2, run, startE, evS, ev, oneS, oneKD, R.bind, opR, itemsKD, itemKD, getS, semOp, sem1, sem2, sem3, sIx, ixAt, sGt, sLt, sLe, sAdd, sSub, sMul, sFdiv, sMod, sAbs, sInt, sLen, lowerItems, lowerS, truth, freshOp, free, maskO, ixPos, callR, argsFor, outsTo, slotsOf, freezeS, setS, ksD, iterOf, slotsP, sEq, isTy, okD, PyData.eqv, PyData.canLay0, PyData.depth, compR, condOf, wipeE, freezeAll, backE, sZip, seqOf, isListD, ksD_map, lstOf, hc, bools_c]
  | n + 1, .tuple xs, h => by
    have h := List.all_eq_true.mp (show xs.all (samD n) = true from h)
    have hc := same_comp (cls := cls) (n := n) (xs := xs) (a := .tuple xs) (b := .tuple xs) fun x hx => same_ok n x (h x hx)
    rw [callN_succ f15]
    simp [b15, ↓evFor, ↓evComp, ↓evComp2, run, startE, evS, ev, oneS, oneKD, R.bind, opR, itemsKD, itemKD, getS, semOp, sem1, sem2, sem3, sIx, ixAt, sGt, sLt, sLe, sAdd, sSub, sMul, sFdiv, sMod, sAbs, sInt, sLen, lowerItems, lowerS, truth, freshOp, free, maskO, ixPos, callR, argsFor, outsTo, slotsOf, freezeS, setS, ksD, iterOf, slotsP, sEq, isTy, okD, PyData.eqv, PyData.canLay0, PyData.depth, compR, condOf, wipeE, freezeAll, backE, sZip, seqOf, isListD, ksD_map, lstOf, hc, bools_c]
  | n + 1, .dict _, h => by simp [samD] at h
  | n + 1, .none, h => by
    rw [callN_succ f15]
    simp [b15, ↓evFor, ↓evComp, ↓evComp2, run, startE, evS, ev, oneS, oneKD, R.bind, opR, itemsKD, itemKD, getS, semOp, sem1, sem2, sem3, sIx, ixAt, sGt, sLt, sLe, sAdd, sSub, sMul, sFdiv, sMod, sAbs, sInt, sLen, lowerItems, lowerS, truth, freshOp, free, maskO, ixPos, callR, argsFor, outsTo, slotsOf, freezeS, setS, ksD, iterOf, slotsP, sEq, isTy, okD, PyData.eqv, PyData.canLay0, PyData.depth, sIsN]
  | n + 1, .bool b, h => by
    rw [callN_succ f15]
    simp [b15, ↓evFor, ↓evComp, ↓evComp2, run, startE, evS, ev, oneS, oneKD, R.bind, opR, itemsKD, itemKD, getS, semOp, sem1, sem2, sem3, sIx, ixAt, sGt, sLt, sLe, sAdd, sSub, sMul, sFdiv, sMod, sAbs, sInt, sLen, lowerItems, lowerS, truth, freshOp, free, maskO, ixPos, callR, argsFor, outsTo, slotsOf, freezeS, setS, ksD, iterOf, slotsP, sEq, isTy, okD, PyData.eqv, PyData.canLay0, PyData.depth, sIsN]
  | n + 1, .int b, h => by
    rw [callN_succ f15]
    simp [b15, ↓evFor, ↓evComp, ↓evComp2, run, startE, evS, ev, oneS, oneKD, R.bind, opR, itemsKD, itemKD, getS, semOp, sem1, sem2, sem3, sIx, ixAt, sGt, sLt, sLe, sAdd, sSub, sMul, sFdiv, sMod, sAbs, sInt, sLen, lowerItems, lowerS, truth, freshOp, free, maskO, ixPos, callR, argsFor, outsTo, slotsOf, freezeS, setS, ksD, iterOf, slotsP, sEq, isTy, okD, PyData.eqv, PyData.canLay0, PyData.depth, sIsN]
  | n + 1, .str x, h => by
    have h : okD (.str x) = true := h
    rw [callN_succ f15]
    simp [b15, ↓evFor, ↓evComp, ↓evComp2, run, startE, evS, ev, oneS, oneKD, R.bind, opR, itemsKD, itemKD, getS, semOp, sem1, sem2, sem3, sIx, ixAt, sGt, sLt, sLe, sAdd, sSub, sMul, sFdiv, sMod, sAbs, sInt, sLen, lowerItems, lowerS, truth, freshOp, free, maskO, ixPos, callR, argsFor, outsTo, slotsOf, freezeS, setS, ksD, iterOf, slotsP, sEq, isTy, h, okD_int, okD_bool, PyData.eqv, sIsN]
/-! ### _law_lists -/
def softM : D → D
  | .tuple xs => .list xs
  | d => d
theorem lists_int (n : Nat) (i : Int) : cN cls (n + 1) 16 [(0, .int i)] = .ok (0, .int i) [none] := by
  rw [callN_succ f16]
  simp [b16, ↓evFor, ↓evComp, ↓evComp2, run, startE, evS, ev, oneS, oneKD, R.bind, opR, itemsKD, itemKD, getS, semOp, sem1, sem2, sem3, sIx, ixAt, sGt, sLt, sLe, sAdd, sSub, sMul, sFdiv, sMod, sAbs, sInt, sLen, lowerItems, lowerS, truth, freshOp, free, maskO, ixPos, callR, argsFor, outsTo, slotsOf, freezeS, setS, ksD, iterOf, slotsP, isTy]
theorem lists_row (n : Nat) (ns : List Int) : cN cls (n + 2) 16 [(0, .tuple (iD ns))] = .ok (1, .list (iD ns)) [none] := by
  have hc : compLoop 0 (.v 1) none (evX (fun i => fnL[i]?) (fun i => glbL[i]?) (callN (fun i => fnL[i]?) (fun i => glbL[i]?) cls (n + 1)) (.call 16 (.cons (.var 1) .nil))) (iD ns) [] [some (0, .tuple (iD ns)), none] = .ok ((iD ns).map fun d => d) [some (0, .tuple (iD ns)), none] := by
    refine comp_map (fun d => d) _ fun d hd => ?_
    obtain ⟨i, _, rfl⟩ := List.mem_map.mp hd
    refine ⟨_, 0, [some (0, .tuple (iD ns)), some (0, .int i)], bind_v (by simp), ?_, Nat.le_refl _, rfl⟩
    unfold evX
    simp [f16, ↓evFor, ↓evComp, ↓evComp2, run, startE, evS, ev, oneS, oneKD, R.bind, opR, itemsKD, itemKD, getS, semOp, sem1, sem2, sem3, sIx, ixAt, sGt, sLt, sLe, sAdd, sSub, sMul, sFdiv, sMod, sAbs, sInt, sLen, lowerItems, lowerS, truth, freshOp, free, maskO, ixPos, callR, argsFor, outsTo, slotsOf, freezeS, setS, ksD, iterOf, slotsP, lists_int]
  rw [callN_succ f16]
  rw [List.map_id'] at hc
  generalize iD ns = xs at hc ⊢
  simp [b16, ↓evFor, ↓evComp, ↓evComp2, run, startE, evS, ev, oneS, oneKD, R.bind, opR, itemsKD, itemKD, getS, semOp, sem1, sem2, sem3, sIx, ixAt, sGt, sLt, sLe, sAdd, sSub, sMul, sFdiv, sMod, sAbs, sInt, sLen, lowerItems, lowerS, truth, freshOp, free, maskO, ixPos, callR, argsFor, outsTo, slotsOf, freezeS, setS, ksD, iterOf, slotsP, isTy, compR, condOf, wipeE, freezeAll, backE, iterSeq, ksD_map, hc]
theorem lists_hall (n : Nat) {ds : List D} {N : Nat} (h : ∀ d ∈ ds, ∃ k, Mem N k d) : cN cls (n + 3) 16 [(0, .tuple ds)] = .ok (1, .list (ds.map softM)) [none] := by
  have hc : compLoop 0 (.v 1) none (evX (fun i => fnL[i]?) (fun i => glbL[i]?) (callN (fun i => fnL[i]?) (fun i => glbL[i]?) cls (n + 2)) (.call 16 (.cons (.var 1) .nil))) ds [] [some (0, .tuple ds), none] = .ok (ds.map softM) [some (0, .tuple ds), none] := by
    refine comp_map softM _ fun d hd => ?_
    obtain ⟨k, ⟨i, rfl⟩ | ⟨ns, rfl, _⟩⟩ := h d hd
    · refine ⟨_, 0, [some (0, .tuple ds), some (0, .int i)], bind_v (by simp), ?_, Nat.le_refl _, rfl⟩
      unfold evX
      simp [f16, ↓evFor, ↓evComp, ↓evComp2, run, startE, evS, ev, oneS, oneKD, R.bind, opR, itemsKD, itemKD, getS, semOp, sem1, sem2, sem3, sIx, ixAt, sGt, sLt, sLe, sAdd, sSub, sMul, sFdiv, sMod, sAbs, sInt, sLen, lowerItems, lowerS, truth, freshOp, free, maskO, ixPos, callR, argsFor, outsTo, slotsOf, freezeS, setS, ksD, iterOf, slotsP, lists_int, softM]
    · refine ⟨_, 1, [some (0, .tuple ds), some (0, .tuple (iD ns))], bind_v (by simp), ?_, by decide, rfl⟩
      unfold evX
      simp [f16, ↓evFor, ↓evComp, ↓evComp2, run, startE, evS, ev, oneS, oneKD, R.bind, opR, itemsKD, itemKD, getS, semOp, sem1, sem2, sem3, sIx, ixAt, sGt, sLt, sLe, sAdd, sSub, sMul, sFdiv, sMod, sAbs, sInt, sLen, lowerItems, lowerS, truth, freshOp, free, maskO, ixPos, callR, argsFor, outsTo, slotsOf, freezeS, setS, ksD, iterOf, slotsP, lists_row, softM]
  rw [callN_succ f16]
  simp [b16, ↓evFor, ↓evComp, ↓evComp2, run, startE, evS, ev, oneS, oneKD, R.bind, opR, itemsKD, itemKD, getS, semOp, sem1, sem2, sem3, sIx, ixAt, sGt, sLt, sLe, sAdd, sSub, sMul, sFdiv, sMod, sAbs, sInt, sLen, lowerItems, lowerS, truth, freshOp, free, maskO, ixPos, callR, argsFor, outsTo, slotsOf, freezeS, setS, ksD, iterOf, slotsP, isTy, compR, condOf, wipeE, freezeAll, backE, iterSeq, ksD_map, hc]
end PL.k01
end

section
set_option maxRecDepth 100000
namespace PL.k01
open PySem PL
variable {cls : Nat → Option ClsDef}
/-! ### numbers -/
def isNum : D → Bool
  | .int _ => true
  | _ => false
theorem num_ok (n : Nat) (d : D) : cN cls (n + 1) 0 [(0, d)] = .ok (0, .bool (isNum d)) [none] := by
  rw [callN_succ f0]
  cases d <;> simp [b0, ↓evFor, ↓evComp, ↓evComp2, run, startE, evS, ev, oneS, oneKD, R.bind, opR, itemsKD, itemKD, getS, semOp, sem1, sem2, sem3, sIx, ixAt, sGt, sLt, sLe, sAdd, sSub, sMul, sFdiv, sMod, sAbs, sInt, sLen, lowerItems, lowerS, truth, freshOp, free, maskO, ixPos, callR, argsFor, outsTo, slotsOf, freezeS, setS, ksD, iterOf, slotsP, isTy, isNum]
theorem whole_ok (n : Nat) (d : D) : cN cls (n + 1) 21 [(0, d)] = .ok (0, .bool (isNum d)) [none] := by
  rw [callN_succ f21]
  cases d <;> simp [b21, ↓evFor, ↓evComp, ↓evComp2, run, startE, evS, ev, oneS, oneKD, R.bind, opR, itemsKD, itemKD, getS, semOp, sem1, sem2, sem3, sIx, ixAt, sGt, sLt, sLe, sAdd, sSub, sMul, sFdiv, sMod, sAbs, sInt, sLen, lowerItems, lowerS, truth, freshOp, free, maskO, ixPos, callR, argsFor, outsTo, slotsOf, freezeS, setS, ksD, iterOf, slotsP, isTy, isNum]
def belowD (m : Int) : D → Bool
  | .int i => decide (0 ≤ i) && decide (i < m)
  | _ => false
theorem below_ok (n : Nat) (d : D) (m : Int) : cN cls (n + 2) 1 [(0, d), (0, .int m)] = .ok (0, .bool (belowD m d)) [none, none] := by
  rw [callN_succ f1]
  cases d with
  | int i =>
    by_cases h : 0 ≤ i
    · simp [b1, f0, ↓evFor, ↓evComp, ↓evComp2, run, startE, evS, ev, oneS, oneKD, R.bind, opR, itemsKD, itemKD, getS, semOp, sem1, sem2, sem3, sIx, ixAt, sGt, sLt, sLe, sAdd, sSub, sMul, sFdiv, sMod, sAbs, sInt, sLen, lowerItems, lowerS, truth, freshOp, free, maskO, ixPos, callR, argsFor, outsTo, slotsOf, freezeS, setS, ksD, iterOf, slotsP, num_ok, isNum, belowD, h]
    · simp [b1, f0, ↓evFor, ↓evComp, ↓evComp2, run, startE, evS, ev, oneS, oneKD, R.bind, opR, itemsKD, itemKD, getS, semOp, sem1, sem2, sem3, sIx, ixAt, sGt, sLt, sLe, sAdd, sSub, sMul, sFdiv, sMod, sAbs, sInt, sLen, lowerItems, lowerS, truth, freshOp, free, maskO, ixPos, callR, argsFor, outsTo, slotsOf, freezeS, setS, ksD, iterOf, slotsP, num_ok, isNum, belowD, h]
  | _ => simp [b1, f0, ↓evFor, ↓evComp, ↓evComp2, run, startE, evS, ev, oneS, oneKD, R.bind, opR, itemsKD, itemKD, getS, semOp, sem1, sem2, sem3, sIx, ixAt, sGt, sLt, sLe, sAdd, sSub, sMul, sFdiv, sMod, sAbs, sInt, sLen, lowerItems, lowerS, truth, freshOp, free, maskO, ixPos, callR, argsFor, outsTo, slotsOf, freezeS, setS, ksD, iterOf, slotsP, num_ok, isNum, belowD]
theorem asker_ok (n : Nat) (d : D) : cN cls (n + 1) 3 [(0, d)] = .ok (0, .bool (isTy .list d || isTy .tuple d)) [none] := by
  rw [callN_succ f3]
  simp [b3, ↓evFor, ↓evComp, ↓evComp2, run, startE, evS, ev, oneS, oneKD, R.bind, opR, itemsKD, itemKD, getS, semOp, sem1, sem2, sem3, sIx, ixAt, sGt, sLt, sLe, sAdd, sSub, sMul, sFdiv, sMod, sAbs, sInt, sLen, lowerItems, lowerS, truth, freshOp, free, maskO, ixPos, callR, argsFor, outsTo, slotsOf, freezeS, setS, ksD, iterOf, slotsP]
/-! ### rising rows -/
def incr : List Int → Bool
  | a :: b :: r => decide (a < b) && incr (b :: r)
  | _ => true
theorem bools_map {α : Type} (f : α → Bool) : ∀ l : List α, bools? (l.map fun x => PyData.bool (f x)) = some (l.map f)
  | [] => rfl
  | x :: l => by
    show (bools? (l.map fun x => PyData.bool (f x))).map (f x :: ·) = _
    rw [bools_map f l]
    rfl
def ltP : D → Bool
  | .tuple [.int a, .int b] => decide (a < b)
  | _ => false
theorem zip_mem : ∀ {xs ys : List Int} {d : D}, d ∈ zipD (iD xs) (iD ys) → ∃ a b, a ∈ xs ∧ b ∈ ys ∧ d = .tuple [.int a, .int b]
  | [], _, d, h => by simp [zipD] at h
  | x :: xs, [], d, h => by simp [zipD] at h
  | x :: xs, y :: ys, d, h => by
    rcases List.mem_cons.mp (show d ∈ PyData.tuple [.int x, .int y] :: zipD (iD xs) (iD ys) from h) with e | h
    · exact ⟨x, y, List.mem_cons_self, List.mem_cons_self, e⟩
    · obtain ⟨a, b, h1, h2, h3⟩ := zip_mem h
      exact ⟨a, b, List.mem_cons_of_mem _ h1, List.mem_cons_of_mem _ h2, h3⟩
theorem incr_zip : ∀ ns : List Int, ((zipD (iD ns) (iD ns.tail)).map ltP).all id = incr ns
  | [] => rfl
  | [a] => rfl
  | a :: b :: r => by
    have ih := incr_zip (b :: r)
    show (ltP (.tuple [.int a, .int b]) && ((zipD (iD (b :: r)) (iD r)).map ltP).all id) = (decide (a < b) && incr (b :: r))
    rw [← ih]
    rfl
theorem cut1 (ns : List Int) : cutD (iD ns) (some 1) none = iD ns.tail := by
  unfold cutD clip
  simp only [List.length_map, ← List.map_take, ← List.map_drop]
  congr 1
  cases ns with
  | nil => rfl
  | cons a r => simp
theorem rises_ok (n : Nat) (ns : List Int) : cN cls (n + 1) 2 [(0, .tuple (iD ns))] = .ok (0, .bool (incr ns)) [none] := by
  have hc : compLoop 0 (.cons (.v 1) (.cons (.v 2) .nil)) none (evX (fun i => fnL[i]?) (fun i => glbL[i]?) (callN (fun i => fnL[i]?) (fun i => glbL[i]?) cls n) (.op .lt (.cons (.bor 1) (.cons (.bor 2) .nil)))) (zipD (iD ns) (iD ns.tail)) [] [some (0, .tuple (iD ns)), none, none] = .ok ((zipD (iD ns) (iD ns.tail)).map fun d => .bool (ltP d)) [some (0, .tuple (iD ns)), none, none] := by
    refine comp_map _ _ fun d hd => ?_
    obtain ⟨a, b, _, _, rfl⟩ := zip_mem hd
    refine ⟨_, 0, [some (0, .tuple (iD ns)), some (0, .int a), some (0, .int b)], bind_pair (by simp) (by simp), ?_, Nat.le_refl _, rfl⟩
    unfold evX
    simp [↓evFor, ↓evComp, ↓evComp2, run, startE, evS, ev, oneS, oneKD, R.bind, opR, itemsKD, itemKD, getS, semOp, sem1, sem2, sem3, sIx, ixAt, sGt, sLt, sLe, sAdd, sSub, sMul, sFdiv, sMod, sAbs, sInt, sLen, lowerItems, lowerS, truth, freshOp, free, maskO, ixPos, callR, argsFor, outsTo, slotsOf, freezeS, setS, ksD, iterOf, slotsP, ltP]
  have hz := incr_zip ns
  have h1 := cut1 ns
  generalize iD ns = xs at hc hz h1 ⊢
  generalize iD ns.tail = ys at hc hz h1
  rw [callN_succ f2]
  simp [b2, ↓evFor, ↓evComp, ↓evComp2, run, startE, evS, ev, oneS, oneKD, R.bind, opR, itemsKD, itemKD, getS, semOp, sem1, sem2, sem3, sIx, ixAt, sGt, sLt, sLe, sAdd, sSub, sMul, sFdiv, sMod, sAbs, sInt, sLen, lowerItems, lowerS, truth, freshOp, free, maskO, ixPos, callR, argsFor, outsTo, slotsOf, freezeS, setS, ksD, iterOf, slotsP, isTy, compR, condOf, wipeE, freezeAll, backE, sZip, seqOf, isListD, sCut, cutOf, h1, ksD_map, lstOf, hc, bools_map, hz]
end PL.k01
end

section
set_option maxRecDepth 100000
namespace PL.k01
open PySem PL
variable {cls : Nat → Option ClsDef}
/-! ### is_council -/
def memB (m k : Nat) : D → Bool
  | .tuple xs => !xs.isEmpty && (xs.all (belowD m) && (incr (xs.filterMap intQ) && !inD (.int (k : Nat)) xs))
  | d => isNum d
def allK (T : Nat → D → Bool) : Nat → List D → Bool
  | _, [] => true
  | k, d :: ds => T k d && allK T (k + 1) ds
theorem allK_iff {T : Nat → D → Bool} : ∀ {ds : List D} {k : Nat}, allK T k ds = true ↔ ∀ i d, ds[i]? = some d → T (k + i) d = true
  | [], k => by simp [allK]
  | d :: ds, k => by
    simp only [allK, Bool.and_eq_true, allK_iff (ds := ds) (k := k + 1)]
    constructor
    · rintro ⟨h1, h2⟩ i e he
      cases i with
      | zero => cases he; exact h1
      | succ i =>
        have := h2 i e (by simpa using he)
        rwa [show k + 1 + i = k + (i + 1) by omega] at this
    · intro h
      refine ⟨h 0 d rfl, fun i e he => ?_⟩
      have := h (i + 1) e (by simpa using he)
      rwa [show k + (i + 1) = k + 1 + i by omega] at this
def hallB (ds : List D) : Bool := !ds.isEmpty && allK (memB ds.length) 0 ds
theorem below_int {m : Int} {d : D} (h : belowD m d = true) : ∃ i, d = .int i ∧ 0 ≤ i ∧ i < m := by
  cases d with
  | int i =>
    simp [belowD] at h
    exact ⟨i, rfl, h.1, h.2⟩
  | _ => simp [belowD] at h
theorem all_below {m : Int} {xs : List D} (h : xs.all (belowD m) = true) : xs = iD (xs.filterMap intQ) := all_iD fun d hd => by
  obtain ⟨i, e, _⟩ := below_int (List.all_eq_true.mp h d hd)
  exact ⟨i, e⟩
theorem okAll_iD (ns : List Int) : (iD ns).all okD = true := List.all_eq_true.mpr fun d hd => by
  obtain ⟨i, _, rfl⟩ := List.mem_map.mp hd
  rfl
theorem comp_below (n : Nat) {ds xs : List D} {s1 s2 : Option KD} : compLoop 0 (.v 3) none (evX (fun i => fnL[i]?) (fun i => glbL[i]?) (callN (fun i => fnL[i]?) (fun i => glbL[i]?) cls (n + 2)) (.call 1 (.cons (.var 3) (.cons (.op .len (.cons (.bor 0) .nil)) .nil)))) xs [] [some (0, .tuple ds), s1, s2, none] = .ok (xs.map fun d => .bool (belowD ds.length d)) [some (0, .tuple ds), s1, s2, none] := by
  refine comp_map (fun d => .bool (belowD ds.length d)) _ fun d hd => ?_
  refine ⟨_, 0, [some (0, .tuple ds), s1, s2, some (0, d)], bind_v (by simp), ?_, Nat.le_refl _, rfl⟩
  unfold evX
  simp [f1, ↓evFor, ↓evComp, ↓evComp2, run, startE, evS, ev, oneS, oneKD, R.bind, opR, itemsKD, itemKD, getS, semOp, sem1, sem2, sem3, sIx, ixAt, sGt, sLt, sLe, sAdd, sSub, sMul, sFdiv, sMod, sAbs, sInt, sLen, lowerItems, lowerS, truth, freshOp, free, maskO, ixPos, callR, argsFor, outsTo, slotsOf, freezeS, setS, ksD, iterOf, slotsP, below_ok]
theorem council_step (n : Nat) (ds : List D) (k : Nat) (d : D) :
    (memB ds.length k d = true → ∃ env2, evB (fun i => fnL[i]?) (fun i => glbL[i]?) (callN (fun i => fnL[i]?) (fun i => glbL[i]?) cls (n + 2)) cls [0] (.ite (.op (.isi [.tuple]) (.cons (.bor 2) .nil))  (.seq (.ite (.or (.op .eq (.cons (.op .len (.cons (.bor 2) .nil)) (.cons (.cst (.int 0)) .nil))) (.op .not (.cons (.op .all (.cons (.comp 0 (.call 1 (.cons (.var 3) (.cons (.op .len (.cons (.bor 0) .nil)) .nil))) (.v 3) (.iter .seq (.cons (.var 2) .nil)) .nil) .nil)) .nil)))  (.ret (.cst (.bool false)))  .skip)   (.ite (.or (.op .not (.cons (.call 2 (.cons (.var 2) .nil)) .nil)) (.op .isin (.cons (.bor 1) (.cons (.bor 2) .nil))))  (.ret (.cst (.bool false)))  .skip))  (.ite (.op .not (.cons (.call 0 (.cons (.var 2) .nil)) .nil))  (.ret (.cst (.bool false)))  .skip)) [some (0, .tuple ds), some (0, .int (k : Nat)), some (0, d), none] = .ok .nx env2 ∧ ∃ s1 s2, env2 = [some (0, .tuple ds), s1, s2, none]) ∧
    (memB ds.length k d = false → ∃ env2, evB (fun i => fnL[i]?) (fun i => glbL[i]?) (callN (fun i => fnL[i]?) (fun i => glbL[i]?) cls (n + 2)) cls [0] (.ite (.op (.isi [.tuple]) (.cons (.bor 2) .nil))  (.seq (.ite (.or (.op .eq (.cons (.op .len (.cons (.bor 2) .nil)) (.cons (.cst (.int 0)) .nil))) (.op .not (.cons (.op .all (.cons (.comp 0 (.call 1 (.cons (.var 3) (.cons (.op .len (.cons (.bor 0) .nil)) .nil))) (.v 3) (.iter .seq (.cons (.var 2) .nil)) .nil) .nil)) .nil)))  (.ret (.cst (.bool false)))  .skip)   (.ite (.or (.op .not (.cons (.call 2 (.cons (.var 2) .nil)) .nil)) (.op .isin (.cons (.bor 1) (.cons (.bor 2) .nil))))  (.ret (.cst (.bool false)))  .skip))  (.ite (.op .not (.cons (.call 0 (.cons (.var 2) .nil)) .nil))  (.ret (.cst (.bool false)))  .skip)) [some (0, .tuple ds), some (0, .int (k : Nat)), some (0, d), none] = .ok (.rt (0, .bool false)) env2) := by
  unfold evB
  cases d with
  | tuple xs =>
    by_cases he : xs = []
    · subst he
      simp [↓evFor, ↓evComp, ↓evComp2, run, startE, evS, ev, oneS, oneKD, R.bind, opR, itemsKD, itemKD, getS, semOp, sem1, sem2, sem3, sIx, ixAt, sGt, sLt, sLe, sAdd, sSub, sMul, sFdiv, sMod, sAbs, sInt, sLen, lowerItems, lowerS, truth, freshOp, free, maskO, ixPos, callR, argsFor, outsTo, slotsOf, freezeS, setS, ksD, iterOf, slotsP, isTy, sEq, okD_int, eqv_int, memB]
    · by_cases ha : xs.all (belowD ds.length) = true
      · have e := all_below ha
        obtain ⟨ns, hns⟩ : ∃ ns, xs.filterMap intQ = ns := ⟨_, rfl⟩
        rw [hns] at e
        have hr := rises_ok (cls := cls) (n + 1) ns
        rw [← e] at hr
        have hok : xs.all okD = true := by rw [e]; exact okAll_iD ns
        cases hi : incr ns with
        | false =>
          rw [hi] at hr
          simp [↓evFor, ↓evComp, ↓evComp2, run, startE, evS, ev, oneS, oneKD, R.bind, opR, itemsKD, itemKD, getS, semOp, sem1, sem2, sem3, sIx, ixAt, sGt, sLt, sLe, sAdd, sSub, sMul, sFdiv, sMod, sAbs, sInt, sLen, lowerItems, lowerS, truth, freshOp, free, maskO, ixPos, callR, argsFor, outsTo, slotsOf, freezeS, setS, ksD, iterOf, slotsP, isTy, sEq, okD_int, eqv_int, memB, he, compR, condOf, wipeE, freezeAll, backE, iterSeq, ksD_map, lstOf, comp_below, bools_map, f2, hr, hns, hi, ha, -List.all_eq_true]
        | true =>
          rw [hi] at hr
          cases hin : inD (.int (k : Nat)) xs <;>
          simp [↓evFor, ↓evComp, ↓evComp2, run, startE, evS, ev, oneS, oneKD, R.bind, opR, itemsKD, itemKD, getS, semOp, sem1, sem2, sem3, sIx, ixAt, sGt, sLt, sLe, sAdd, sSub, sMul, sFdiv, sMod, sAbs, sInt, sLen, lowerItems, lowerS, truth, freshOp, free, maskO, ixPos, callR, argsFor, outsTo, slotsOf, freezeS, setS, ksD, iterOf, slotsP, isTy, sEq, okD_int, eqv_int, memB, he, compR, condOf, wipeE, freezeAll, backE, iterSeq, ksD_map, lstOf, comp_below, bools_map, f2, hr, hns, hi, ha, sIn, hok, hin, -List.all_eq_true]
      · simp only [Bool.not_eq_true] at ha
        simp [↓evFor, ↓evComp, ↓evComp2, run, startE, evS, ev, oneS, oneKD, R.bind, opR, itemsKD, itemKD, getS, semOp, sem1, sem2, sem3, sIx, ixAt, sGt, sLt, sLe, sAdd, sSub, sMul, sFdiv, sMod, sAbs, sInt, sLen, lowerItems, lowerS, truth, freshOp, free, maskO, ixPos, callR, argsFor, outsTo, slotsOf, freezeS, setS, ksD, iterOf, slotsP, isTy, sEq, okD_int, eqv_int, memB, he, compR, condOf, wipeE, freezeAll, backE, iterSeq, ksD_map, lstOf, comp_below, bools_map, ha, -List.all_eq_true, -List.all_eq_false]
  | int i => simp [↓evFor, ↓evComp, ↓evComp2, run, startE, evS, ev, oneS, oneKD, R.bind, opR, itemsKD, itemKD, getS, semOp, sem1, sem2, sem3, sIx, ixAt, sGt, sLt, sLe, sAdd, sSub, sMul, sFdiv, sMod, sAbs, sInt, sLen, lowerItems, lowerS, truth, freshOp, free, maskO, ixPos, callR, argsFor, outsTo, slotsOf, freezeS, setS, ksD, iterOf, slotsP, isTy, memB, f0, num_ok, isNum]
  | _ => simp [↓evFor, ↓evComp, ↓evComp2, run, startE, evS, ev, oneS, oneKD, R.bind, opR, itemsKD, itemKD, getS, semOp, sem1, sem2, sem3, sIx, ixAt, sGt, sLt, sLe, sAdd, sSub, sMul, sFdiv, sMod, sAbs, sInt, sLen, lowerItems, lowerS, truth, freshOp, free, maskO, ixPos, callR, argsFor, outsTo, slotsOf, freezeS, setS, ksD, iterOf, slotsP, isTy, memB, f0, num_ok, isNum]
def sndE (T : Nat → D → Bool) (k : Nat) : D → Bool
  | .tuple [_, x] => T k x
  | _ => true
theorem enum_conv {T : Nat → D → Bool} {ds : List D} : (∀ k d, (enumD 0 ds)[k]? = some d → sndE T (0 + k) d = true) ↔ allK T 0 ds = true := by
  rw [allK_iff]
  constructor
  · intro h i d hd
    obtain ⟨e, he⟩ : ∃ e, (enumD 0 ds)[i]? = some e := ⟨(enumD 0 ds)[i]'(by rw [enum_len]; exact (List.getElem?_eq_some_iff.mp hd).1), by simp⟩
    obtain ⟨x, hx, rfl⟩ := enum_get he
    rw [hd] at hx
    cases hx
    exact h i _ he
  · intro h k d hk
    obtain ⟨x, hx, rfl⟩ := enum_get hk
    exact h k x hx
theorem mask0 (e : Env) : maskO [0] e = [none] := by cases e <;> rfl
theorem mask00 : ∀ e : Env, maskO [0, 0] e = [none, none]
  | [] => rfl
  | [_] => rfl
  | _ :: _ :: _ => rfl
theorem council_ok (n : Nat) (ds : List D) : cN cls (n + 3) 4 [(0, .tuple ds)] = .ok (0, .bool (hallB ds)) [none] := by
  have key := for_all (p := .cons (.v 1) (.cons (.v 2) .nil)) (kd := (0, .bool false)) (body := evB (fun i => fnL[i]?) (fun i => glbL[i]?) (callN (fun i => fnL[i]?) (fun i => glbL[i]?) cls (n + 2)) cls [0] (.ite (.op (.isi [.tuple]) (.cons (.bor 2) .nil))  (.seq (.ite (.or (.op .eq (.cons (.op .len (.cons (.bor 2) .nil)) (.cons (.cst (.int 0)) .nil))) (.op .not (.cons (.op .all (.cons (.comp 0 (.call 1 (.cons (.var 3) (.cons (.op .len (.cons (.bor 0) .nil)) .nil))) (.v 3) (.iter .seq (.cons (.var 2) .nil)) .nil) .nil)) .nil)))  (.ret (.cst (.bool false)))  .skip)   (.ite (.or (.op .not (.cons (.call 2 (.cons (.var 2) .nil)) .nil)) (.op .isin (.cons (.bor 1) (.cons (.bor 2) .nil))))  (.ret (.cst (.bool false)))  .skip))  (.ite (.op .not (.cons (.call 0 (.cons (.var 2) .nil)) .nil))  (.ret (.cst (.bool false)))  .skip)))
    (fun e => ∃ s1 s2, e = [some (0, .tuple ds), s1, s2, none]) (sndE (memB ds.length)) (enumD 0 ds) 0 [some (0, .tuple ds), none, none, none] ⟨none, none, rfl⟩ fun k d hk env hI => by
        obtain ⟨s1, s2, rfl⟩ := hI
        obtain ⟨x, hx, rfl⟩ := enum_get hk
        simp only [Nat.zero_add]
        exact ⟨_, bind_pair (by simp) (by simp), (council_step n ds k x).1, (council_step n ds k x).2⟩
  rw [callN_succ f4]
  by_cases he : ds = []
  · subst he
    simp [b4, ↓evFor, ↓evComp, ↓evComp2, run, startE, evS, ev, oneS, oneKD, R.bind, opR, itemsKD, itemKD, getS, semOp, sem1, sem2, sem3, sIx, ixAt, sGt, sLt, sLe, sAdd, sSub, sMul, sFdiv, sMod, sAbs, sInt, sLen, lowerItems, lowerS, truth, freshOp, free, maskO, ixPos, callR, argsFor, outsTo, slotsOf, freezeS, setS, ksD, iterOf, slotsP, isTy, sEq, okD_int, eqv_int, hallB]
  · rcases key with ⟨h1, e', h2, s1, s2, rfl⟩ | ⟨⟨k, d, h1, h2⟩, e', h3⟩
    · have hT := enum_conv.mp h1
      simp [b4, ↓evFor, ↓evComp, ↓evComp2, run, startE, evS, ev, oneS, oneKD, R.bind, opR, itemsKD, itemKD, getS, semOp, sem1, sem2, sem3, sIx, ixAt, sGt, sLt, sLe, sAdd, sSub, sMul, sFdiv, sMod, sAbs, sInt, sLen, lowerItems, lowerS, truth, freshOp, free, maskO, ixPos, callR, argsFor, outsTo, slotsOf, freezeS, setS, ksD, iterOf, slotsP, isTy, sEq, okD_int, eqv_int, hallB, he, hT, h2, ksD_map, seqOf]
    · have hF : allK (memB ds.length) 0 ds = false := by
        cases hq : allK (memB ds.length) 0 ds with
        | false => rfl
        | true => rw [(enum_conv.mpr hq) k d h1] at h2; cases h2
      simp [b4, ↓evFor, ↓evComp, ↓evComp2, run, startE, evS, ev, oneS, oneKD, R.bind, opR, itemsKD, itemKD, getS, semOp, sem1, sem2, sem3, sIx, ixAt, sGt, sLt, sLe, sAdd, sSub, sMul, sFdiv, sMod, sAbs, sInt, sLen, lowerItems, lowerS, truth, freshOp, free, maskO, ixPos, callR, argsFor, outsTo, slotsOf, freezeS, setS, ksD, iterOf, slotsP, isTy, sEq, okD_int, eqv_int, hallB, he, hF, h3, ksD_map, seqOf, mask0]
theorem council_no (n : Nat) (d : D) (h : isTy .tuple d = false) : cN cls (n + 3) 4 [(0, d)] = .ok (0, .bool false) [none] := by
  rw [callN_succ f4]
  cases d <;> first | (simp [isTy] at h; done) | simp [b4, ↓evFor, ↓evComp, ↓evComp2, run, startE, evS, ev, oneS, oneKD, R.bind, opR, itemsKD, itemKD, getS, semOp, sem1, sem2, sem3, sIx, ixAt, sGt, sLt, sLe, sAdd, sSub, sMul, sFdiv, sMod, sAbs, sInt, sLen, lowerItems, lowerS, truth, freshOp, free, maskO, ixPos, callR, argsFor, outsTo, slotsOf, freezeS, setS, ksD, iterOf, slotsP, isTy]
end PL.k01
end

section
set_option maxRecDepth 100000
namespace PL.k01
open PySem PL
variable {cls : Nat → Option ClsDef}
/-! ### rows in order -/
theorem incr_cons {a : Int} {r : List Int} : incr (a :: r) = true ↔ (∀ b, r.head? = some b → a < b) ∧ incr r = true := by
  cases r with
  | nil => simp [incr]
  | cons b r => simp [incr]
theorem incr_lt : ∀ {r : List Int} {a : Int}, incr (a :: r) = true → ∀ b ∈ r, a < b
  | [], _, _, b, hb => by cases hb
  | c :: r, a, h, b, hb => by
    obtain ⟨h1, h2⟩ := incr_cons.mp h
    have hc := h1 c rfl
    rcases List.mem_cons.mp hb with e | hb
    · omega
    · have := incr_lt h2 b hb
      omega
theorem incr_pw : ∀ {ns : List Int}, ns.Pairwise (· < ·) → incr ns = true
  | [], _ => rfl
  | a :: r, h => by
    obtain ⟨h1, h2⟩ := List.pairwise_cons.mp h
    exact incr_cons.mpr ⟨fun b hb => h1 b (List.mem_of_mem_head? hb), incr_pw h2⟩
theorem insU_head {x : Int} : ∀ {ys : List Int} {b : Int}, (insU x ys).head? = some b → (b = x ∨ ys.head? = some b) ∧ b ≤ x
  | [], b, h => by
    simp [insU] at h
    omega
  | y :: ys, b, h => by
    unfold insU at h
    split at h
    · simp at h
      subst h
      exact ⟨.inr rfl, by omega⟩
    · split at h
      · simp at h
        subst h
        exact ⟨.inr rfl, by omega⟩
      · simp at h
        omega
theorem insU_incr (x : Int) : ∀ ys : List Int, incr ys = true → incr (insU x ys) = true
  | [], _ => rfl
  | y :: ys, h => by
    obtain ⟨h1, h2⟩ := incr_cons.mp h
    unfold insU
    split
    · refine incr_cons.mpr ⟨fun b hb => ?_, insU_incr x ys h2⟩
      rcases (insU_head hb).1 with e | e
      · omega
      · exact h1 b e
    · split
      · exact h
      · refine incr_cons.mpr ⟨fun b hb => ?_, h⟩
        simp at hb
        omega
theorem usort_incr : ∀ ns : List Int, incr (usort ns) = true
  | [] => rfl
  | n :: ns => insU_incr n _ (usort_incr ns)
theorem usort_self : ∀ {ns : List Int}, incr ns = true → usort ns = ns
  | [], _ => rfl
  | n :: ns, h => by
    obtain ⟨h1, h2⟩ := incr_cons.mp h
    show insU n (usort ns) = n :: ns
    rw [usort_self h2]
    cases ns with
    | nil => rfl
    | cons b r =>
      have := h1 b rfl
      unfold insU
      rw [if_neg (by omega), if_neg (by omega)]
theorem usort_eq (ns : List Int) : decide (usort ns = ns) = incr ns := by
  cases h : incr ns with
  | true => exact decide_eq_true (usort_self h)
  | false =>
    refine decide_eq_false fun e => ?_
    have := usort_incr ns
    rw [e, h] at this
    cases this
theorem insU_len (x : Int) : ∀ ys : List Int, (insU x ys).length ≤ ys.length + 1
  | [] => Nat.le_refl _
  | y :: ys => by
    have := insU_len x ys
    unfold insU
    split
    · simp; omega
    · split <;> simp
theorem usort_len : ∀ ns : List Int, (usort ns).length ≤ ns.length
  | [] => Nat.le_refl _
  | n :: ns => by
    have h1 := insU_len n (usort ns)
    have h2 := usort_len ns
    show (insU n (usort ns)).length ≤ ns.length + 1
    omega
theorem sUsort_iD {ns : List Int} (h : ns.length < 64) : sUsort (iD ns) = some (iD (usort ns)) := by
  unfold sUsort
  rw [ints_map]
  have h1 := usort_len ns
  have e1 : decide (ns.length ≤ 4000) = true := decide_eq_true (by omega)
  have e2 : decide ((usort ns).length < 64) = true := decide_eq_true (by omega)
  show (if decide (ns.length ≤ 4000) && decide ((usort ns).length < 64) then _ else _) = _
  rw [e1, e2]
  rfl
theorem last_le : ∀ {r : List Int} {a : Int}, incr (a :: r) = true → ∀ b ∈ a :: r, b ≤ (a :: r).getLast (by simp)
  | [], a, _, b, hb => by
    simp at hb
    simp
    omega
  | c :: r, a, h, b, hb => by
    obtain ⟨h1, h2⟩ := incr_cons.mp h
    have hc := h1 c rfl
    rw [List.getLast_cons (by simp)]
    rcases List.mem_cons.mp hb with e | hb
    · have := last_le h2 c List.mem_cons_self
      omega
    · exact last_le h2 b hb
theorem eqvAll_iD : ∀ a b : List Int, PyData.eqvAll (iD a) (iD b) = decide (a = b)
  | [], [] => rfl
  | [], _ :: _ => rfl
  | _ :: _, [] => rfl
  | x :: xs, y :: ys => by
    have ih := eqvAll_iD xs ys
    show (PyData.eqv (.int x) (.int y) && PyData.eqvAll (iD xs) (iD ys)) = _
    rw [ih, eqv_int]
    by_cases h1 : x = y <;> by_cases h2 : xs = ys <;> simp [h1, h2]
theorem canLay_iff : ∀ xs : List D, PyData.canLayAll0 xs = true ↔ ∀ d ∈ xs, d.canLay0 = true
  | [] => by simp [PyData.canLayAll0]
  | x :: xs => by simp [PyData.canLayAll0, canLay_iff xs]
theorem depth_le : ∀ {xs : List D} {k : Nat}, PyData.depthAll xs ≤ k ↔ ∀ d ∈ xs, d.depth ≤ k
  | [], k => by simp [PyData.depthAll]
  | x :: xs, k => by
    have := depth_le (xs := xs) (k := k)
    simp only [PyData.depthAll, List.mem_cons, forall_eq_or_imp, ← this]
    omega
theorem okD_sub {xs ys : List D} (h : okD (.tuple xs) = true) (hs : ∀ d ∈ ys, d ∈ xs) : okD (.list ys) = true ∧ okD (.tuple ys) = true := by
  unfold okD at h ⊢
  simp only [Bool.and_eq_true, decide_eq_true_eq] at h ⊢
  simp only [PyData.canLay0, PyData.depth] at h ⊢
  obtain ⟨h1, h2⟩ := h
  have a := canLay_iff xs
  have e1 := (canLay_iff ys).mpr fun d hd => (a.mp h1) d (hs d hd)
  have hd1 : PyData.depthAll xs ≤ 63 := by omega
  have e2 : PyData.depthAll ys ≤ 63 := depth_le.mpr fun d hd => depth_le.mp hd1 d (hs d hd)
  exact ⟨⟨e1, by omega⟩, e1, by omega⟩
theorem okD_mem {xs : List D} {d : D} (h : okD (.tuple xs) = true) (hd : d ∈ xs) : okD d = true := by
  unfold okD at h ⊢
  simp only [Bool.and_eq_true, decide_eq_true_eq] at h ⊢
  simp only [PyData.canLay0, PyData.depth] at h ⊢
  have := depth_le.mp (show PyData.depthAll xs ≤ 63 by omega) d hd
  exact ⟨(canLay_iff xs).mp h.1 d hd, by omega⟩
theorem okD_iD (ns : List Int) : okD (.tuple (iD ns)) = true ∧ okD (.list (iD ns)) = true := by
  have h : okD (.tuple (iD ns)) = true := by
    unfold okD
    simp only [Bool.and_eq_true, decide_eq_true_eq]
    simp only [PyData.canLay0, PyData.depth]
    refine ⟨(canLay_iff _).mpr fun d hd => ?_, ?_⟩
    · obtain ⟨i, _, rfl⟩ := List.mem_map.mp hd
      rfl
    · have : PyData.depthAll (iD ns) ≤ 63 := depth_le.mpr fun d hd => by
        obtain ⟨i, _, rfl⟩ := List.mem_map.mp hd
        simp [PyData.depth]
      omega
  exact ⟨h, (okD_sub h fun d hd => hd).1⟩
end PL.k01
end

section
set_option maxRecDepth 100000
namespace PL.k01
open PySem PL
variable {cls : Nat → Option ClsDef}
/-! ### _law_is_hall -/
theorem isNum_all : ∀ {xs : List D}, (xs.filter fun d => !isNum d) = [] → xs = iD (xs.filterMap intQ) := fun {xs} h => all_iD fun d hd => by
  have := List.filter_eq_nil_iff.mp h d hd
  cases d <;> simp [isNum] at this
  exact ⟨_, rfl⟩
theorem memB_row {m k : Nat} {a : Int} {r : List Int} : memB m k (.tuple (iD (a :: r))) = (incr (a :: r) && (!inD (.int (k : Nat)) (iD (a :: r)) && (!decide (a < 0) && !decide ((m : Int) ≤ (a :: r).getLast (by simp))))) := by
  have e1 : memB m k (.tuple (iD (a :: r))) = ((iD (a :: r)).all (belowD m) && (incr (a :: r) && !inD (.int (k : Nat)) (iD (a :: r)))) := by
    show (!(iD (a :: r)).isEmpty && ((iD (a :: r)).all (belowD m) && (incr ((iD (a :: r)).filterMap intQ) && !inD (.int (k : Nat)) (iD (a :: r))))) = _
    rw [fm_iD]
    rfl
  rw [e1]
  cases hi : incr (a :: r) with
  | false => simp
  | true =>
    have hb : (iD (a :: r)).all (belowD m) = (!decide (a < 0) && !decide ((m : Int) ≤ (a :: r).getLast (by simp))) := by
      have hl := last_le hi
      have hm : (a :: r).getLast (by simp) ∈ a :: r := List.getLast_mem _
      generalize hg : (a :: r).getLast (by simp) = g at hl hm ⊢
      rw [Bool.eq_iff_iff]
      simp only [List.all_eq_true, Bool.and_eq_true, Bool.not_eq_true', decide_eq_false_iff_not]
      constructor
      · intro h
        have h1 := h (.int a) (List.mem_map.mpr ⟨a, List.mem_cons_self, rfl⟩)
        have h2 := h (.int g) (List.mem_map.mpr ⟨g, hm, rfl⟩)
        simp [belowD] at h1 h2
        omega
      · rintro ⟨h1, h2⟩ d hd
        obtain ⟨b, hb, rfl⟩ := List.mem_map.mp hd
        have h3 := hl b hb
        have h4 : a ≤ b := by
          rcases List.mem_cons.mp hb with e | hb
          · omega
          · have := incr_lt hi b hb
            omega
        simp [belowD]
        omega
    rw [hb]
    cases inD (.int (k : Nat)) (iD (a :: r)) <;> cases decide (a < 0) <;> cases decide ((m : Int) ≤ (a :: r).getLast (by simp)) <;> rfl
theorem comp_bits (n : Nat) {ds xs : List D} {s1 s2 : Option KD} : compLoop 0 (.v 3) (some (evX (fun i => fnL[i]?) (fun i => glbL[i]?) (callN (fun i => fnL[i]?) (fun i => glbL[i]?) cls (n + 1)) (.op .not (.cons (.call 21 (.cons (.var 3) .nil)) .nil)))) (evX (fun i => fnL[i]?) (fun i => glbL[i]?) (callN (fun i => fnL[i]?) (fun i => glbL[i]?) cls (n + 1)) (.var 3)) xs [] [some (0, .tuple ds), s1, s2, none] = .ok (xs.filter fun d => !isNum d) [some (0, .tuple ds), s1, s2, none] := by
  rw [comp_pure (fun d => !isNum d) (fun d => d) xs [] fun d hd => ?_]
  · simp
  · refine ⟨_, [some (0, .tuple ds), s1, s2, some (0, d)], bind_v (by simp), ?_, fun _ => ⟨0, [some (0, .tuple ds), s1, s2, some (0, d)], ?_, Nat.le_refl _, rfl⟩, fun _ => rfl⟩
    · unfold evX
      simp [testR, f21, ↓evFor, ↓evComp, ↓evComp2, run, startE, evS, ev, oneS, oneKD, R.bind, opR, itemsKD, itemKD, getS, semOp, sem1, sem2, sem3, sIx, ixAt, sGt, sLt, sLe, sAdd, sSub, sMul, sFdiv, sMod, sAbs, sInt, sLen, lowerItems, lowerS, truth, freshOp, free, maskO, ixPos, callR, argsFor, outsTo, slotsOf, freezeS, setS, ksD, iterOf, slotsP, whole_ok]
    · unfold evX
      simp [↓evFor, ↓evComp, ↓evComp2, run, startE, evS, ev, oneS, oneKD, R.bind, opR, itemsKD, itemKD, getS, semOp, sem1, sem2, sem3, sIx, ixAt, sGt, sLt, sLe, sAdd, sSub, sMul, sFdiv, sMod, sAbs, sInt, sLen, lowerItems, lowerS, truth, freshOp, free, maskO, ixPos, callR, argsFor, outsTo, slotsOf, freezeS, setS, ksD, iterOf, slotsP]
theorem ix_neg1 {α : Type} {xs : List α} (h : xs ≠ []) : ixAt xs (-1) = some (xs.getLast h) := by
  have hp : 0 < xs.length := List.length_pos_iff.mpr h
  unfold ixAt
  rw [if_neg (by decide), if_pos (by omega)]
  have e : (-1 + (xs.length : Int)).toNat = xs.length - 1 := by omega
  rw [e, List.getLast_eq_getElem, List.getElem?_eq_getElem]
theorem hall_step (n : Nat) (ds : List D) (k : Nat) (d : D) (hd : okD d = true) (hz : ∀ xs, d = .tuple xs → xs.length < 64) :
    (memB ds.length k d = true → ∃ env2, evB (fun i => fnL[i]?) (fun i => glbL[i]?) (callN (fun i => fnL[i]?) (fun i => glbL[i]?) cls (n + 1)) cls [0] (.ite (.op .not (.cons (.op (.isi [.tuple]) (.cons (.bor 2) .nil)) .nil))  (.ite (.op .not (.cons (.call 21 (.cons (.var 2) .nil)) .nil))  (.ret (.cst (.bool false)))  .skip)  (.ite (.or (.op .eq (.cons (.bor 2) (.cons (.tup .nil) .nil))) (.op .ne (.cons (.comp 0 (.var 3) (.v 3) (.iter .seq (.cons (.var 2) .nil)) (.op .not (.cons (.call 21 (.cons (.var 3) .nil)) .nil))) (.cons (.lst 0 .nil) .nil))))  (.ret (.cst (.bool false)))  (.ite (.or (.op .ne (.cons (.op .sortedSet (.cons (.bor 2) .nil)) (.cons (.op .list (.cons (.bor 2) .nil)) .nil))) (.or (.op .isin (.cons (.bor 1) (.cons (.bor 2) .nil))) (.or (.op .lt (.cons (.op .ix (.cons (.bor 2) (.cons (.cst (.int 0)) .nil))) (.cons (.cst (.int 0)) .nil))) (.op .ge (.cons (.op .ix (.cons (.bor 2) (.cons (.op .neg (.cons (.cst (.int 1)) .nil)) .nil))) (.cons (.op .len (.cons (.bor 0) .nil)) .nil))))))  (.ret (.cst (.bool false)))  .skip))) [some (0, .tuple ds), some (0, .int (k : Nat)), some (0, d), none] = .ok .nx env2 ∧ ∃ s1 s2, env2 = [some (0, .tuple ds), s1, s2, none]) ∧
    (memB ds.length k d = false → ∃ env2, evB (fun i => fnL[i]?) (fun i => glbL[i]?) (callN (fun i => fnL[i]?) (fun i => glbL[i]?) cls (n + 1)) cls [0] (.ite (.op .not (.cons (.op (.isi [.tuple]) (.cons (.bor 2) .nil)) .nil))  (.ite (.op .not (.cons (.call 21 (.cons (.var 2) .nil)) .nil))  (.ret (.cst (.bool false)))  .skip)  (.ite (.or (.op .eq (.cons (.bor 2) (.cons (.tup .nil) .nil))) (.op .ne (.cons (.comp 0 (.var 3) (.v 3) (.iter .seq (.cons (.var 2) .nil)) (.op .not (.cons (.call 21 (.cons (.var 3) .nil)) .nil))) (.cons (.lst 0 .nil) .nil))))  (.ret (.cst (.bool false)))  (.ite (.or (.op .ne (.cons (.op .sortedSet (.cons (.bor 2) .nil)) (.cons (.op .list (.cons (.bor 2) .nil)) .nil))) (.or (.op .isin (.cons (.bor 1) (.cons (.bor 2) .nil))) (.or (.op .lt (.cons (.op .ix (.cons (.bor 2) (.cons (.cst (.int 0)) .nil))) (.cons (.cst (.int 0)) .nil))) (.op .ge (.cons (.op .ix (.cons (.bor 2) (.cons (.op .neg (.cons (.cst (.int 1)) .nil)) .nil))) (.cons (.op .len (.cons (.bor 0) .nil)) .nil))))))  (.ret (.cst (.bool false)))  .skip))) [some (0, .tuple ds), some (0, .int (k : Nat)), some (0, d), none] = .ok (.rt (0, .bool false)) env2) := by
  unfold evB
  have ok0 : okD (.tuple []) = true := rfl
  have ok1 : okD (.list []) = true := rfl
  cases d with
  | tuple xs =>
    have hz := hz xs rfl
    have ev1 : ∀ ys : List D, PyData.eqv (.tuple ys) (.tuple []) = ys.isEmpty := fun ys => by cases ys <;> simp [PyData.eqv, PyData.eqvAll]
    have ev2 : ∀ ys : List D, PyData.eqv (.list ys) (.list []) = ys.isEmpty := fun ys => by cases ys <;> simp [PyData.eqv, PyData.eqvAll]
    by_cases he : xs = []
    · subst he
      simp [↓evFor, ↓evComp, ↓evComp2, run, startE, evS, ev, oneS, oneKD, R.bind, opR, itemsKD, itemKD, getS, semOp, sem1, sem2, sem3, sIx, sGt, sLt, sLe, sAdd, sSub, sMul, sFdiv, sMod, sAbs, sInt, sLen, lowerItems, lowerS, truth, freshOp, free, maskO, ixPos, callR, argsFor, outsTo, slotsOf, freezeS, setS, ksD, iterOf, slotsP, isTy, sEq, ok0, ev1, mkTup, valsKD, szOk, maxLen, memB]
    · have okf := (okD_sub hd (ys := xs.filter fun d => !isNum d) fun d hd => (List.mem_filter.mp hd).1).1
      by_cases hf : (xs.filter fun d => !isNum d) = []
      · have e := isNum_all hf
        obtain ⟨ns, hns⟩ : ∃ ns, xs.filterMap intQ = ns := ⟨_, rfl⟩
        rw [hns] at e
        have hl : ns.length < 64 := by
          have := congrArg List.length e
          simp at this
          omega
        have hu := sUsort_iD hl
        rw [← e] at hu
        obtain ⟨a, r, rfl⟩ : ∃ a r, ns = a :: r := by
          cases ns with
          | nil => exact absurd e he
          | cons a r => exact ⟨a, r, rfl⟩
        have hm := memB_row (m := ds.length) (k := k) (a := a) (r := r)
        rw [← e] at hm
        have i0 : ixAt xs 0 = some (.int a) := by rw [e]; rfl
        have i1 : ixAt xs (-1) = some (.int ((a :: r).getLast (by simp))) := by
          rw [ix_neg1 he]
          congr 1
          subst e
          show (List.map PyData.int (a :: r)).getLast _ = _
          rw [List.getLast_map]
        have o1 := (okD_iD (usort (a :: r))).2
        have o2 : okD (.list xs) = true := by rw [e]; exact (okD_iD _).2
        have o3 : xs.all okD = true := by rw [e]; exact okAll_iD _
        have q1 : PyData.eqv (.list (iD (usort (a :: r)))) (.list xs) = incr (a :: r) := by
          rw [e, ← usort_eq]
          exact eqvAll_iD _ _
        generalize hg : (a :: r).getLast (by simp) = g at hm i1
        generalize iD (usort (a :: r)) = us at hu o1 q1
        generalize incr (a :: r) = c1 at hm q1
        rw [hm]
        generalize hin : inD (.int (k : Nat)) xs = c2
        cases c1 with
        | false => simp [↓evFor, ↓evComp, ↓evComp2, run, startE, evS, ev, oneS, oneKD, R.bind, opR, itemsKD, itemKD, getS, semOp, sem1, sem2, sem3, sIx, sGt, sLt, sLe, sAdd, sSub, sMul, sFdiv, sMod, sAbs, sInt, sLen, lowerItems, lowerS, truth, freshOp, free, maskO, ixPos, callR, argsFor, outsTo, slotsOf, freezeS, setS, ksD, iterOf, slotsP, isTy, sEq, ok0, ok1, ev1, ev2, hd, okf, mkTup, valsKD, szOk, maxLen, mkLst, he, compR, condOf, wipeE, freezeAll, backE, iterSeq, seqOf, ksD_map, comp_bits, hf, hu, o1, o2, q1]
        | true => cases c2 with
          | true => simp [↓evFor, ↓evComp, ↓evComp2, run, startE, evS, ev, oneS, oneKD, R.bind, opR, itemsKD, itemKD, getS, semOp, sem1, sem2, sem3, sIx, sGt, sLt, sLe, sAdd, sSub, sMul, sFdiv, sMod, sAbs, sInt, sLen, lowerItems, lowerS, truth, freshOp, free, maskO, ixPos, callR, argsFor, outsTo, slotsOf, freezeS, setS, ksD, iterOf, slotsP, isTy, sEq, ok0, ok1, ev1, ev2, hd, okf, mkTup, valsKD, szOk, maxLen, mkLst, he, compR, condOf, wipeE, freezeAll, backE, iterSeq, seqOf, ksD_map, comp_bits, hf, hu, o1, o2, q1, sIn, o3, okD_int, hin, -List.all_eq_true]
          | false =>
            by_cases h0 : a < 0
            · simp [↓evFor, ↓evComp, ↓evComp2, run, startE, evS, ev, oneS, oneKD, R.bind, opR, itemsKD, itemKD, getS, semOp, sem1, sem2, sem3, sIx, sGt, sLt, sLe, sAdd, sSub, sMul, sFdiv, sMod, sAbs, sInt, sLen, lowerItems, lowerS, truth, freshOp, free, maskO, ixPos, callR, argsFor, outsTo, slotsOf, freezeS, setS, ksD, iterOf, slotsP, isTy, sEq, ok0, ok1, ev1, ev2, hd, okf, mkTup, valsKD, szOk, maxLen, mkLst, he, compR, condOf, wipeE, freezeAll, backE, iterSeq, seqOf, ksD_map, comp_bits, hf, hu, o1, o2, q1, sIn, o3, okD_int, hin, i0, h0, -List.all_eq_true]
            · by_cases h1 : (ds.length : Int) ≤ g <;>
              simp [↓evFor, ↓evComp, ↓evComp2, run, startE, evS, ev, oneS, oneKD, R.bind, opR, itemsKD, itemKD, getS, semOp, sem1, sem2, sem3, sIx, sGt, sLt, sLe, sAdd, sSub, sMul, sFdiv, sMod, sAbs, sInt, sLen, lowerItems, lowerS, truth, freshOp, free, maskO, ixPos, callR, argsFor, outsTo, slotsOf, freezeS, setS, ksD, iterOf, slotsP, isTy, sEq, ok0, ok1, ev1, ev2, hd, okf, mkTup, valsKD, szOk, maxLen, mkLst, he, compR, condOf, wipeE, freezeAll, backE, iterSeq, seqOf, ksD_map, comp_bits, hf, hu, o1, o2, q1, sIn, sNeg, o3, okD_int, hin, i0, i1, h0, h1, -List.all_eq_true]
      · have hm : memB ds.length k (.tuple xs) = false := by
          cases q : memB ds.length k (.tuple xs) with
          | false => rfl
          | true =>
            exfalso
            simp only [memB, Bool.and_eq_true] at q
            apply hf
            refine List.filter_eq_nil_iff.mpr fun d hd => ?_
            obtain ⟨i, rfl, _⟩ := below_int (List.all_eq_true.mp q.2.1 d hd)
            simp [isNum]
        rw [hm]
        have hfe : (xs.filter fun d => !isNum d).isEmpty = false := by
          cases q : xs.filter fun d => !isNum d with
          | nil => exact absurd q hf
          | cons => rfl
        have hq : PyData.eqv (.list (xs.filter fun d => !isNum d)) (.list []) = false := by rw [ev2, hfe]
        simp [↓evFor, ↓evComp, ↓evComp2, run, startE, evS, ev, oneS, oneKD, R.bind, opR, itemsKD, itemKD, getS, semOp, sem1, sem2, sem3, sIx, sGt, sLt, sLe, sAdd, sSub, sMul, sFdiv, sMod, sAbs, sInt, sLen, lowerItems, lowerS, truth, freshOp, free, maskO, ixPos, callR, argsFor, outsTo, slotsOf, freezeS, setS, ksD, iterOf, slotsP, isTy, sEq, ok0, ok1, ev1, hd, okf, mkTup, valsKD, szOk, maxLen, mkLst, he, compR, condOf, wipeE, freezeAll, backE, iterSeq, seqOf, ksD_map, comp_bits, hq]
  | int i => simp [↓evFor, ↓evComp, ↓evComp2, run, startE, evS, ev, oneS, oneKD, R.bind, opR, itemsKD, itemKD, getS, semOp, sem1, sem2, sem3, sIx, sGt, sLt, sLe, sAdd, sSub, sMul, sFdiv, sMod, sAbs, sInt, sLen, lowerItems, lowerS, truth, freshOp, free, maskO, ixPos, callR, argsFor, outsTo, slotsOf, freezeS, setS, ksD, iterOf, slotsP, isTy, memB, f21, whole_ok, isNum]
  | _ => simp [↓evFor, ↓evComp, ↓evComp2, run, startE, evS, ev, oneS, oneKD, R.bind, opR, itemsKD, itemKD, getS, semOp, sem1, sem2, sem3, sIx, sGt, sLt, sLe, sAdd, sSub, sMul, sFdiv, sMod, sAbs, sInt, sLen, lowerItems, lowerS, truth, freshOp, free, maskO, ixPos, callR, argsFor, outsTo, slotsOf, freezeS, setS, ksD, iterOf, slotsP, isTy, memB, f21, whole_ok, isNum]
end PL.k01
end

section
set_option maxRecDepth 100000
namespace PL.k01
open PySem PL
variable {cls : Nat → Option ClsDef}
theorem ishall_ok (n : Nat) (ds : List D) (hok : okD (.tuple ds) = true) (hz : ∀ d ∈ ds, ∀ xs, d = .tuple xs → xs.length < 64) : cN cls (n + 2) 22 [(0, .tuple ds)] = .ok (0, .bool (hallB ds)) [none] := by
  have key := for_all (p := .cons (.v 1) (.cons (.v 2) .nil)) (kd := (0, .bool false)) (body := evB (fun i => fnL[i]?) (fun i => glbL[i]?) (callN (fun i => fnL[i]?) (fun i => glbL[i]?) cls (n + 1)) cls [0] (.ite (.op .not (.cons (.op (.isi [.tuple]) (.cons (.bor 2) .nil)) .nil))  (.ite (.op .not (.cons (.call 21 (.cons (.var 2) .nil)) .nil))  (.ret (.cst (.bool false)))  .skip)  (.ite (.or (.op .eq (.cons (.bor 2) (.cons (.tup .nil) .nil))) (.op .ne (.cons (.comp 0 (.var 3) (.v 3) (.iter .seq (.cons (.var 2) .nil)) (.op .not (.cons (.call 21 (.cons (.var 3) .nil)) .nil))) (.cons (.lst 0 .nil) .nil))))  (.ret (.cst (.bool false)))  (.ite (.or (.op .ne (.cons (.op .sortedSet (.cons (.bor 2) .nil)) (.cons (.op .list (.cons (.bor 2) .nil)) .nil))) (.or (.op .isin (.cons (.bor 1) (.cons (.bor 2) .nil))) (.or (.op .lt (.cons (.op .ix (.cons (.bor 2) (.cons (.cst (.int 0)) .nil))) (.cons (.cst (.int 0)) .nil))) (.op .ge (.cons (.op .ix (.cons (.bor 2) (.cons (.op .neg (.cons (.cst (.int 1)) .nil)) .nil))) (.cons (.op .len (.cons (.bor 0) .nil)) .nil))))))  (.ret (.cst (.bool false)))  .skip))))
    (fun e => ∃ s1 s2, e = [some (0, .tuple ds), s1, s2, none]) (sndE (memB ds.length)) (enumD 0 ds) 0 [some (0, .tuple ds), none, none, none] ⟨none, none, rfl⟩ fun k d hk env hI => by
        obtain ⟨s1, s2, rfl⟩ := hI
        obtain ⟨x, hx, rfl⟩ := enum_get hk
        simp only [Nat.zero_add]
        have hm := List.mem_of_getElem? hx
        have q := hall_step (cls := cls) n ds k x (okD_mem hok hm) (hz x hm)
        exact ⟨_, bind_pair (by simp) (by simp), q.1, q.2⟩
  have ok0 : okD (.tuple []) = true := rfl
  have ev1 : ∀ ys : List D, PyData.eqv (.tuple ys) (.tuple []) = ys.isEmpty := fun ys => by cases ys <;> simp [PyData.eqv, PyData.eqvAll]
  rw [callN_succ f22]
  by_cases he : ds = []
  · subst he
    simp [b22, ↓evFor, ↓evComp, ↓evComp2, run, startE, evS, ev, oneS, oneKD, R.bind, opR, itemsKD, itemKD, getS, semOp, sem1, sem2, sem3, sIx, ixAt, sGt, sLt, sLe, sAdd, sSub, sMul, sFdiv, sMod, sAbs, sInt, sLen, lowerItems, lowerS, truth, freshOp, free, maskO, ixPos, callR, argsFor, outsTo, slotsOf, freezeS, setS, ksD, iterOf, slotsP, isTy, sEq, ok0, ev1, mkTup, valsKD, szOk, maxLen, hallB]
  · rcases key with ⟨h1, e', h2, s1, s2, rfl⟩ | ⟨⟨k, d, h1, h2⟩, e', h3⟩
    · have hT := enum_conv.mp h1
      simp [b22, ↓evFor, ↓evComp, ↓evComp2, run, startE, evS, ev, oneS, oneKD, R.bind, opR, itemsKD, itemKD, getS, semOp, sem1, sem2, sem3, sIx, ixAt, sGt, sLt, sLe, sAdd, sSub, sMul, sFdiv, sMod, sAbs, sInt, sLen, lowerItems, lowerS, truth, freshOp, free, maskO, ixPos, callR, argsFor, outsTo, slotsOf, freezeS, setS, ksD, iterOf, slotsP, isTy, sEq, ok0, ev1, hok, mkTup, valsKD, szOk, maxLen, hallB, he, hT, h2, ksD_map, seqOf]
    · have hF : allK (memB ds.length) 0 ds = false := by
        cases hq : allK (memB ds.length) 0 ds with
        | false => rfl
        | true => rw [(enum_conv.mpr hq) k d h1] at h2; cases h2
      simp [b22, ↓evFor, ↓evComp, ↓evComp2, run, startE, evS, ev, oneS, oneKD, R.bind, opR, itemsKD, itemKD, getS, semOp, sem1, sem2, sem3, sIx, ixAt, sGt, sLt, sLe, sAdd, sSub, sMul, sFdiv, sMod, sAbs, sInt, sLen, lowerItems, lowerS, truth, freshOp, free, maskO, ixPos, callR, argsFor, outsTo, slotsOf, freezeS, setS, ksD, iterOf, slotsP, isTy, sEq, ok0, ev1, hok, mkTup, valsKD, szOk, maxLen, hallB, he, hF, h3, ksD_map, seqOf, mask0]
theorem ishall_no (n : Nat) (d : D) (h : isTy .tuple d = false) : cN cls (n + 2) 22 [(0, d)] = .ok (0, .bool false) [none] := by
  rw [callN_succ f22]
  cases d <;> first | (simp [isTy] at h; done) | simp [b22, ↓evFor, ↓evComp, ↓evComp2, run, startE, evS, ev, oneS, oneKD, R.bind, opR, itemsKD, itemKD, getS, semOp, sem1, sem2, sem3, sIx, ixAt, sGt, sLt, sLe, sAdd, sSub, sMul, sFdiv, sMod, sAbs, sInt, sLen, lowerItems, lowerS, truth, freshOp, free, maskO, ixPos, callR, argsFor, outsTo, slotsOf, freezeS, setS, ksD, iterOf, slotsP, isTy]
/-- program and law read a council alike -/
def hallQ : D → Bool
  | .tuple ds => hallB ds
  | _ => false
def Fit (d : D) : Prop := okD d = true ∧ ∀ ds, d = .tuple ds → ∀ e ∈ ds, ∀ xs, e = .tuple xs → xs.length < 64
theorem council_q (n : Nat) (d : D) : cN cls (n + 3) 4 [(0, d)] = .ok (0, .bool (hallQ d)) [none] := by
  cases d with
  | tuple ds => exact council_ok n ds
  | _ => exact council_no n _ rfl
theorem ishall_q (n : Nat) (d : D) (h : Fit d) : cN cls (n + 2) 22 [(0, d)] = .ok (0, .bool (hallQ d)) [none] := by
  cases d with
  | tuple ds => exact ishall_ok n ds h.1 (h.2 ds rfl)
  | _ => exact ishall_no n _ rfl
/-! ### a hall and its soft twin -/
/-- the council as the program may take it: hard or soft -/
def twin (soft : Bool) (ds : List D) : D := if soft then .list (ds.map softM) else .tuple ds
def rowsOf (soft : Bool) (ds : List D) : List D := if soft then ds.map softM else ds
def isRow : D → Bool
  | .tuple _ => true
  | _ => false
/-- the ints of a row -/
def rowI : D → List Int
  | .tuple xs => xs.filterMap intQ
  | _ => []
theorem asker_hard {N k : Nat} {d : D} (h : Mem N k d) : (isTy .list d || isTy .tuple d) = isRow d ∧ (isTy .list (softM d) || isTy .tuple (softM d)) = isRow d := by
  rcases h with ⟨i, rfl⟩ | ⟨ns, rfl, _⟩ <;> exact ⟨rfl, rfl⟩
theorem iterTwin (b : Bool) (ds : List D) : seqOf (twin b ds) = some (rowsOf b ds) := by cases b <;> rfl
/-- the places from k where P stands -/
def ixs (P : D → Bool) : Nat → List D → List Int
  | _, [] => []
  | k, d :: ds => if P d then (k : Int) :: ixs P (k + 1) ds else ixs P (k + 1) ds
def askI (ds : List D) : List Int := ixs isRow 0 ds
def firmI (ds : List D) : List Int := ixs (fun d => !isRow d) 0 ds
theorem ixs_range (P : D → Bool) : ∀ (ds : List D) (k : Nat), ((List.range ds.length).filter fun j => P (ds.getD j .none)).map (fun j : Nat => ((k + j : Nat) : Int)) = ixs P k ds
  | [], _ => rfl
  | d :: ds, k => by
    have ih := ixs_range P ds (k + 1)
    have e : ((List.range ds.length).map Nat.succ).filter (fun j => P ((d :: ds).getD j .none)) = ((List.range ds.length).filter fun j => P (ds.getD j .none)).map Nat.succ := by
      rw [List.filter_map]
      rfl
    show ((List.range (ds.length + 1)).filter fun j => P ((d :: ds).getD j .none)).map _ = _
    rw [List.range_succ_eq_map, List.filter_cons, e]
    have e2 : (((List.range ds.length).filter fun j => P (ds.getD j .none)).map Nat.succ).map (fun j : Nat => ((k + j : Nat) : Int)) = ixs P (k + 1) ds := by
      rw [List.map_map, ← ih]
      apply List.map_congr_left
      intro j _
      show ((k + (j + 1) : Nat) : Int) = ((k + 1 + j : Nat) : Int)
      congr 1
      omega
    show List.map _ (if P d then _ else _) = if P d then _ else _
    split
    · rw [List.map_cons, e2]
      rfl
    · exact e2
theorem ixs_enum (P : D → Bool) : ∀ (ds : List D) (k : Nat), ((enumD k ds).filter (fun d => sndE (fun _ x => P x) 0 d)).map (fun d => match d with
    | .tuple [a, _] => a
    | _ => .none) = iD (ixs P k ds)
  | [], _ => rfl
  | d :: ds, k => by
    have ih := ixs_enum P ds (k + 1)
    show List.map _ (List.filter _ (PyData.tuple [.int k, d] :: enumD (k + 1) ds)) = _
    rw [List.filter_cons]
    show List.map _ (if P d then _ else _) = iD (if P d then _ else _)
    split
    · rw [List.map_cons, ih]
      rfl
    · exact ih
theorem ixs_congr {P Q : D → Bool} : ∀ {ds es : List D} {k : Nat}, ds.length = es.length → (∀ (i : Nat) d e, ds[i]? = some d → es[i]? = some e → P d = Q e) → ixs P k ds = ixs Q k es
  | [], [], _, _, _ => rfl
  | [], _ :: _, _, h, _ => by simp at h
  | _ :: _, [], _, h, _ => by simp at h
  | d :: ds, e :: es, k, h, c => by
    have h1 := c 0 d e rfl rfl
    have h2 := ixs_congr (P := P) (Q := Q) (ds := ds) (es := es) (k := k + 1) (by simpa using h) fun i a b ha hb => c (i + 1) a b (by simpa using ha) (by simpa using hb)
    simp only [ixs, h1, h2]
end PL.k01
end

section
set_option maxRecDepth 100000
namespace PL.k01
open PySem PL
variable {cls : Nat → Option ClsDef}
def Mems (ds : List D) : Prop := ∀ (k : Nat) d, ds[k]? = some d → Mem ds.length k d
def fstD : D → D
  | .tuple [a, _] => a
  | _ => .none
theorem softM_len (b : Bool) (ds : List D) : (rowsOf b ds).length = ds.length := by cases b <;> simp [rowsOf]
theorem rows_get {b : Bool} {ds : List D} {k : Nat} {e : D} (h : (rowsOf b ds)[k]? = some e) : ∃ d, ds[k]? = some d ∧ e = if b then softM d else d := by
  cases b with
  | false => exact ⟨e, h, rfl⟩
  | true =>
    simp only [rowsOf, if_true, List.getElem?_map] at h
    obtain ⟨d, h1, h2⟩ := Option.map_eq_some_iff.mp h
    exact ⟨d, h1, h2.symm⟩
def askQ (d : D) : Bool := isTy .list d || isTy .tuple d
theorem ask_twin {b : Bool} {ds : List D} (H : Mems ds) : ixs askQ 0 (rowsOf b ds) = askI ds ∧ ixs (fun d => !askQ d) 0 (rowsOf b ds) = firmI ds := by
  have q : ∀ (i : Nat) e d, (rowsOf b ds)[i]? = some e → ds[i]? = some d → askQ e = isRow d := fun i e d h1 h2 => by
    obtain ⟨d', h3, h4⟩ := rows_get h1
    rw [h2] at h3
    cases h3
    have := asker_hard (H i d h2)
    subst h4
    cases b with
    | true => exact this.2
    | false => exact this.1
  exact ⟨ixs_congr (softM_len b ds) q, ixs_congr (softM_len b ds) fun i e d h1 h2 => by rw [q i e d h1 h2]⟩
theorem ask_comp (n : Nat) {t : D} {rows : List D} : compLoop 0 (.cons (.v 1) (.cons (.v 2) .nil)) (some (evX (fun i => fnL[i]?) (fun i => glbL[i]?) (callN (fun i => fnL[i]?) (fun i => glbL[i]?) cls (n + 1)) (.call 3 (.cons (.var 2) .nil)))) (evX (fun i => fnL[i]?) (fun i => glbL[i]?) (callN (fun i => fnL[i]?) (fun i => glbL[i]?) cls (n + 1)) (.var 1)) (enumD 0 rows) [] [some (0, t), none, none] = .ok (iD (ixs askQ 0 rows)) [some (0, t), none, none] := by
  rw [comp_pure (fun d => sndE (fun _ x => askQ x) 0 d) fstD (enumD 0 rows) [] fun d hd => ?_]
  · exact congrArg (fun z => R.ok z _) (ixs_enum askQ rows 0)
  · obtain ⟨i, hi⟩ := List.mem_iff_getElem?.mp hd
    obtain ⟨x, hx, rfl⟩ := enum_get hi
    refine ⟨_, [some (0, t), some (0, .int ((0 + i : Nat) : Int)), some (0, x)], bind_pair (by simp) (by simp), ?_, fun _ => ⟨0, [some (0, t), some (0, .int ((0 + i : Nat) : Int)), some (0, x)], ?_, Nat.le_refl _, rfl⟩, fun _ => rfl⟩
    · unfold evX
      simp [testR, f3, ↓evFor, ↓evComp, ↓evComp2, run, startE, evS, ev, oneS, oneKD, R.bind, opR, itemsKD, itemKD, getS, semOp, sem1, sem2, sem3, sIx, ixAt, sGt, sLt, sLe, sAdd, sSub, sMul, sFdiv, sMod, sAbs, sInt, sLen, lowerItems, lowerS, truth, freshOp, free, maskO, ixPos, callR, argsFor, outsTo, slotsOf, freezeS, setS, ksD, iterOf, slotsP, asker_ok, sndE, askQ]
    · unfold evX
      simp [↓evFor, ↓evComp, ↓evComp2, run, startE, evS, ev, oneS, oneKD, R.bind, opR, itemsKD, itemKD, getS, semOp, sem1, sem2, sem3, sIx, ixAt, sGt, sLt, sLe, sAdd, sSub, sMul, sFdiv, sMod, sAbs, sInt, sLen, lowerItems, lowerS, truth, freshOp, free, maskO, ixPos, callR, argsFor, outsTo, slotsOf, freezeS, setS, ksD, iterOf, slotsP, fstD]
theorem firm_comp (n : Nat) {t : D} {rows : List D} : compLoop 0 (.cons (.v 1) (.cons (.v 2) .nil)) (some (evX (fun i => fnL[i]?) (fun i => glbL[i]?) (callN (fun i => fnL[i]?) (fun i => glbL[i]?) cls (n + 1)) (.op .not (.cons (.call 3 (.cons (.var 2) .nil)) .nil)))) (evX (fun i => fnL[i]?) (fun i => glbL[i]?) (callN (fun i => fnL[i]?) (fun i => glbL[i]?) cls (n + 1)) (.var 1)) (enumD 0 rows) [] [some (0, t), none, none] = .ok (iD (ixs (fun d => !askQ d) 0 rows)) [some (0, t), none, none] := by
  rw [comp_pure (fun d => sndE (fun _ x => !askQ x) 0 d) fstD (enumD 0 rows) [] fun d hd => ?_]
  · exact congrArg (fun z => R.ok z _) (ixs_enum (fun d => !askQ d) rows 0)
  · obtain ⟨i, hi⟩ := List.mem_iff_getElem?.mp hd
    obtain ⟨x, hx, rfl⟩ := enum_get hi
    refine ⟨_, [some (0, t), some (0, .int ((0 + i : Nat) : Int)), some (0, x)], bind_pair (by simp) (by simp), ?_, fun _ => ⟨0, [some (0, t), some (0, .int ((0 + i : Nat) : Int)), some (0, x)], ?_, Nat.le_refl _, rfl⟩, fun _ => rfl⟩
    · unfold evX
      simp [testR, f3, ↓evFor, ↓evComp, ↓evComp2, run, startE, evS, ev, oneS, oneKD, R.bind, opR, itemsKD, itemKD, getS, semOp, sem1, sem2, sem3, sIx, ixAt, sGt, sLt, sLe, sAdd, sSub, sMul, sFdiv, sMod, sAbs, sInt, sLen, lowerItems, lowerS, truth, freshOp, free, maskO, ixPos, callR, argsFor, outsTo, slotsOf, freezeS, setS, ksD, iterOf, slotsP, asker_ok, sndE, askQ]
    · unfold evX
      simp [↓evFor, ↓evComp, ↓evComp2, run, startE, evS, ev, oneS, oneKD, R.bind, opR, itemsKD, itemKD, getS, semOp, sem1, sem2, sem3, sIx, ixAt, sGt, sLt, sLe, sAdd, sSub, sMul, sFdiv, sMod, sAbs, sInt, sLen, lowerItems, lowerS, truth, freshOp, free, maskO, ixPos, callR, argsFor, outsTo, slotsOf, freezeS, setS, ksD, iterOf, slotsP, fstD]
theorem askers_ok (n : Nat) (b : Bool) {ds : List D} (H : Mems ds) : cN cls (n + 2) 6 [(0, twin b ds)] = .ok (0, .tuple (iD (askI ds))) [none] := by
  have hs := iterTwin b ds
  have h1 := (ask_twin (b := b) H).1
  rw [callN_succ f6, ← h1]
  have hc := ask_comp (cls := cls) n (t := twin b ds) (rows := rowsOf b ds)
  generalize hq : iD (ixs askQ 0 (rowsOf b ds)) = out at hc ⊢
  generalize twin b ds = t at hs hc ⊢
  generalize rowsOf b ds = rows at hs hc
  simp [b6, ↓evFor, ↓evComp, ↓evComp2, run, startE, evS, ev, oneS, oneKD, R.bind, opR, itemsKD, itemKD, getS, semOp, sem1, sem2, sem3, sIx, ixAt, sGt, sLt, sLe, sAdd, sSub, sMul, sFdiv, sMod, sAbs, sInt, sLen, lowerItems, lowerS, truth, freshOp, free, maskO, ixPos, callR, argsFor, outsTo, slotsOf, freezeS, setS, ksD, iterOf, slotsP, hs, compR, condOf, wipeE, freezeAll, backE, ksD_map, hc]
  simp [seqOf, mask0]
theorem firm_ok (n : Nat) (b : Bool) {ds : List D} (H : Mems ds) : cN cls (n + 2) 7 [(0, twin b ds)] = .ok (0, .tuple (iD (firmI ds))) [none] := by
  have hs := iterTwin b ds
  have h1 := (ask_twin (b := b) H).2
  rw [callN_succ f7, ← h1]
  have hc := firm_comp (cls := cls) n (t := twin b ds) (rows := rowsOf b ds)
  generalize hq : iD (ixs (fun d => !askQ d) 0 (rowsOf b ds)) = out at hc ⊢
  generalize twin b ds = t at hs hc ⊢
  generalize rowsOf b ds = rows at hs hc
  simp [b7, ↓evFor, ↓evComp, ↓evComp2, run, startE, evS, ev, oneS, oneKD, R.bind, opR, itemsKD, itemKD, getS, semOp, sem1, sem2, sem3, sIx, ixAt, sGt, sLt, sLe, sAdd, sSub, sMul, sFdiv, sMod, sAbs, sInt, sLen, lowerItems, lowerS, truth, freshOp, free, maskO, ixPos, callR, argsFor, outsTo, slotsOf, freezeS, setS, ksD, iterOf, slotsP, hs, compR, condOf, wipeE, freezeAll, backE, ksD_map, hc]
  simp [seqOf, mask0]
theorem asked_ok (n : Nat) (b : Bool) {ds : List D} {k : Nat} {d : D} (H : Mems ds) (hk : ds[k]? = some d) : cN cls (n + 2) 8 [(0, twin b ds), (0, .int (k : Nat))] = .ok (0, .tuple (iD (rowI d))) [none, none] := by
  have hix : ∀ e, (rowsOf b ds)[k]? = some e → sIx (twin b ds) (.int (k : Nat)) = some e := fun e he => by
    have e0 : ixAt (rowsOf b ds) (k : Int) = some e := by
      unfold ixAt
      rw [if_pos (by omega), Int.toNat_natCast]
      exact he
    cases b <;> exact e0
  have hrow : (rowsOf b ds)[k]? = some (if b then softM d else d) := by
    cases b with
    | false => exact hk
    | true => simp [rowsOf, hk]
  have hi := hix _ hrow
  rw [callN_succ f8]
  generalize twin b ds = t at hi ⊢
  rcases H k d hk with ⟨i, rfl⟩ | ⟨ns, rfl, _⟩
  · have e : (if b then softM (.int i) else .int i) = PyData.int i := by cases b <;> rfl
    rw [e] at hi
    unfold sIx at hi
    simp [b8, f3, ↓evFor, ↓evComp, ↓evComp2, run, startE, evS, ev, oneS, oneKD, R.bind, opR, itemsKD, itemKD, getS, semOp, sem1, sem2, sem3, sIx, sGt, sLt, sLe, sAdd, sSub, sMul, sFdiv, sMod, sAbs, sInt, sLen, lowerItems, lowerS, truth, freshOp, free, maskO, ixPos, callR, argsFor, outsTo, slotsOf, freezeS, setS, ksD, iterOf, slotsP, asker_ok, isTy, mkTup, valsKD, szOk, maxLen, hi, rowI]
  · have hq : rowI (.tuple (iD ns)) = ns := fm_iD ns
    rw [hq]
    generalize iD ns = xs at hi ⊢
    unfold sIx at hi
    cases b <;>
    · simp [softM] at hi
      simp [b8, f3, ↓evFor, ↓evComp, ↓evComp2, run, startE, evS, ev, oneS, oneKD, R.bind, opR, itemsKD, itemKD, getS, semOp, sem1, sem2, sem3, sIx, sGt, sLt, sLe, sAdd, sSub, sMul, sFdiv, sMod, sAbs, sInt, sLen, lowerItems, lowerS, truth, freshOp, free, maskO, ixPos, callR, argsFor, outsTo, slotsOf, freezeS, setS, ksD, iterOf, slotsP, asker_ok, isTy, mkTup, valsKD, szOk, maxLen, hi, seqOf]
/-! ### two fors -/
theorem inner_pure {p : Pat} {elt : Env → R (List Item)} {env : Env} (g : D → D) : ∀ (ds acc : List D), (∀ d ∈ ds, ∃ env1 k env3, bindPat p d env = some env1 ∧ elt env1 = .ok [.val (k, g d)] env3 ∧ wipeE env3 (slotsP p) = env) → acc.length + ds.length ≤ maxLen →
    innerLoop p none elt ds acc env = .ok (acc ++ ds.map g) env
  | [], acc, _, _ => by simp [innerLoop]
  | d :: ds, acc, st, hl => by
    obtain ⟨e1, k, e3, b1, b2, b3⟩ := st d List.mem_cons_self
    have hlt : acc.length < maxLen := by
      simp at hl
      omega
    simp only [innerLoop, b1, testR, R.calm, if_true, b2, if_pos hlt, b3]
    rw [inner_pure g ds (acc ++ [g d]) (fun x hx => st x (List.mem_cons_of_mem _ hx)) (by simp at hl ⊢; omega)]
    simp
theorem comp2_pure {vs : List Nat} {p : Pat} {turn : List D → Env → R (List D)} {env : Env} (f : D → List D) : ∀ (ds acc : List D), (∀ d ∈ ds, ∀ acc : List D, acc.length + (f d).length ≤ maxLen → ∃ env1 env2, bindPat p d env = some env1 ∧ turn acc env1 = .ok (acc ++ f d) env2 ∧ wipeE env2 vs = env) →
    acc.length + (ds.flatMap f).length ≤ maxLen → comp2Loop vs p turn ds acc env = .ok (acc ++ ds.flatMap f) env
  | [], acc, _, _ => by simp [comp2Loop]
  | d :: ds, acc, st, hl => by
    rw [List.flatMap_cons, List.length_append] at hl
    obtain ⟨e1, e2, b1, b2, b3⟩ := st d List.mem_cons_self acc (by omega)
    simp only [comp2Loop, b1, b2, R.calm, b3]
    rw [comp2_pure f ds (acc ++ f d) (fun x hx => st x (List.mem_cons_of_mem _ hx)) (by rw [List.length_append]; omega)]
    rw [List.flatMap_cons, List.append_assoc]
theorem ixs_mem {P : D → Bool} : ∀ {ds : List D} {k : Nat} {a : Int}, a ∈ ixs P k ds → ∃ i d, ds[i]? = some d ∧ a = ((k + i : Nat) : Int) ∧ P d = true
  | [], _, _, h => by cases h
  | d :: ds, k, a, h => by
    unfold ixs at h
    have tl : a ∈ ixs P (k + 1) ds → ∃ i d', (d :: ds)[i]? = some d' ∧ a = ((k + i : Nat) : Int) ∧ P d' = true := fun h => by
      obtain ⟨i, d', h1, h2, h3⟩ := ixs_mem h
      exact ⟨i + 1, d', by simpa using h1, by rw [h2]; congr 1; omega, h3⟩
    split at h
    · rename_i hp
      rcases List.mem_cons.mp h with e | h
      · exact ⟨0, d, rfl, e, hp⟩
      · exact tl h
    · exact tl h
theorem row_len : ∀ {l : List Int} {lo n : Int}, l.Pairwise (· < ·) → (∀ b ∈ l, lo ≤ b ∧ b < n) → l.length ≤ (n - lo).toNat
  | [], _, _, _, _ => Nat.zero_le _
  | a :: l, lo, n, h, hb => by
    obtain ⟨h1, h2⟩ := List.pairwise_cons.mp h
    have ha := hb a List.mem_cons_self
    have := row_len (lo := a + 1) (n := n) h2 fun b hb' => ⟨by have := h1 b hb'; omega, (hb b (List.mem_cons_of_mem _ hb')).2⟩
    simp
    omega
def pairsD (ds : List D) : List D := (iD (askI ds)).flatMap fun d => match d with
  | .int j => (iD (rowI (ds.getD j.toNat .none))).map fun g => PyData.tuple [.int j, g]
  | _ => []
end PL.k01
end

section
set_option maxRecDepth 100000
namespace PL.k01
open PySem PL
variable {cls : Nat → Option ClsDef}
def pairF (ds : List D) : D → List D
  | .int j => (iD (rowI (ds.getD j.toNat .none))).map fun g => PyData.tuple [.int j, g]
  | _ => []
theorem pairsD_eq (ds : List D) : pairsD ds = (iD (askI ds)).flatMap (pairF ds) := rfl
theorem askI_mem {ds : List D} {a : Int} (h : a ∈ askI ds) : ∃ i d, ds[i]? = some d ∧ a = ((i : Nat) : Int) ∧ isRow d = true := by
  obtain ⟨i, d, h1, h2, h3⟩ := ixs_mem h
  exact ⟨i, d, h1, by rw [h2, Nat.zero_add], h3⟩
theorem rowI_len {ds : List D} {i : Nat} {d : D} (H : Mems ds) (h : ds[i]? = some d) : (rowI d).length ≤ ds.length := by
  rcases H i d h with ⟨a, rfl⟩ | ⟨ns, rfl, _, h1, h2⟩
  · exact Nat.zero_le _
  · show ((iD ns).filterMap intQ).length ≤ _
    rw [fm_iD]
    have := row_len (lo := 0) (n := ds.length) h1 fun b hb => ⟨(h2 b hb).1, (h2 b hb).2.1⟩
    omega
theorem ixs_len {P : D → Bool} : ∀ {ds : List D} {k : Nat}, (ixs P k ds).length ≤ ds.length
  | [], _ => Nat.le_refl _
  | d :: ds, k => by
    have := ixs_len (P := P) (ds := ds) (k := k + 1)
    unfold ixs
    split
    · simp
      exact this
    · simp
      omega
theorem flat_len {f : D → List D} {c : Nat} : ∀ {l : List D}, (∀ d ∈ l, (f d).length ≤ c) → (l.flatMap f).length ≤ l.length * c
  | [], _ => by simp
  | d :: l, h => by
    have h1 := h d List.mem_cons_self
    have h2 := flat_len (f := f) (c := c) (l := l) fun x hx => h x (List.mem_cons_of_mem _ hx)
    rw [List.flatMap_cons, List.length_append, List.length_cons, Nat.succ_mul]
    omega
theorem pairs_len {ds : List D} (H : Mems ds) (h6 : ds.length ≤ 6) : (pairsD ds).length ≤ 36 := by
  rw [pairsD_eq]
  refine Nat.le_trans (flat_len (c := 6) fun d hd => ?_) ?_
  · obtain ⟨a, ha, rfl⟩ := List.mem_map.mp hd
    obtain ⟨i, e, h1, rfl, h3⟩ := askI_mem ha
    show ((iD (rowI (ds.getD (i : Int).toNat .none))).map _).length ≤ 6
    rw [List.length_map, List.length_map, Int.toNat_natCast, List.getD_eq_getElem?_getD, h1]
    exact Nat.le_trans (rowI_len H h1) h6
  · have := ixs_len (P := isRow) (ds := ds) (k := 0)
    have e : (iD (askI ds)).length = (ixs isRow 0 ds).length := by simp [askI]
    rw [e]
    have : (ixs isRow 0 ds).length ≤ 6 := by omega
    omega
theorem arcs_comp (n : Nat) (b : Bool) {ds : List D} (H : Mems ds) (h6 : ds.length ≤ 6) : comp2Loop ([1] ++ [2]) (.v 1) (comp2Turn (.v 2) none (evX (fun i => fnL[i]?) (fun i => glbL[i]?) (callN (fun i => fnL[i]?) (fun i => glbL[i]?) cls (n + 2)) (.iter .seq (.cons (.call 8 (.cons (.var 0) (.cons (.var 1) .nil))) .nil))) none (evX (fun i => fnL[i]?) (fun i => glbL[i]?) (callN (fun i => fnL[i]?) (fun i => glbL[i]?) cls (n + 2)) (.tup (.cons (.var 1) (.cons (.var 2) .nil))))) (iD (askI ds)) [] [some (0, twin b ds), none, none] = .ok (pairsD ds) [some (0, twin b ds), none, none] := by
  have hl := pairs_len H h6
  rw [pairsD_eq] at hl ⊢
  rw [comp2_pure (pairF ds) (iD (askI ds)) [] (fun d hd acc hacc => ?_) (by simp only [List.length_nil, Nat.zero_add]; show _ ≤ 16777216; omega)]
  · simp
  · obtain ⟨a, ha, rfl⟩ := List.mem_map.mp hd
    obtain ⟨i, e, h1, rfl, h3⟩ := askI_mem ha
    have hp : pairF ds (.int (i : Nat)) = (iD (rowI e)).map fun g => PyData.tuple [.int (i : Nat), g] := by
      show (iD (rowI (ds.getD (i : Int).toNat .none))).map _ = _
      rw [Int.toNat_natCast, List.getD_eq_getElem?_getD, h1]
      rfl
    have hcall := asked_ok (cls := cls) n b H h1
    rw [hp] at hacc ⊢
    rw [List.length_map] at hacc
    have hin := inner_pure (p := .v 2) (elt := evX (fun i => fnL[i]?) (fun i => glbL[i]?) (callN (fun i => fnL[i]?) (fun i => glbL[i]?) cls (n + 2)) (.tup (.cons (.var 1) (.cons (.var 2) .nil)))) (env := [some (0, twin b ds), some (0, .int (i : Nat)), none]) (fun g => PyData.tuple [.int (i : Nat), g]) (iD (rowI e)) acc (fun g hg => by
      refine ⟨_, 0, [some (0, twin b ds), some (0, .int (i : Nat)), some (0, g)], bind_v (by simp), ?_, rfl⟩
      unfold evX
      simp [↓evFor, ↓evComp, ↓evComp2, run, startE, evS, ev, oneS, oneKD, R.bind, opR, itemsKD, itemKD, getS, semOp, sem1, sem2, sem3, sIx, ixAt, sGt, sLt, sLe, sAdd, sSub, sMul, sFdiv, sMod, sAbs, sInt, sLen, lowerItems, lowerS, truth, freshOp, free, maskO, ixPos, callR, argsFor, outsTo, slotsOf, freezeS, setS, ksD, iterOf, slotsP, mkTup, valsKD, szOk, maxLen]) hacc
    generalize iD (rowI e) = xs at hcall hin ⊢
    generalize twin b ds = t at hcall hin ⊢
    refine ⟨_, [some (0, t), some (0, .int (i : Nat)), none], bind_v (by simp), ?_, rfl⟩
    unfold comp2Turn
    have hit : evX (fun i => fnL[i]?) (fun i => glbL[i]?) (callN (fun i => fnL[i]?) (fun i => glbL[i]?) cls (n + 2)) (.iter .seq (.cons (.call 8 (.cons (.var 0) (.cons (.var 1) .nil))) .nil)) [some (0, t), some (0, .int (i : Nat)), none] = .ok (xs.map fun v => Item.val (0, v)) [some (0, t), some (0, .int (i : Nat)), none] := by
      unfold evX
      simp [f8, ↓evFor, ↓evComp, ↓evComp2, run, startE, evS, ev, oneS, oneKD, R.bind, opR, itemsKD, itemKD, getS, semOp, sem1, sem2, sem3, sIx, ixAt, sGt, sLt, sLe, sAdd, sSub, sMul, sFdiv, sMod, sAbs, sInt, sLen, lowerItems, lowerS, truth, freshOp, free, maskO, ixPos, callR, argsFor, outsTo, slotsOf, freezeS, setS, ksD, iterOf, slotsP, hcall, iterSeq]
    simp [testR, R.calm, hit, ksD_map, slotsP, wipeE, hin]
theorem arcs_ok (n : Nat) (b : Bool) {ds : List D} (H : Mems ds) (h6 : ds.length ≤ 6) : cN cls (n + 3) 9 [(0, twin b ds)] = .ok (0, .tuple (pairsD ds)) [none] := by
  have ha := askers_ok (cls := cls) n b H
  have hc := arcs_comp (cls := cls) n b H h6
  rw [callN_succ f9]
  generalize twin b ds = t at ha hc ⊢
  generalize iD (askI ds) = xs at ha hc
  simp only [List.cons_append, List.nil_append] at hc
  simp [b9, f6, ↓evFor, ↓evComp, ↓evComp2, run, startE, evS, ev, oneS, oneKD, R.bind, opR, itemsKD, itemKD, getS, semOp, sem1, sem2, sem3, sIx, ixAt, sGt, sLt, sLe, sAdd, sSub, sMul, sFdiv, sMod, sAbs, sInt, sLen, lowerItems, lowerS, truth, freshOp, free, maskO, ixPos, callR, argsFor, outsTo, slotsOf, freezeS, setS, ksD, iterOf, slotsP, ha, iterSeq, comp2R, condOf, wipeE, freezeAll, backE, ksD_map, hc, seqOf, mask0]
end PL.k01
end

section
set_option maxRecDepth 100000
namespace PL.k01
open PySem PL
variable {cls : Nat → Option ClsDef}
theorem lenTwin (b : Bool) (ds : List D) : sLen (twin b ds) = some (.int ds.length) := by cases b <;> simp [twin, sLen]
theorem check_yes (n : Nat) (b : Bool) {ds : List D} {m : Int} (h : 0 ≤ m ∧ m < ds.length) : cN cls (n + 3) 5 [(0, twin b ds), (0, .list [.int m])] = .ok (0, .none) [none, none] := by
  have hl := lenTwin b ds
  have hb := below_ok (cls := cls) n (.int m) (ds.length : Int)
  have e : belowD ds.length (.int m) = true := by simp [belowD]; omega
  rw [e] at hb
  rw [callN_succ f5]
  generalize twin b ds = t at hl ⊢
  simp [b5, ↓evFor, ↓evComp, ↓evComp2, run, startE, evS, ev, oneS, oneKD, R.bind, opR, itemsKD, itemKD, getS, semOp, sem1, sem2, sem3, sIx, ixAt, sGt, sLt, sLe, sAdd, sSub, sMul, sFdiv, sMod, sAbs, sInt, lowerItems, lowerS, truth, freshOp, free, maskO, ixPos, callR, argsFor, outsTo, slotsOf, freezeS, setS, ksD, iterOf, slotsP, iterSeq, forLoop, bindPat, evB, f1, hl, hb]
theorem check_no (n : Nat) (b : Bool) {ds : List D} {m : Int} (h : ¬ (0 ≤ m ∧ m < ds.length)) : cN cls (n + 3) 5 [(0, twin b ds), (0, .list [.int m])] = .exc ⟨0, some (.int m)⟩ [none, none] := by
  have hl := lenTwin b ds
  have hb := below_ok (cls := cls) n (.int m) (ds.length : Int)
  have e : belowD ds.length (.int m) = false := by
    simp only [belowD, Bool.and_eq_false_iff, decide_eq_false_iff_not]
    omega
  rw [e] at hb
  rw [callN_succ f5]
  generalize twin b ds = t at hl ⊢
  simp [b5, ↓evFor, ↓evComp, ↓evComp2, run, startE, evS, ev, oneS, oneKD, R.bind, opR, itemsKD, itemKD, getS, semOp, sem1, sem2, sem3, sIx, ixAt, sGt, sLt, sLe, sAdd, sSub, sMul, sFdiv, sMod, sAbs, sInt, lowerItems, lowerS, truth, freshOp, free, maskO, ixPos, callR, argsFor, outsTo, slotsOf, freezeS, setS, ksD, iterOf, slotsP, iterSeq, forLoop, bindPat, evB, f1, hl, hb]
theorem pairs_mem {ds : List D} {d : D} (h : d ∈ pairsD ds) : ∃ a g : Int, d = .tuple [.int a, .int g] := by
  rw [pairsD_eq] at h
  obtain ⟨x, hx, hd⟩ := List.mem_flatMap.mp h
  obtain ⟨a, _, rfl⟩ := List.mem_map.mp hx
  obtain ⟨g, hg, rfl⟩ := List.mem_map.mp hd
  obtain ⟨i, _, rfl⟩ := List.mem_map.mp hg
  exact ⟨a, i, rfl⟩
def toM (m : Int) : D → Bool
  | .tuple [_, g] => PyData.eqv g (.int m)
  | _ => false
def byD (ds : List D) (m : Int) : List D := ((pairsD ds).filter (toM m)).map fstD
theorem by_comp (n : Nat) {t : D} {ds : List D} {m : Int} : compLoop 0 (.cons (.v 2) (.cons (.v 3) .nil)) (some (evX (fun i => fnL[i]?) (fun i => glbL[i]?) (callN (fun i => fnL[i]?) (fun i => glbL[i]?) cls n) (.op .eq (.cons (.bor 3) (.cons (.bor 1) .nil))))) (evX (fun i => fnL[i]?) (fun i => glbL[i]?) (callN (fun i => fnL[i]?) (fun i => glbL[i]?) cls n) (.var 2)) (pairsD ds) [] [some (0, t), some (0, .int m), none, none] = .ok (byD ds m) [some (0, t), some (0, .int m), none, none] := by
  rw [comp_pure (toM m) fstD (pairsD ds) [] fun d hd => ?_]
  · rfl
  · obtain ⟨a, g, rfl⟩ := pairs_mem hd
    refine ⟨_, [some (0, t), some (0, .int m), some (0, .int a), some (0, .int g)], bind_pair (by simp) (by simp), ?_, fun _ => ⟨0, [some (0, t), some (0, .int m), some (0, .int a), some (0, .int g)], ?_, Nat.le_refl _, rfl⟩, fun _ => rfl⟩
    · unfold evX
      simp [testR, ↓evFor, ↓evComp, ↓evComp2, run, startE, evS, ev, oneS, oneKD, R.bind, opR, itemsKD, itemKD, getS, semOp, sem1, sem2, sem3, sIx, ixAt, sGt, sLt, sLe, sAdd, sSub, sMul, sFdiv, sMod, sAbs, sInt, sLen, lowerItems, lowerS, truth, freshOp, free, maskO, ixPos, callR, argsFor, outsTo, slotsOf, freezeS, setS, ksD, iterOf, slotsP, sEq, okD_int, toM]
    · unfold evX
      simp [↓evFor, ↓evComp, ↓evComp2, run, startE, evS, ev, oneS, oneKD, R.bind, opR, itemsKD, itemKD, getS, semOp, sem1, sem2, sem3, sIx, ixAt, sGt, sLt, sLe, sAdd, sSub, sMul, sFdiv, sMod, sAbs, sInt, sLen, lowerItems, lowerS, truth, freshOp, free, maskO, ixPos, callR, argsFor, outsTo, slotsOf, freezeS, setS, ksD, iterOf, slotsP, fstD]
theorem asked_yes (n : Nat) (b : Bool) {ds : List D} {m : Int} (H : Mems ds) (h6 : ds.length ≤ 6) (h : 0 ≤ m ∧ m < ds.length) : cN cls (n + 4) 10 [(0, twin b ds), (0, .int m)] = .ok (0, .tuple (byD ds m)) [none, none] := by
  have h1 := check_yes (cls := cls) n b h
  have h2 := arcs_ok (cls := cls) n b H h6
  have hc := by_comp (cls := cls) (n + 3) (t := twin b ds) (ds := ds) (m := m)
  rw [callN_succ f10]
  generalize twin b ds = t at h1 h2 hc ⊢
  generalize pairsD ds = ps at h2 hc
  simp [b10, f5, f9, ↓evFor, ↓evComp, ↓evComp2, run, startE, evS, ev, oneS, oneKD, R.bind, opR, itemsKD, itemKD, getS, semOp, sem1, sem2, sem3, sIx, ixAt, sGt, sLt, sLe, sAdd, sSub, sMul, sFdiv, sMod, sAbs, sInt, sLen, lowerItems, lowerS, truth, freshOp, free, maskO, ixPos, callR, argsFor, outsTo, slotsOf, freezeS, setS, ksD, iterOf, slotsP, mkLst, valsKD, szOk, maxLen, h1, h2, iterSeq, compR, condOf, wipeE, freezeAll, backE, ksD_map, hc, seqOf, mask00]
theorem asked_no (n : Nat) (b : Bool) {ds : List D} {m : Int} (h : ¬ (0 ≤ m ∧ m < ds.length)) : cN cls (n + 4) 10 [(0, twin b ds), (0, .int m)] = .exc ⟨0, some (.int m)⟩ [none, none] := by
  have h1 := check_no (cls := cls) n b h
  rw [callN_succ f10]
  generalize twin b ds = t at h1 ⊢
  simp [b10, f5, ↓evFor, ↓evComp, ↓evComp2, run, startE, evS, ev, oneS, oneKD, R.bind, opR, itemsKD, itemKD, getS, semOp, sem1, sem2, sem3, sIx, ixAt, sGt, sLt, sLe, sAdd, sSub, sMul, sFdiv, sMod, sAbs, sInt, sLen, lowerItems, lowerS, truth, freshOp, free, maskO, ixPos, callR, argsFor, outsTo, slotsOf, freezeS, setS, ksD, iterOf, slotsP, mkLst, valsKD, szOk, maxLen, h1]
theorem heard_no (n : Nat) (b : Bool) {ds : List D} {m : Int} (hcl : cls 0 = some ⟨"LookupError", some (PySem.Str.ofString "number")⟩) (h : ¬ (0 ≤ m ∧ m < ds.length)) :
    cN cls (n + 5) 26 [(0, twin b ds), (0, .int m)] = .ok (1, .list [.str (PySem.Str.ofString "none"), .int m, .bool true]) [none, none] := by
  have h1 := asked_no (cls := cls) n b h
  rw [callN_succ f26]
  generalize twin b ds = t at h1 ⊢
  simp [b26, f10, ↓evFor, ↓evComp, ↓evComp2, run, startE, evS, ev, oneS, oneKD, R.bind, opR, itemsKD, itemKD, getS, semOp, sem1, sem2, sem3, sIx, ixAt, sGt, sLt, sLe, sAdd, sSub, sMul, sFdiv, sMod, sAbs, sInt, sLen, lowerItems, lowerS, truth, freshOp, free, maskO, ixPos, callR, argsFor, outsTo, slotsOf, freezeS, setS, ksD, iterOf, slotsP, parSet, h1, handle, slotIn, hpsD, hpD, hcl, kdOf, unbindS, sIsN]
end PL.k01
end

section
set_option maxRecDepth 100000
namespace PL.k01
open PySem PL
variable {cls : Nat → Option ClsDef}
/-! ### each once -/
def nodupB : List Int → Bool
  | [] => true
  | a :: r => !decide (a ∈ r) && nodupB r
theorem mem_insU {x a : Int} : ∀ {ys : List Int}, a ∈ insU x ys ↔ a = x ∨ a ∈ ys
  | [] => by simp [insU]
  | y :: ys => by
    unfold insU
    split
    · rw [List.mem_cons, mem_insU, List.mem_cons]
      constructor
      · rintro (h | h | h)
        · exact .inr (.inl h)
        · exact .inl h
        · exact .inr (.inr h)
      · rintro (h | h | h)
        · exact .inr (.inl h)
        · exact .inl h
        · exact .inr (.inr h)
    · split
      · rename_i h
        simp only [List.mem_cons]
        constructor
        · exact fun q => .inr q
        · rintro (h' | h')
          · exact .inl (by omega)
          · exact h'
      · simp
theorem mem_usort {a : Int} : ∀ {ns : List Int}, a ∈ usort ns ↔ a ∈ ns
  | [] => Iff.rfl
  | n :: ns => by
    show a ∈ insU n (usort ns) ↔ _
    rw [mem_insU, mem_usort, List.mem_cons]
theorem insU_in {x : Int} : ∀ {ys : List Int}, incr ys = true → x ∈ ys → (insU x ys).length = ys.length
  | [], _, h => by cases h
  | y :: ys, hi, h => by
    obtain ⟨_, h2⟩ := incr_cons.mp hi
    unfold insU
    rcases List.mem_cons.mp h with e | h
    · subst e
      rw [if_neg (by omega), if_pos rfl]
    · have := incr_lt hi x h
      rw [if_pos this]
      simp [insU_in h2 h]
theorem insU_out {x : Int} : ∀ {ys : List Int}, x ∉ ys → (insU x ys).length = ys.length + 1
  | [], _ => rfl
  | y :: ys, h => by
    have h1 : ¬ y = x := fun e => h (by simp [e])
    have h2 : x ∉ ys := fun e => h (by simp [e])
    unfold insU
    split
    · simp [insU_out h2]
    · simp
theorem usort_lt : ∀ ns : List Int, decide ((usort ns).length < ns.length) = !nodupB ns
  | [] => rfl
  | n :: ns => by
    have ih := usort_lt ns
    have hl := usort_len ns
    show decide ((insU n (usort ns)).length < ns.length + 1) = !(!decide (n ∈ ns) && nodupB ns)
    by_cases h : n ∈ ns
    · rw [insU_in (usort_incr ns) (mem_usort.mpr h)]
      have : (usort ns).length < ns.length + 1 := by omega
      simp [this, h]
    · rw [insU_out fun e => h (mem_usort.mp e)]
      simp only [Nat.add_lt_add_iff_right, ih, h, decide_false, Bool.not_false, Bool.true_and]
theorem inD_iD {a : Int} : ∀ {ns : List Int}, inD (.int a) (iD ns) = decide (a ∈ ns)
  | [] => rfl
  | n :: ns => by
    show (PyData.eqv (.int n) (.int a) || inD (.int a) (iD ns)) = _
    rw [inD_iD, eqv_int]
    by_cases h : n = a <;> by_cases h2 : a ∈ ns <;> simp [h, h2, eq_comm]
    · intro q
      exact h q.symm
/-! ### roads -/
def rowAt (ds : List D) (a : Int) : List Int := rowI (ds.getD a.toNat .none)
def stepsB (ds : List D) : List Int → Bool
  | a :: c :: r => decide (c ∈ rowAt ds a) && stepsB ds (c :: r)
  | _ => true
def wayR (ds : List D) : List Int → Bool
  | a :: c :: r => decide (c ∈ rowAt ds a) && (!decide (a ∈ c :: r) && wayR ds (c :: r))
  | _ => true
theorem way_road (ds : List D) : ∀ ns : List Int, (nodupB ns && stepsB ds ns) = wayR ds ns
  | [] => rfl
  | [a] => by simp [nodupB, stepsB, wayR]
  | a :: c :: r => by
    have ih := way_road ds (c :: r)
    show ((!decide (a ∈ c :: r) && nodupB (c :: r)) && (decide (c ∈ rowAt ds a) && stepsB ds (c :: r))) = (decide (c ∈ rowAt ds a) && (!decide (a ∈ c :: r) && wayR ds (c :: r)))
    rw [← ih]
    cases decide (a ∈ c :: r) <;> cases decide (c ∈ rowAt ds a) <;> cases nodupB (c :: r) <;> cases stepsB ds (c :: r) <;> rfl
def wayB (ds : List D) : D → Bool
  | .tuple xs => !xs.isEmpty && (xs.all (belowD ds.length) && wayR ds (xs.filterMap intQ))
  | _ => false
def stP (ds : List D) : D → Bool
  | .tuple [.int a, .int c] => decide (c ∈ rowAt ds a)
  | _ => false
theorem steps_zip (ds : List D) : ∀ ns : List Int, ((zipD (iD ns) (iD ns.tail)).map (stP ds)).all id = stepsB ds ns
  | [] => rfl
  | [a] => rfl
  | a :: c :: r => by
    have ih := steps_zip ds (c :: r)
    show (stP ds (.tuple [.int a, .int c]) && ((zipD (iD (c :: r)) (iD r)).map (stP ds)).all id) = (decide (c ∈ rowAt ds a) && stepsB ds (c :: r))
    rw [← ih]
    rfl
end PL.k01
end

section
set_option maxRecDepth 100000
namespace PL.k01
open PySem PL
variable {cls : Nat → Option ClsDef}
theorem sl_iD (ns : List Int) : (iD ns).length = ns.length := List.length_map _
theorem road_c1 (n : Nat) (b : Bool) {ds xs : List D} {t : D} (hl : sLen t = some (.int ds.length)) : compLoop 0 (.v 4) none (evX (fun i => fnL[i]?) (fun i => glbL[i]?) (callN (fun i => fnL[i]?) (fun i => glbL[i]?) cls (n + 2)) (.call 1 (.cons (.var 4) (.cons (.op .len (.cons (.bor 0) .nil)) .nil)))) xs [] [some (0, t), some (0, .tuple xs), none, none, none] = .ok (xs.map fun d => .bool (belowD ds.length d)) [some (0, t), some (0, .tuple xs), none, none, none] := by
  refine comp_map (fun d => .bool (belowD ds.length d)) _ fun d hd => ?_
  refine ⟨_, 0, [some (0, t), some (0, .tuple xs), none, none, some (0, d)], bind_v (by simp), ?_, Nat.le_refl _, rfl⟩
  unfold evX
  simp [f1, ↓evFor, ↓evComp, ↓evComp2, run, startE, evS, ev, oneS, oneKD, R.bind, opR, itemsKD, itemKD, getS, semOp, sem1, sem2, sem3, sIx, ixAt, sGt, sLt, sLe, sAdd, sSub, sMul, sFdiv, sMod, sAbs, sInt, lowerItems, lowerS, truth, freshOp, free, maskO, ixPos, callR, argsFor, outsTo, slotsOf, freezeS, setS, ksD, iterOf, slotsP, below_ok, hl]
theorem road_c2 (n : Nat) (b : Bool) {ds : List D} {ns : List Int} (H : Mems ds) (hb : ∀ a ∈ ns, 0 ≤ a ∧ a < ds.length) : compLoop 0 (.cons (.v 2) (.cons (.v 3) .nil)) none (evX (fun i => fnL[i]?) (fun i => glbL[i]?) (callN (fun i => fnL[i]?) (fun i => glbL[i]?) cls (n + 2)) (.op .isin (.cons (.bor 3) (.cons (.call 8 (.cons (.var 0) (.cons (.var 2) .nil))) .nil)))) (zipD (iD ns) (iD ns.tail)) [] [some (0, twin b ds), some (0, .tuple (iD ns)), none, none, none] = .ok ((zipD (iD ns) (iD ns.tail)).map fun d => .bool (stP ds d)) [some (0, twin b ds), some (0, .tuple (iD ns)), none, none, none] := by
  refine comp_map (fun d => .bool (stP ds d)) _ fun d hd => ?_
  obtain ⟨a, c, ha, hc, rfl⟩ := zip_mem hd
  obtain ⟨h0, h1⟩ := hb a ha
  obtain ⟨i, rfl⟩ := Int.eq_ofNat_of_zero_le h0
  have hi : i < ds.length := by omega
  have hk : ds[i]? = some ds[i] := by simp [hi]
  have hcall := asked_ok (cls := cls) n b H hk
  have hr : rowAt ds (i : Int) = rowI ds[i] := by
    unfold rowAt
    rw [Int.toNat_natCast, List.getD_eq_getElem?_getD, hk]
    rfl
  have hin : inD (.int c) (iD (rowI ds[i])) = decide (c ∈ rowAt ds (i : Int)) := by rw [inD_iD, hr]
  have hok := okAll_iD (rowI ds[i])
  generalize iD ns = xs
  generalize iD (rowI ds[i]) = ys at hcall hin hok
  generalize twin b ds = t at hcall ⊢
  refine ⟨_, 0, [some (0, t), some (0, .tuple xs), some (0, .int (i : Nat)), some (0, .int c), none], bind_pair (by simp) (by simp), ?_, Nat.le_refl _, rfl⟩
  unfold evX
  simp [f8, ↓evFor, ↓evComp, ↓evComp2, run, startE, evS, ev, oneS, oneKD, R.bind, opR, itemsKD, itemKD, getS, semOp, sem1, sem2, sem3, sIx, ixAt, sGt, sLt, sLe, sAdd, sSub, sMul, sFdiv, sMod, sAbs, sInt, sLen, lowerItems, lowerS, truth, freshOp, free, maskO, ixPos, callR, argsFor, outsTo, slotsOf, freezeS, setS, ksD, iterOf, slotsP, hcall, sIn, okD_int, hok, hin, stP, -List.all_eq_true]
theorem road_ok (n : Nat) (b : Bool) {ds : List D} (H : Mems ds) (d : D) (hz : ∀ xs, d = .tuple xs → xs.length < 64) : cN cls (n + 3) 11 [(0, twin b ds), (0, d)] = .ok (0, .bool (wayB ds d)) [none, none] := by
  have hl := lenTwin b ds
  rw [callN_succ f11]
  cases d with
  | tuple xs =>
    have hz := hz xs rfl
    by_cases he : xs = []
    · subst he
      generalize twin b ds = t at hl ⊢
      simp [b11, ↓evFor, ↓evComp, ↓evComp2, run, startE, evS, ev, oneS, oneKD, R.bind, opR, itemsKD, itemKD, getS, semOp, sem1, sem2, sem3, sIx, ixAt, sGt, sLt, sLe, sAdd, sSub, sMul, sFdiv, sMod, sAbs, sInt, lowerItems, lowerS, truth, freshOp, free, maskO, ixPos, callR, argsFor, outsTo, slotsOf, freezeS, setS, ksD, iterOf, slotsP, isTy, sLen, sEq, okD_int, eqv_int, wayB]
    · have c1 := road_c1 (cls := cls) n b (xs := xs) hl
      by_cases ha : xs.all (belowD ds.length) = true
      · have e := all_below ha
        obtain ⟨ns, hns⟩ : ∃ ns, xs.filterMap intQ = ns := ⟨_, rfl⟩
        rw [hns] at e
        have hb : ∀ a ∈ ns, 0 ≤ a ∧ a < ds.length := fun a hm => by
          have : PyData.int a ∈ xs := by rw [e]; exact List.mem_map.mpr ⟨a, hm, rfl⟩
          obtain ⟨i, hi, h1, h2⟩ := below_int (List.all_eq_true.mp ha _ this)
          cases hi
          exact ⟨h1, h2⟩
        have c2 := road_c2 (cls := cls) n b H hb
        have hlen : xs.length = ns.length := by rw [e]; exact sl_iD ns
        have hu := sUsort_iD (ns := ns) (by omega)
        have hlt := usort_lt ns
        rw [← hlen, ← sl_iD (usort ns)] at hlt
        have hcut := cut1 ns
        have hst := steps_zip ds ns
        have hw := way_road ds ns
        rw [← e] at c2 hu hcut hst
        generalize iD (usort ns) = us at hu hlt
        generalize iD ns.tail = tl at c2 hcut hst
        generalize twin b ds = t at hl c1 c2 ⊢
        have hwB : wayB ds (.tuple xs) = (nodupB ns && stepsB ds ns) := by
          have : xs.isEmpty = false := by
            cases xs with
            | nil => exact absurd rfl he
            | cons => rfl
          simp only [wayB, this, ha, hns, hw, Bool.not_false, Bool.true_and]
        rw [hwB]
        cases hn : nodupB ns with
        | false =>
          rw [hn] at hlt
          have hlt : us.length < xs.length := by simpa using hlt
          simp [b11, ↓evFor, ↓evComp, ↓evComp2, run, startE, evS, ev, oneS, oneKD, R.bind, opR, itemsKD, itemKD, getS, semOp, sem1, sem2, sem3, sIx, ixAt, sGt, sLt, sLe, sAdd, sSub, sMul, sFdiv, sMod, sAbs, sInt, lowerItems, lowerS, truth, freshOp, free, maskO, ixPos, callR, argsFor, outsTo, slotsOf, freezeS, setS, ksD, iterOf, slotsP, isTy, sLen, hl, sEq, okD_int, eqv_int, he, compR, condOf, wipeE, freezeAll, backE, iterSeq, seqOf, ksD_map, lstOf, c1, bools_map, ha, hu, hlt, -List.all_eq_true]
          try rfl
        | true =>
          rw [hn] at hlt
          have hlt : ¬ us.length < xs.length := by simpa using hlt
          simp [b11, ↓evFor, ↓evComp, ↓evComp2, run, startE, evS, ev, oneS, oneKD, R.bind, opR, itemsKD, itemKD, getS, semOp, sem1, sem2, sem3, sIx, ixAt, sGt, sLt, sLe, sAdd, sSub, sMul, sFdiv, sMod, sAbs, sInt, lowerItems, lowerS, truth, freshOp, free, maskO, ixPos, callR, argsFor, outsTo, slotsOf, freezeS, setS, ksD, iterOf, slotsP, isTy, sLen, hl, sEq, okD_int, eqv_int, he, compR, condOf, wipeE, freezeAll, backE, iterSeq, seqOf, ksD_map, lstOf, c1, bools_map, ha, hu, hlt, sZip, isListD, sCut, cutOf, hcut, c2, hst, -List.all_eq_true]
          try rfl
      · simp only [Bool.not_eq_true] at ha
        generalize twin b ds = t at hl c1 ⊢
        simp [b11, ↓evFor, ↓evComp, ↓evComp2, run, startE, evS, ev, oneS, oneKD, R.bind, opR, itemsKD, itemKD, getS, semOp, sem1, sem2, sem3, sIx, ixAt, sGt, sLt, sLe, sAdd, sSub, sMul, sFdiv, sMod, sAbs, sInt, lowerItems, lowerS, truth, freshOp, free, maskO, ixPos, callR, argsFor, outsTo, slotsOf, freezeS, setS, ksD, iterOf, slotsP, isTy, sLen, hl, sEq, okD_int, eqv_int, he, compR, condOf, wipeE, freezeAll, backE, iterSeq, seqOf, ksD_map, lstOf, c1, bools_map, ha, wayB, -List.all_eq_true, -List.all_eq_false]
        try rfl
  | _ =>
    generalize twin b ds = t at hl ⊢
    simp [b11, ↓evFor, ↓evComp, ↓evComp2, run, startE, evS, ev, oneS, oneKD, R.bind, opR, itemsKD, itemKD, getS, semOp, sem1, sem2, sem3, sIx, ixAt, sGt, sLt, sLe, sAdd, sSub, sMul, sFdiv, sMod, sAbs, sInt, lowerItems, lowerS, truth, freshOp, free, maskO, ixPos, callR, argsFor, outsTo, slotsOf, freezeS, setS, ksD, iterOf, slotsP, isTy, wayB]
    try rfl
end PL.k01
end

section
set_option maxRecDepth 100000
namespace PL.k01
open PySem PL
variable {cls : Nat → Option ClsDef}
def wayT (ds : List D) (ns : List Int) (k : Nat) : Bool := match ns.drop k with
  | a :: c :: r => decide (c ∈ rowAt ds a) && !decide (a ∈ c :: r)
  | _ => true
theorem way_iff (ds : List D) : ∀ ns : List Int, (∀ k, k + 1 < ns.length → wayT ds ns k = true) ↔ wayR ds ns = true
  | [] => by simp [wayR]
  | [a] => by simp [wayR]
  | a :: c :: r => by
    have ih := way_iff ds (c :: r)
    have e0 : wayT ds (a :: c :: r) 0 = (decide (c ∈ rowAt ds a) && !decide (a ∈ c :: r)) := rfl
    have e1 : ∀ k, wayT ds (a :: c :: r) (k + 1) = wayT ds (c :: r) k := fun k => rfl
    have e2 : wayR ds (a :: c :: r) = (decide (c ∈ rowAt ds a) && (!decide (a ∈ c :: r) && wayR ds (c :: r))) := rfl
    rw [e2, Bool.and_eq_true, Bool.and_eq_true, ← ih]
    constructor
    · intro h
      have h0 := h 0 (by simp)
      rw [e0, Bool.and_eq_true] at h0
      exact ⟨h0.1, h0.2, fun k hk => by rw [← e1]; exact h (k + 1) (by simp at hk ⊢; omega)⟩
    · rintro ⟨h1, h2, h3⟩ k hk
      cases k with
      | zero => rw [e0, h1, h2]; rfl
      | succ k => rw [e1]; exact h3 k (by simp at hk ⊢; omega)
theorem drop_two {ns : List Int} {k : Nat} (h : k + 1 < ns.length) : ∃ a c r, ns.drop k = a :: c :: r ∧ ns[k]? = some a ∧ ns[k + 1]? = some c ∧ ns.drop (k + 1) = c :: r := by
  refine ⟨ns[k], ns[k + 1], ns.drop (k + 2), ?_, by simp, by simp, ?_⟩
  · rw [List.drop_eq_getElem_cons (by omega), List.drop_eq_getElem_cons h]
  · rw [List.drop_eq_getElem_cons h]
theorem way_comp (n : Nat) {ds xs : List D} : compLoop 0 (.v 4) (some (evX (fun i => fnL[i]?) (fun i => glbL[i]?) (callN (fun i => fnL[i]?) (fun i => glbL[i]?) cls (n + 1)) (.or (.op .not (.cons (.call 21 (.cons (.var 4) .nil)) .nil)) (.op .not (.cons (.chain .le .lt (.cst (.int 0)) (.var 4) (.op .len (.cons (.bor 0) .nil))) .nil))))) (evX (fun i => fnL[i]?) (fun i => glbL[i]?) (callN (fun i => fnL[i]?) (fun i => glbL[i]?) cls (n + 1)) (.var 4)) xs [] [some (0, .tuple ds), some (0, .tuple xs), none, none, none] = .ok (xs.filter fun d => !belowD ds.length d) [some (0, .tuple ds), some (0, .tuple xs), none, none, none] := by
  rw [comp_pure (fun d => !belowD ds.length d) (fun d => d) xs [] fun d hd => ?_]
  · simp
  · refine ⟨_, [some (0, .tuple ds), some (0, .tuple xs), none, none, some (0, d)], bind_v (by simp), ?_, fun _ => ⟨0, [some (0, .tuple ds), some (0, .tuple xs), none, none, some (0, d)], ?_, Nat.le_refl _, rfl⟩, fun _ => rfl⟩
    · unfold evX
      cases d with
      | int i =>
        by_cases h0 : 0 ≤ i <;>
        simp [testR, f21, ↓evFor, ↓evComp, ↓evComp2, run, startE, evS, ev, oneS, oneKD, R.bind, opR, itemsKD, itemKD, getS, semOp, sem1, sem2, sem3, sIx, ixAt, sGt, sLt, sLe, sAdd, sSub, sMul, sFdiv, sMod, sAbs, sInt, sLen, lowerItems, lowerS, truth, freshOp, free, maskO, ixPos, callR, argsFor, outsTo, slotsOf, freezeS, setS, ksD, iterOf, slotsP, whole_ok, isNum, belowD, h0]
      | _ => simp [testR, f21, ↓evFor, ↓evComp, ↓evComp2, run, startE, evS, ev, oneS, oneKD, R.bind, opR, itemsKD, itemKD, getS, semOp, sem1, sem2, sem3, sIx, ixAt, sGt, sLt, sLe, sAdd, sSub, sMul, sFdiv, sMod, sAbs, sInt, sLen, lowerItems, lowerS, truth, freshOp, free, maskO, ixPos, callR, argsFor, outsTo, slotsOf, freezeS, setS, ksD, iterOf, slotsP, whole_ok, isNum, belowD]
    · unfold evX
      simp [↓evFor, ↓evComp, ↓evComp2, run, startE, evS, ev, oneS, oneKD, R.bind, opR, itemsKD, itemKD, getS, semOp, sem1, sem2, sem3, sIx, ixAt, sGt, sLt, sLe, sAdd, sSub, sMul, sFdiv, sMod, sAbs, sInt, sLen, lowerItems, lowerS, truth, freshOp, free, maskO, ixPos, callR, argsFor, outsTo, slotsOf, freezeS, setS, ksD, iterOf, slotsP]
theorem cutk (ns : List Int) (k : Nat) (h : k ≤ ns.length) : cutD (iD ns) (some (k : Int)) none = iD (ns.drop k) := by
  unfold cutD clip
  have e : ¬ ((k : Int) < 0) := by omega
  simp only [e, if_false, Int.toNat_natCast, List.length_map, ← List.map_take, ← List.map_drop, Nat.min_eq_left h]
  congr 1
  rw [List.take_of_length_le (by simp)]
theorem way_step (n : Nat) {ds : List D} {ns : List Int} (H : Mems ds) (hb : ∀ a ∈ ns, 0 ≤ a ∧ a < ds.length) {k : Nat} (hk : k + 1 < ns.length) {s3 : Option KD} :
    (wayT ds ns k = true → ∃ env2, evB (fun i => fnL[i]?) (fun i => glbL[i]?) (callN (fun i => fnL[i]?) (fun i => glbL[i]?) cls (n + 1)) cls [0, 0] (.seq (.set 3 (.op .ix (.cons (.bor 0) (.cons (.op .ix (.cons (.bor 1) (.cons (.bor 2) .nil))) .nil))))   (.ite (.or (.op .not (.cons (.op (.isi [.tuple]) (.cons (.bor 3) .nil)) .nil)) (.or (.op .notin (.cons (.op .ix (.cons (.bor 1) (.cons (.op .add (.cons (.bor 2) (.cons (.cst (.int 1)) .nil))) .nil))) (.cons (.bor 3) .nil))) (.op .isin (.cons (.op .ix (.cons (.bor 1) (.cons (.bor 2) .nil))) (.cons (.op .sla (.cons (.bor 1) (.cons (.op .add (.cons (.bor 2) (.cons (.cst (.int 1)) .nil))) .nil))) .nil)))))  (.ret (.cst (.bool false)))  .skip)) [some (0, .tuple ds), some (0, .tuple (iD ns)), some (0, .int (k : Nat)), s3, none] = .ok .nx env2 ∧ ∃ s2 s3, env2 = [some (0, .tuple ds), some (0, .tuple (iD ns)), s2, s3, none]) ∧
    (wayT ds ns k = false → ∃ env2, evB (fun i => fnL[i]?) (fun i => glbL[i]?) (callN (fun i => fnL[i]?) (fun i => glbL[i]?) cls (n + 1)) cls [0, 0] (.seq (.set 3 (.op .ix (.cons (.bor 0) (.cons (.op .ix (.cons (.bor 1) (.cons (.bor 2) .nil))) .nil))))   (.ite (.or (.op .not (.cons (.op (.isi [.tuple]) (.cons (.bor 3) .nil)) .nil)) (.or (.op .notin (.cons (.op .ix (.cons (.bor 1) (.cons (.op .add (.cons (.bor 2) (.cons (.cst (.int 1)) .nil))) .nil))) (.cons (.bor 3) .nil))) (.op .isin (.cons (.op .ix (.cons (.bor 1) (.cons (.bor 2) .nil))) (.cons (.op .sla (.cons (.bor 1) (.cons (.op .add (.cons (.bor 2) (.cons (.cst (.int 1)) .nil))) .nil))) .nil)))))  (.ret (.cst (.bool false)))  .skip)) [some (0, .tuple ds), some (0, .tuple (iD ns)), some (0, .int (k : Nat)), s3, none] = .ok (.rt (0, .bool false)) env2) := by
  obtain ⟨a, c, r, e1, e2, e3, e4⟩ := drop_two hk
  have hT : wayT ds ns k = (decide (c ∈ rowAt ds a) && !decide (a ∈ c :: r)) := by unfold wayT; rw [e1]
  rw [hT]
  obtain ⟨h0, h1⟩ := hb a (List.mem_of_getElem? e2)
  obtain ⟨i, rfl⟩ := Int.eq_ofNat_of_zero_le h0
  have hi : i < ds.length := by omega
  have hk' : ds[i]? = some ds[i] := by simp [hi]
  have hr : rowAt ds (i : Int) = rowI ds[i] := by
    unfold rowAt
    rw [Int.toNat_natCast, List.getD_eq_getElem?_getD, hk']
    rfl
  have q0 : ixAt ds (i : Int) = some ds[i] := by
    unfold ixAt
    rw [if_pos (by omega), Int.toNat_natCast]
    exact hk'
  have q1 : ixAt (iD ns) (k : Int) = some (.int (i : Nat)) := by
    unfold ixAt
    rw [if_pos (by omega), Int.toNat_natCast, List.getElem?_map, e2]
    rfl
  have q2 : ixAt (iD ns) ((k : Int) + 1) = some (.int c) := by
    unfold ixAt
    rw [if_pos (by omega), show ((k : Int) + 1).toNat = k + 1 by omega, List.getElem?_map, e3]
    rfl
  have q3 : cutD (iD ns) (some ((k : Int) + 1)) none = iD (c :: r) := by
    have := cutk ns (k + 1) (by omega)
    rw [e4] at this
    exact this
  have q4 : inD (.int (i : Nat)) (iD (c :: r)) = decide ((i : Int) ∈ c :: r) := inD_iD
  have q5 := okAll_iD (c :: r)
  have hm := H i ds[i] hk'
  rw [hr]
  generalize iD (c :: r) = rest at q3 q4 q5
  generalize iD ns = xs at q1 q2 q3 ⊢
  generalize decide ((i : Int) ∈ c :: r) = u at q4 ⊢
  unfold evB
  rcases hm with ⟨j, hj⟩ | ⟨ms, hj, _⟩
  · rw [hj] at q0 ⊢
    simp [↓evFor, ↓evComp, ↓evComp2, run, startE, evS, ev, oneS, oneKD, R.bind, opR, itemsKD, itemKD, getS, semOp, sem1, sem2, sem3, sIx, sGt, sLt, sLe, sAdd, sSub, sMul, sFdiv, sMod, sAbs, sInt, sLen, lowerItems, lowerS, truth, freshOp, free, maskO, ixPos, callR, argsFor, outsTo, slotsOf, freezeS, setS, ksD, iterOf, slotsP, isTy, q0, q1, rowI]
  · rw [hj] at q0 ⊢
    have q6 : inD (.int c) (iD ms) = decide (c ∈ rowI (.tuple (iD ms))) := by
      rw [inD_iD]
      show _ = decide (c ∈ (iD ms).filterMap intQ)
      rw [fm_iD]
    have q7 := okAll_iD ms
    generalize decide (c ∈ rowI (.tuple (iD ms))) = v at q6 ⊢
    generalize iD ms = ys at q0 q6 q7
    cases v <;> cases u <;>
    simp [↓evFor, ↓evComp, ↓evComp2, run, startE, evS, ev, oneS, oneKD, R.bind, opR, itemsKD, itemKD, getS, semOp, sem1, sem2, sem3, sIx, sGt, sLt, sLe, sAdd, sSub, sMul, sFdiv, sMod, sAbs, sInt, sLen, lowerItems, lowerS, truth, freshOp, free, maskO, ixPos, callR, argsFor, outsTo, slotsOf, freezeS, setS, ksD, iterOf, slotsP, isTy, q0, q1, q2, q3, q4, q5, q6, q7, sIn, okD_int, sCut, cutOf, -List.all_eq_true]
theorem way_ok (n : Nat) {ds : List D} (H : Mems ds) (d : D) (hok : okD d = true) (hz : ∀ xs, d = .tuple xs → xs.length < 64) : cN cls (n + 2) 23 [(0, .tuple ds), (0, d)] = .ok (0, .bool (wayB ds d)) [none, none] := by
  have ok0 : okD (.tuple []) = true := rfl
  have ok1 : okD (.list []) = true := rfl
  have ev1 : ∀ ys : List D, PyData.eqv (.tuple ys) (.tuple []) = ys.isEmpty := fun ys => by cases ys <;> simp [PyData.eqv, PyData.eqvAll]
  have ev2 : ∀ ys : List D, PyData.eqv (.list ys) (.list []) = ys.isEmpty := fun ys => by cases ys <;> simp [PyData.eqv, PyData.eqvAll]
  rw [callN_succ f23]
  cases d with
  | tuple xs =>
    have hz := hz xs rfl
    by_cases he : xs = []
    · subst he
      simp [b23, ↓evFor, ↓evComp, ↓evComp2, run, startE, evS, ev, oneS, oneKD, R.bind, opR, itemsKD, itemKD, getS, semOp, sem1, sem2, sem3, sIx, ixAt, sGt, sLt, sLe, sAdd, sSub, sMul, sFdiv, sMod, sAbs, sInt, sLen, lowerItems, lowerS, truth, freshOp, free, maskO, ixPos, callR, argsFor, outsTo, slotsOf, freezeS, setS, ksD, iterOf, slotsP, isTy, sEq, ok0, ev1, mkTup, valsKD, szOk, maxLen, wayB]
    · have c1 := way_comp (cls := cls) n (ds := ds) (xs := xs)
      have okf := (okD_sub hok (ys := xs.filter fun d => !belowD ds.length d) fun d hd => (List.mem_filter.mp hd).1).1
      by_cases ha : xs.all (belowD ds.length) = true
      · have e := all_below ha
        obtain ⟨ns, hns⟩ : ∃ ns, xs.filterMap intQ = ns := ⟨_, rfl⟩
        rw [hns] at e
        have hb : ∀ a ∈ ns, 0 ≤ a ∧ a < ds.length := fun a hm => by
          have : PyData.int a ∈ xs := by rw [e]; exact List.mem_map.mpr ⟨a, hm, rfl⟩
          obtain ⟨i, hi, h1, h2⟩ := below_int (List.all_eq_true.mp ha _ this)
          cases hi
          exact ⟨h1, h2⟩
        have hf : (xs.filter fun d => !belowD ds.length d) = [] := List.filter_eq_nil_iff.mpr fun d hd => by simp [List.all_eq_true.mp ha d hd]
        rw [hf] at c1
        have hlen : xs.length = ns.length := by rw [e]; exact sl_iD ns
        have hp : 0 < xs.length := List.length_pos_iff.mpr he
        have hr : rng1 (.int ((xs.length : Int) - 1)) = some (rangeD 0 ((xs.length : Int) - 1)) := by
          have := rng1_nat (n := xs.length - 1) (by omega)
          rwa [show ((xs.length - 1 : Nat) : Int) = (xs.length : Int) - 1 by omega] at this
        have rget : ∀ {k : Nat} {d : D}, (rangeD 0 ((xs.length : Int) - 1))[k]? = some d → k < xs.length - 1 ∧ d = .int (k : Nat) := fun {k d} h => by
          rw [show (xs.length : Int) - 1 = ((xs.length - 1 : Nat) : Int) by omega] at h
          exact range_get h
        have rex : ∀ {k : Nat}, k < xs.length - 1 → (rangeD 0 ((xs.length : Int) - 1))[k]? = some (.int (k : Nat)) := fun {k} h => by
          rw [show (xs.length : Int) - 1 = ((xs.length - 1 : Nat) : Int) by omega, rangeD_nat, List.getElem?_map, List.getElem?_range h]
          rfl
        have key := for_all (p := .v 2) (kd := (0, .bool false)) (body := evB (fun i => fnL[i]?) (fun i => glbL[i]?) (callN (fun i => fnL[i]?) (fun i => glbL[i]?) cls (n + 1)) cls [0, 0] (.seq (.set 3 (.op .ix (.cons (.bor 0) (.cons (.op .ix (.cons (.bor 1) (.cons (.bor 2) .nil))) .nil))))   (.ite (.or (.op .not (.cons (.op (.isi [.tuple]) (.cons (.bor 3) .nil)) .nil)) (.or (.op .notin (.cons (.op .ix (.cons (.bor 1) (.cons (.op .add (.cons (.bor 2) (.cons (.cst (.int 1)) .nil))) .nil))) (.cons (.bor 3) .nil))) (.op .isin (.cons (.op .ix (.cons (.bor 1) (.cons (.bor 2) .nil))) (.cons (.op .sla (.cons (.bor 1) (.cons (.op .add (.cons (.bor 2) (.cons (.cst (.int 1)) .nil))) .nil))) .nil)))))  (.ret (.cst (.bool false)))  .skip)))
          (fun e => ∃ s2 s3, e = [some (0, .tuple ds), some (0, .tuple xs), s2, s3, none]) (fun k _ => wayT ds ns k) (rangeD 0 ((xs.length : Int) - 1)) 0 [some (0, .tuple ds), some (0, .tuple xs), none, none, none] ⟨none, none, rfl⟩ fun k d hk env hI => by
            obtain ⟨s2, s3, rfl⟩ := hI
            obtain ⟨hk, rfl⟩ := rget hk
            simp only [Nat.zero_add]
            have q := way_step (cls := cls) n (s3 := s3) H hb (k := k) (by omega)
            rw [← e] at q
            exact ⟨_, bind_v (by simp), q.1, q.2⟩
        have hwB : wayB ds (.tuple xs) = wayR ds ns := by
          have : xs.isEmpty = false := by
            cases xs with
            | nil => exact absurd rfl he
            | cons => rfl
          simp only [wayB, this, ha, hns, Bool.not_false, Bool.true_and]
        rw [hwB]
        rcases key with ⟨h1, e', h2, s2, s3, rfl⟩ | ⟨⟨k, d, h1, h2⟩, e', h3⟩
        · have hT : wayR ds ns = true := (way_iff ds ns).mp fun k hk => by
            have := h1 k _ (rex (k := k) (by omega))
            rwa [Nat.zero_add] at this
          simp [b23, ↓evFor, ↓evComp, ↓evComp2, run, startE, evS, ev, oneS, oneKD, R.bind, opR, itemsKD, itemKD, getS, semOp, sem1, sem2, sem3, sIx, ixAt, sGt, sLt, sLe, sAdd, sSub, sMul, sFdiv, sMod, sAbs, sInt, sLen, lowerItems, lowerS, truth, freshOp, free, maskO, ixPos, callR, argsFor, outsTo, slotsOf, freezeS, setS, ksD, iterOf, slotsP, isTy, sEq, ok0, ok1, ev1, ev2, hok, mkTup, valsKD, szOk, maxLen, mkLst, he, compR, condOf, wipeE, freezeAll, backE, iterSeq, seqOf, ksD_map, c1, hr, h2, hT, mask00]
        · have hF : wayR ds ns = false := by
            cases hq : wayR ds ns with
            | false => rfl
            | true =>
              have := (way_iff ds ns).mpr hq k (by have := (rget h1).1; omega)
              rw [Nat.zero_add, this] at h2
              cases h2
          simp [b23, ↓evFor, ↓evComp, ↓evComp2, run, startE, evS, ev, oneS, oneKD, R.bind, opR, itemsKD, itemKD, getS, semOp, sem1, sem2, sem3, sIx, ixAt, sGt, sLt, sLe, sAdd, sSub, sMul, sFdiv, sMod, sAbs, sInt, sLen, lowerItems, lowerS, truth, freshOp, free, maskO, ixPos, callR, argsFor, outsTo, slotsOf, freezeS, setS, ksD, iterOf, slotsP, isTy, sEq, ok0, ok1, ev1, ev2, hok, mkTup, valsKD, szOk, maxLen, mkLst, he, compR, condOf, wipeE, freezeAll, backE, iterSeq, seqOf, ksD_map, c1, hr, h3, hF, mask00]
      · simp only [Bool.not_eq_true] at ha
        have hne : (xs.filter fun d => !belowD ds.length d) ≠ [] := fun h => by
          have : xs.all (belowD ds.length) = true := List.all_eq_true.mpr fun d hd => by
            have := List.filter_eq_nil_iff.mp h d hd
            simpa using this
          rw [this] at ha
          cases ha
        have hq : PyData.eqv (.list (xs.filter fun d => !belowD ds.length d)) (.list []) = false := by
          rw [ev2]
          cases q : xs.filter fun d => !belowD ds.length d with
          | nil => exact absurd q hne
          | cons => rfl
        simp [b23, ↓evFor, ↓evComp, ↓evComp2, run, startE, evS, ev, oneS, oneKD, R.bind, opR, itemsKD, itemKD, getS, semOp, sem1, sem2, sem3, sIx, ixAt, sGt, sLt, sLe, sAdd, sSub, sMul, sFdiv, sMod, sAbs, sInt, sLen, lowerItems, lowerS, truth, freshOp, free, maskO, ixPos, callR, argsFor, outsTo, slotsOf, freezeS, setS, ksD, iterOf, slotsP, isTy, sEq, ok0, ok1, ev1, hok, okf, mkTup, valsKD, szOk, maxLen, mkLst, he, compR, condOf, wipeE, freezeAll, backE, iterSeq, seqOf, ksD_map, c1, hq, ha, wayB, mask00, -List.all_eq_true, -List.all_eq_false]
  | _ => simp [b23, ↓evFor, ↓evComp, ↓evComp2, run, startE, evS, ev, oneS, oneKD, R.bind, opR, itemsKD, itemKD, getS, semOp, sem1, sem2, sem3, sIx, ixAt, sGt, sLt, sLe, sAdd, sSub, sMul, sFdiv, sMod, sAbs, sInt, sLen, lowerItems, lowerS, truth, freshOp, free, maskO, ixPos, callR, argsFor, outsTo, slotsOf, freezeS, setS, ksD, iterOf, slotsP, isTy, wayB, mask00]
end PL.k01
end

section
set_option maxRecDepth 100000
namespace PL.k01
open PySem PL
variable {cls : Nat → Option ClsDef}
/-- may be laid, no deeper than k -/
def W (k : Nat) (d : D) : Prop := d.canLay0 = true ∧ d.depth ≤ k
theorem W.tup {k : Nat} {xs : List D} (h : ∀ d ∈ xs, W k d) : W (k + 1) (.tuple xs) := by
  refine ⟨(canLay_iff xs).mpr fun d hd => (h d hd).1, ?_⟩
  have := depth_le.mpr fun d hd => (h d hd).2
  simp only [PyData.depth]
  omega
theorem W.lst {k : Nat} {xs : List D} (h : ∀ d ∈ xs, W k d) : W (k + 1) (.list xs) := by
  refine ⟨(canLay_iff xs).mpr fun d hd => (h d hd).1, ?_⟩
  have := depth_le.mpr fun d hd => (h d hd).2
  simp only [PyData.depth]
  omega
theorem W.up {j k : Nat} {d : D} (h : W j d) (hk : j ≤ k) : W k d := ⟨h.1, Nat.le_trans h.2 hk⟩
theorem W.int (k : Nat) (i : Int) : W k (.int i) := ⟨rfl, Nat.zero_le _⟩
theorem W.row (k : Nat) (ns : List Int) : W (k + 1) (.tuple (iD ns)) := W.tup fun d hd => by
  obtain ⟨i, _, rfl⟩ := List.mem_map.mp hd
  exact .int k i
theorem W.ok {k : Nat} {d : D} (h : W k d) (hk : k ≤ 64) : okD d = true := by
  unfold okD
  simp only [Bool.and_eq_true, decide_eq_true_eq]
  exact ⟨h.1, Nat.le_trans h.2 hk⟩
/-- short if it is a tuple -/
def Sh (d : D) : Prop := ∀ xs, d = .tuple xs → xs.length < 64
theorem mem_W {N k : Nat} {d : D} (h : Mem N k d) : W 1 d := by
  rcases h with ⟨i, rfl⟩ | ⟨ns, rfl, _⟩
  · exact .int 1 i
  · exact .row 0 ns
theorem mems_in {ds : List D} (H : Mems ds) {d : D} (h : d ∈ ds) : ∃ k, Mem ds.length k d ∧ Sh d ∨ W 1 d := by
  obtain ⟨k, hk⟩ := List.mem_iff_getElem?.mp h
  exact ⟨k, .inr (mem_W (H k d hk))⟩
theorem mem_Sh {ds : List D} (H : Mems ds) (h6 : ds.length ≤ 6) {d : D} (h : d ∈ ds) : W 1 d ∧ Sh d := by
  obtain ⟨k, hk⟩ := List.mem_iff_getElem?.mp h
  refine ⟨mem_W (H k d hk), fun xs e => ?_⟩
  have := rowI_len H hk
  rcases H k d hk with ⟨i, rfl⟩ | ⟨ns, rfl, _⟩
  · cases e
  · cases e
    have hq : rowI (.tuple (iD ns)) = ns := fm_iD ns
    rw [hq] at this
    simp
    omega
def latL (xs us tl : List D) (f : Int) : List D := [.tuple (xs ++ [.int f]), .tuple us, .tuple tl, .tuple xs.reverse, .list xs, .tuple [.tuple xs], .int f, .bool (decide (f = 1)), .none, .str (PySem.Str.ofString "1"), .tuple [.str (PySem.Str.ofString f.repr)], .tuple (xs ++ [.bool true]), .tuple (xs ++ [.none])]
def bentL (ds hd tl2 d1 lat : List D) : List D := (lat.map fun bit => .tuple (hd ++ [bit] ++ tl2)) ++ [.list ds, .tuple hd, .tuple (ds ++ d1), .list (ds.map softM), .tuple [.tuple ds]]
theorem bent_comp {call : CallF} {ds hd tl2 lat : List D} {t own rows f : D} {j : Int} {k4 : Option KD} {a b c : Nat} (h1 : cutD ds none (some j) = hd) (h2 : cutD ds (some (j + 1)) none = tl2) (h3 : hd.length + 1 + tl2.length ≤ 1000) :
    compLoop 0 (.v 7) none (evX (fun i => fnL[i]?) (fun i => glbL[i]?) call (.op .add (.cons (.op .add (.cons (.op .slb (.cons (.bor 1) (.cons (.bor 5) .nil))) (.cons (.tup (.cons (.var 7) .nil)) .nil))) (.cons (.op .sla (.cons (.bor 1) (.cons (.op .add (.cons (.bor 5) (.cons (.cst (.int 1)) .nil))) .nil))) .nil)))) lat []
      [some (1, t), some (0, .tuple ds), some (0, own), some (0, rows), k4, some (0, .int j), some (0, f), none] = .ok (lat.map fun bit => .tuple (hd ++ [bit] ++ tl2)) [some (1, t), some (0, .tuple ds), some (0, own), some (0, rows), k4, some (0, .int j), some (0, f), none] := by
  refine comp_map (fun bit => .tuple (hd ++ [bit] ++ tl2)) _ fun d hd' => ?_
  refine ⟨_, 1, [some (1, t), some (0, .tuple ds), some (0, own), some (0, rows), k4, some (0, .int j), some (0, f), some (0, d)], bind_v (by simp), ?_, by decide, rfl⟩
  have z1 : hd.length + 1 ≤ 16777216 := by omega
  have z2 : hd.length + 1 + tl2.length ≤ 16777216 := by omega
  have z3 : hd.length + (tl2.length + 1) ≤ 16777216 := by omega
  unfold evX
  simp [↓evFor, ↓evComp, ↓evComp2, run, startE, evS, ev, oneS, oneKD, R.bind, opR, itemsKD, itemKD, getS, semOp, sem1, sem2, sem3, sIx, ixAt, sGt, sLt, sLe, sAdd, sSub, sMul, sFdiv, sMod, sAbs, sInt, sLen, lowerItems, lowerS, truth, freshOp, free, maskO, ixPos, callR, argsFor, outsTo, slotsOf, freezeS, setS, ksD, iterOf, slotsP, mkTup, valsKD, szOk, maxLen, sCut, cutOf, h1, h2, z1, z2, z3]
end PL.k01
end

section
set_option maxRecDepth 100000
namespace PL.k01
open PySem PL
variable {cls : Nat → Option ClsDef}
theorem str_small {f : Int} (h0 : -1 ≤ f) (h1 : f ≤ 7) : f.natAbs.log2 < 1920 ∧ W 0 (.str (PySem.Str.ofString f.repr)) := by
  have h : f = -1 ∨ f = 0 ∨ f = 1 ∨ f = 2 ∨ f = 3 ∨ f = 4 ∨ f = 5 ∨ f = 6 ∨ f = 7 := by omega
  rcases h with h | h | h | h | h | h | h | h | h <;> subst h <;> exact ⟨by decide +kernel, by decide +kernel, Nat.le_refl _⟩
theorem fit_of {k : Nat} {d : D} (h : W k d) (hk : k ≤ 64) (hs : ∀ xs, d = .tuple xs → ∀ e ∈ xs, Sh e) : Fit d := ⟨h.ok hk, fun ds e x hx xs hxs => hs ds e x hx xs hxs⟩
theorem lat_ok {ms : List Int} {f : Int} (h0 : -1 ≤ f) (h1 : f ≤ 7) (hm : ms.length ≤ 6) : ∀ d ∈ latL (iD ms) (iD (usort (ms ++ [f]))) (iD ms.tail) f, W 4 d ∧ Sh d := by
  have hs := (str_small h0 h1).2
  have ul := usort_len (ms ++ [f])
  have sh : ∀ {xs : List D}, xs.length < 64 → Sh (.tuple xs) := fun h xs e => by cases e; exact h
  have no : ∀ {d : D}, isTy .tuple d = false → Sh d := fun h xs e => by subst e; cases h
  have snoc : ∀ {d : D}, W 1 d → W 4 (.tuple (iD ms ++ [d])) := fun {d} h => W.up (W.tup (k := 1) fun e he => by
    rcases List.mem_append.mp he with he | he
    · obtain ⟨i, _, rfl⟩ := List.mem_map.mp he
      exact .int 1 i
    · simp at he
      subst he
      exact h) (by decide)
  intro d hd
  unfold latL at hd
  simp only [List.mem_cons, List.not_mem_nil, or_false] at hd
  rcases hd with h | h | h | h | h | h | h | h | h | h | h | h | h <;> subst h
  · exact ⟨snoc (.int 1 f), sh (by simp; omega)⟩
  · exact ⟨(W.row 0 _).up (by decide), sh (by simp at ul ⊢; omega)⟩
  · exact ⟨(W.row 0 _).up (by decide), sh (by simp; omega)⟩
  · refine ⟨?_, sh (by simp; omega)⟩
    have e : (iD ms).reverse = iD ms.reverse := by simp
    rw [e]
    exact (W.row 0 _).up (by decide)
  · refine ⟨W.up (W.lst (k := 0) fun e he => ?_) (by decide), no rfl⟩
    obtain ⟨i, _, rfl⟩ := List.mem_map.mp he
    exact .int 0 i
  · refine ⟨W.up (W.tup (k := 1) fun e he => ?_) (by decide), sh (by simp)⟩
    simp at he
    subst he
    exact .row 0 _
  · exact ⟨.int 4 f, no rfl⟩
  · exact ⟨⟨rfl, Nat.zero_le _⟩, no rfl⟩
  · exact ⟨⟨rfl, Nat.zero_le _⟩, no rfl⟩
  · exact ⟨⟨by decide +kernel, Nat.zero_le _⟩, no rfl⟩
  · refine ⟨W.up (W.tup (k := 0) fun e he => ?_) (by decide), sh (by simp)⟩
    simp at he
    subst he
    exact hs
  · exact ⟨snoc ⟨rfl, Nat.zero_le _⟩, sh (by simp; omega)⟩
  · exact ⟨snoc ⟨rfl, Nat.zero_le _⟩, sh (by simp; omega)⟩
theorem soft_W {d : D} (h : W 1 d) (hr : ∀ kvs, d ≠ .dict kvs) : W 1 (softM d) := by
  cases d with
  | tuple xs =>
    refine ⟨h.1, ?_⟩
    have := h.2
    simp only [PyData.depth, softM] at this ⊢
    exact this
  | dict kvs => exact absurd rfl (hr kvs)
  | _ => exact h
theorem bentL_fit {ds hd tl2 d1 lat : List D} (H : Mems ds) (h6 : ds.length ≤ 6) (hh : ∀ d ∈ hd, d ∈ ds) (ht : ∀ d ∈ tl2, d ∈ ds) (h1 : ∀ d ∈ d1, d ∈ ds) (hl : ∀ d ∈ lat, W 4 d ∧ Sh d) : ∀ o ∈ bentL ds hd tl2 d1 lat, Fit o := by
  have hm : ∀ d ∈ ds, W 4 d ∧ Sh d := fun d hd => ⟨(mem_Sh H h6 hd).1.up (by decide), (mem_Sh H h6 hd).2⟩
  have tupFit : ∀ {xs : List D}, (∀ d ∈ xs, W 4 d ∧ Sh d) → Fit (.tuple xs) := fun {xs} h => fit_of (k := 5) (W.tup fun d hd => (h d hd).1) (by decide) fun ys e d hd => by
    cases e
    exact (h d hd).2
  intro o ho
  unfold bentL at ho
  rcases List.mem_append.mp ho with ho | ho
  · obtain ⟨bit, hb, rfl⟩ := List.mem_map.mp ho
    refine tupFit fun d hd' => ?_
    rcases List.mem_append.mp hd' with hd' | hd'
    · rcases List.mem_append.mp hd' with hd' | hd'
      · exact hm d (hh d hd')
      · simp at hd'
        subst hd'
        exact hl _ hb
    · exact hm d (ht d hd')
  · simp only [List.mem_cons, List.not_mem_nil, or_false] at ho
    rcases ho with h | h | h | h | h <;> subst h
    · exact fit_of (k := 5) (W.lst fun d hd => (hm d hd).1) (by decide) fun ys e => by cases e
    · exact tupFit fun d hd => hm d (hh d hd)
    · refine tupFit fun d hd' => ?_
      rcases List.mem_append.mp hd' with hd' | hd'
      · exact hm d hd'
      · exact hm d (h1 d hd')
    · refine fit_of (k := 5) (W.lst (k := 4) fun d hd' => ?_) (by decide) fun ys e => by cases e
      obtain ⟨e, he, rfl⟩ := List.mem_map.mp hd'
      obtain ⟨k, hk⟩ := List.mem_iff_getElem?.mp he
      refine (soft_W (mem_W (H k e hk)) fun kvs q => ?_).up (by decide)
      subst q
      rcases H k _ hk with ⟨i, h⟩ | ⟨ns, h, _⟩ <;> cases h
    · refine fit_of (k := 7) (W.tup (k := 6) fun d hd' => ?_) (by decide) fun ys e d hd' => ?_
      · simp at hd'
        subst hd'
        exact W.up (W.tup fun d hd => (hm d hd).1) (by decide)
      · cases e
        simp at hd'
        subst hd'
        intro xs q
        cases q
        omega
end PL.k01
end

section
set_option maxRecDepth 100000
namespace PL.k01
open PySem PL
variable {cls : Nat → Option ClsDef}
theorem bent_ok (n : Nat) {x y z : Int} {ds : List D} (b : Bx x y z) (hz : z < 2 ^ 39) (H : Mems ds) (hne : ds ≠ []) (h6 : ds.length ≤ 6) :
    ∃ os k x' z', cN cls (n + 4) 24 [(1, bx x y z), (0, .tuple ds)] = .ok (k, .list os) [some (1, bx x' y z'), none] ∧ (∀ o ∈ os, Fit o) ∧ Bx x' y z' ∧ z' ≤ z + 2 := by
  have hp : 0 < ds.length := List.length_pos_iff.mpr hne
  obtain ⟨r, x1, z1, t1, t2, t3, b1, t4⟩ := take_ok (cls := cls) (n + 2) (m := (ds.length : Int)) b (by omega) (by omega) (by omega)
  obtain ⟨r2, x2, z2, t5, t6, t7, b2, t8⟩ := take_ok (cls := cls) (n + 2) (m := (ds.length : Int) + 2) b1 (by omega) (by omega) (by omega)
  obtain ⟨j, rfl⟩ := Int.eq_ofNat_of_zero_le t2
  have hj : j < ds.length := by omega
  obtain ⟨f, hf⟩ : ∃ f, r2 - 1 = f := ⟨_, rfl⟩
  have f0 : -1 ≤ f := by omega
  have f1' : f ≤ 7 := by omega
  have hlog := (str_small f0 f1').1
  have hk : ds[j]? = some ds[j] := by simp [hj]
  have hml := rowI_len H hk
  obtain ⟨ms, hms⟩ : ∃ ms, rowI ds[j] = ms := ⟨_, rfl⟩
  rw [hms] at hml
  have hix : ixAt ds (j : Int) = some ds[j] := by
    unfold ixAt
    rw [if_pos (by omega), Int.toNat_natCast]
    exact hk
  have hown : ev (fun i => fnL[i]?) (fun i => glbL[i]?) (callN (fun i => fnL[i]?) (fun i => glbL[i]?) cls (n + 3)) (.ite (.op (.isi [.tuple]) (.cons (.op .ix (.cons (.bor 1) (.cons (.bor 5) .nil))) .nil)) (.op .ix (.cons (.bor 1) (.cons (.bor 5) .nil))) (.tup .nil)) [some (1, bx x2 y z2), some (0, .tuple ds), none, none, none, some (0, .int (j : Nat)), some (0, .int f), none] = .ok [.val (0, .tuple (iD ms))] [some (1, bx x2 y z2), some (0, .tuple ds), none, none, none, some (0, .int (j : Nat)), some (0, .int f), none] := by
    rcases H j ds[j] hk with ⟨i, hi⟩ | ⟨ns, hi, _⟩
    · rw [hi] at hix hms
      have : ms = [] := hms.symm
      subst this
      simp [↓evFor, ↓evComp, ↓evComp2, run, startE, evS, ev, oneS, oneKD, R.bind, opR, itemsKD, itemKD, getS, semOp, sem1, sem2, sem3, sIx, sGt, sLt, sLe, sAdd, sSub, sMul, sFdiv, sMod, sAbs, sInt, sLen, lowerItems, lowerS, truth, freshOp, free, maskO, ixPos, callR, argsFor, outsTo, slotsOf, freezeS, setS, ksD, iterOf, slotsP, isTy, mkTup, valsKD, szOk, maxLen, hix]
    · rw [hi] at hix hms
      have : ns = ms := by rw [← hms]; exact (fm_iD ns).symm
      subst this
      simp [↓evFor, ↓evComp, ↓evComp2, run, startE, evS, ev, oneS, oneKD, R.bind, opR, itemsKD, itemKD, getS, semOp, sem1, sem2, sem3, sIx, sGt, sLt, sLe, sAdd, sSub, sMul, sFdiv, sMod, sAbs, sInt, sLen, lowerItems, lowerS, truth, freshOp, free, maskO, ixPos, callR, argsFor, outsTo, slotsOf, freezeS, setS, ksD, iterOf, slotsP, isTy, mkTup, valsKD, szOk, maxLen, hix]
  have hl := lists_hall (cls := cls) n (ds := ds) (N := ds.length) fun d hd => by
    obtain ⟨k, hk⟩ := List.mem_iff_getElem?.mp hd
    exact ⟨k, H k d hk⟩
  have hu := sUsort_iD (ns := ms ++ [f]) (by simp; omega)
  have hu : sUsort (iD ms ++ [.int f]) = some (iD (usort (ms ++ [f]))) := by
    rw [← hu]
    congr 1
    simp
  have hcut := cut1 ms
  obtain ⟨hd, hhd⟩ : ∃ hd, cutD ds none (some (j : Int)) = hd := ⟨_, rfl⟩
  obtain ⟨tl2, htl⟩ : ∃ tl2, cutD ds (some ((j : Int) + 1)) none = tl2 := ⟨_, rfl⟩
  obtain ⟨d1, hd1⟩ : ∃ d1, cutD ds none (some 1) = d1 := ⟨_, rfl⟩
  have cut_sub : ∀ {lo hi : Option Int} {l : List D}, cutD ds lo hi = l → (∀ d ∈ l, d ∈ ds) ∧ l.length ≤ ds.length := fun {lo hi l} h => by
    subst h
    unfold cutD
    refine ⟨fun d hd => List.mem_of_mem_drop (List.mem_of_mem_take hd), ?_⟩
    rw [List.length_take, List.length_drop]
    omega
  have s1 := cut_sub hhd
  have s2 := cut_sub htl
  have s3 := cut_sub hd1
  have hlat := lat_ok (ms := ms) f0 f1' (by omega)
  have fit := bentL_fit H h6 s1.1 s2.1 s3.1 hlat
  have hc := bent_comp (call := callN (fun i => fnL[i]?) (fun i => glbL[i]?) cls (n + 3)) (lat := latL (iD ms) (iD (usort (ms ++ [f]))) (iD ms.tail) f) (t := bx x2 y z2) (own := .tuple (iD ms)) (rows := .list (latL (iD ms) (iD (usort (ms ++ [f]))) (iD ms.tail) f)) (f := .int f) (k4 := none) (a := 0) (b := 0) (c := 0) hhd htl (by omega)
  have hxl : (iD ms).length + 1 ≤ 16777216 := by simp; omega
  have hdl : ds.length + d1.length ≤ 16777216 := by omega
  refine ⟨bentL ds hd tl2 d1 (latL (iD ms) (iD (usort (ms ++ [f]))) (iD ms.tail) f), 1, x2, z2, ?_, fit, b2, by omega⟩
  clear fit hlat
  rw [callN_succ f24]
  unfold latL at hc
  unfold bentL latL
  generalize iD (usort (ms ++ [f])) = us at hu hc ⊢
  generalize iD ms.tail = tl at hcut hc ⊢
  generalize iD ms = xs at hown hu hcut hc hxl ⊢
  simp [b24, ↓hown, f13, f16, ↓evFor, ↓evComp, ↓evComp2, run, startE, evS, ev, oneS, oneKD, R.bind, opR, itemsKD, itemKD, getS, semOp, sem1, sem2, sem3, sIx, sGt, sLt, sLe, sAdd, sSub, sMul, sFdiv, sMod, sAbs, sInt, sLen, lowerItems, lowerS, truth, freshOp, free, maskO, ixPos, callR, argsFor, outsTo, slotsOf, freezeS, setS, ksD, iterOf, slotsP, isTy, mkTup, valsKD, mkLst, szOk, maxLen, parSet, sEq, okD_int, eqv_int, sStr, sRev, sCut, cutOf, seqOf, iterSeq, compR, condOf, wipeE, freezeAll, backE, ksD_map, t1, t5, hf, hu, hcut, hlog, hxl, hdl, hhd, htl, hd1, hc, hl]
end PL.k01
end

section
set_option maxRecDepth 100000
namespace PL.k01
open PySem PL
variable {cls : Nat → Option ClsDef}
theorem trail_in (n : Nat) {x y z : Int} {ds fs : List D} {rs : List Int} {s3 s5 s6 s7 : Option KD} (b : Bx x y z) (hz : z < 2 ^ 39) (H : Mems ds) (h6 : ds.length ≤ 6) (hr : rs ≠ []) (hb : ∀ a ∈ rs, 0 ≤ a ∧ a < ds.length) (hl : rs.length ≤ 1000) :
    ∃ (x' z' a : Int) (s6' s7' : Option KD), evB (fun i => fnL[i]?) (fun i => glbL[i]?) (callN (fun i => fnL[i]?) (fun i => glbL[i]?) cls (n + 2)) cls [1, 0] (.seq (.set 6 (.op .ix (.cons (.bor 1) (.cons (.op .ix (.cons (.bor 4) (.cons (.op .neg (.cons (.cst (.int 1)) .nil)) .nil))) .nil))))   (.seq (.set 7 (.ite (.and (.op (.isi [.tuple]) (.cons (.bor 6) .nil)) (.op .gt (.cons (.call 13 (.cons (.bor 0) (.cons (.cst (.int 6)) .nil))) (.cons (.cst (.int 0)) .nil)))) (.op .list (.cons (.bor 6) .nil)) (.op .listRange1 (.cons (.op .len (.cons (.bor 1) .nil)) .nil))))   (.append 4 (.call 17 (.cons (.bor 0) (.cons (.var 7) .nil)))))) [some (1, bx x y z), some (0, .tuple ds), some (1, .list fs), s3, some (1, .list (iD rs)), s5, s6, s7] = .ok .nx [some (1, bx x' y z'), some (0, .tuple ds), some (1, .list fs), s3, some (1, .list (iD (rs ++ [a]))), s5, s6', s7'] ∧ Bx x' y z' ∧ z' ≤ z + 2 ∧ 0 ≤ a ∧ a < ds.length := by
  have hg := hb (rs.getLast hr) (List.getLast_mem hr)
  obtain ⟨i, hi⟩ := Int.eq_ofNat_of_zero_le hg.1
  rw [hi] at hg
  have hil : i < ds.length := by omega
  have hk : ds[i]? = some ds[i] := by simp [hil]
  have q0 : ixAt (iD rs) (-1) = some (.int (i : Nat)) := by
    rw [ix_neg1 (by simp [hr])]
    congr 1
    show (List.map PyData.int rs).getLast _ = _
    rw [List.getLast_map, hi]
  have q1 : ixAt ds (i : Int) = some ds[i] := by
    unfold ixAt
    rw [if_pos (by omega), Int.toNat_natCast]
    exact hk
  have hrg := rng1_nat (n := ds.length) (by omega)
  have rmem : ∀ v ∈ rangeD 0 (ds.length : Int), ∃ a : Int, v = .int a ∧ 0 ≤ a ∧ a < ds.length := fun v hv => by
    obtain ⟨k, hk⟩ := List.mem_iff_getElem?.mp hv
    obtain ⟨h1, rfl⟩ := range_get hk
    exact ⟨k, rfl, by omega, by omega⟩
  have rlen : (rangeD 0 (ds.length : Int)).length = ds.length := by rw [rangeD_nat]; simp
  have rne : rangeD 0 (ds.length : Int) ≠ [] := fun h => by
    rw [h] at rlen
    simp at rlen
    omega
  have hm : rs.length < 16777216 := by omega
  have fin : ∀ a : Int, iD (rs ++ [a]) = iD rs ++ [.int a] := fun a => by simp
  rcases H i ds[i] hk with ⟨c, hc⟩ | ⟨ns, hc, hn, hp, hq⟩
  · rw [hc] at q1
    obtain ⟨v, x2, z2, t1, t2, t3, t4⟩ := of_ok (cls := cls) n (xs := rangeD 0 (ds.length : Int)) b (by omega) rne (by omega)
    obtain ⟨a, rfl, a0, a1⟩ := rmem v t2
    refine ⟨x2, z2, a, some (0, .int c), some (0, .list (rangeD 0 (ds.length : Int))), ?_, t3, by omega, a0, a1⟩
    rw [fin]
    have hm2 : (iD rs).length < 16777216 := by simpa using hm
    generalize iD rs = xs at q0 hm2 ⊢
    unfold evB
    simp [f17, ↓evFor, ↓evComp, ↓evComp2, run, startE, evS, ev, oneS, oneKD, R.bind, opR, itemsKD, itemKD, getS, semOp, sem1, sem2, sem3, sIx, sGt, sLt, sLe, sAdd, sSub, sMul, sFdiv, sMod, sAbs, sInt, sLen, lowerItems, lowerS, truth, freshOp, free, maskO, ixPos, callR, argsFor, outsTo, slotsOf, freezeS, setS, ksD, iterOf, slotsP, isTy, sNeg, seqOf, maxLen, q0, q1, hrg, t1, hm2]
  · rw [hc] at q1
    obtain ⟨r, x1, z1, t1, t2, t3, b1, t4⟩ := take_ok (cls := cls) (n + 1) (m := 6) b (by omega) (by omega) (by omega)
    by_cases h0 : 0 < r
    · have nl := rowI_len H hk
      rw [hc] at nl
      have hq2 : rowI (.tuple (iD ns)) = ns := fm_iD ns
      rw [hq2] at nl
      obtain ⟨v, x2, z2, t5, t6, t7, t8⟩ := of_ok (cls := cls) n (xs := iD ns) b1 (by omega) (by simp [hn]) (by simp; omega)
      obtain ⟨a, ha, rfl⟩ := List.mem_map.mp t6
      refine ⟨x2, z2, a, some (0, .tuple (iD ns)), some (0, .list (iD ns)), ?_, t7, by omega, (hq a ha).1, (hq a ha).2.1⟩
      rw [fin]
      have hm2 : (iD rs).length < 16777216 := by simpa using hm
      generalize iD rs = xs at q0 hm2 ⊢
      generalize iD ns = ys at q1 t5 ⊢
      unfold evB
      simp [f13, f17, ↓evFor, ↓evComp, ↓evComp2, run, startE, evS, ev, oneS, oneKD, R.bind, opR, itemsKD, itemKD, getS, semOp, sem1, sem2, sem3, sIx, sGt, sLt, sLe, sAdd, sSub, sMul, sFdiv, sMod, sAbs, sInt, sLen, lowerItems, lowerS, truth, freshOp, free, maskO, ixPos, callR, argsFor, outsTo, slotsOf, freezeS, setS, ksD, iterOf, slotsP, isTy, sNeg, seqOf, maxLen, q0, q1, t1, h0, t5, hm2]
    · obtain ⟨v, x2, z2, t5, t6, t7, t8⟩ := of_ok (cls := cls) n (xs := rangeD 0 (ds.length : Int)) b1 (by omega) rne (by omega)
      obtain ⟨a, rfl, a0, a1⟩ := rmem v t6
      refine ⟨x2, z2, a, some (0, .tuple (iD ns)), some (0, .list (rangeD 0 (ds.length : Int))), ?_, t7, by omega, a0, a1⟩
      rw [fin]
      have hm2 : (iD rs).length < 16777216 := by simpa using hm
      generalize iD rs = xs at q0 hm2 ⊢
      generalize iD ns = ys at q1 ⊢
      unfold evB
      simp [f13, f17, ↓evFor, ↓evComp, ↓evComp2, run, startE, evS, ev, oneS, oneKD, R.bind, opR, itemsKD, itemKD, getS, semOp, sem1, sem2, sem3, sIx, sGt, sLt, sLe, sAdd, sSub, sMul, sFdiv, sMod, sAbs, sInt, sLen, lowerItems, lowerS, truth, freshOp, free, maskO, ixPos, callR, argsFor, outsTo, slotsOf, freezeS, setS, ksD, iterOf, slotsP, isTy, sNeg, seqOf, maxLen, q0, q1, hrg, t1, h0, t5, hm2]
end PL.k01
end

section
set_option maxRecDepth 100000
namespace PL.k01
open PySem PL
variable {cls : Nat → Option ClsDef}
def Trail (ds : List D) (d : D) : Prop := ∃ rs : List Int, d = .tuple (iD rs) ∧ rs.length ≤ 6
theorem trail_out (n : Nat) {x y z : Int} {ds fs : List D} {s3 s4 s5 s6 s7 : Option KD} (b : Bx x y z) (hz : z < 2 ^ 38) (H : Mems ds) (hne : ds ≠ []) (h6 : ds.length ≤ 6) (hf : fs.length < 1000) :
    ∃ (x' z' : Int) (t : D) (s4' s5' s6' s7' : Option KD), evB (fun i => fnL[i]?) (fun i => glbL[i]?) (callN (fun i => fnL[i]?) (fun i => glbL[i]?) cls (n + 2)) cls [1, 0] (.seq (.set 4 (.lst 0 (.cons (.call 13 (.cons (.bor 0) (.cons (.op .len (.cons (.bor 1) .nil)) .nil))) .nil)))   (.seq (.for_ (.v 5) (.iter .range1 (.cons (.call 13 (.cons (.bor 0) (.cons (.cst (.int 5)) .nil))) .nil))  (.seq (.set 6 (.op .ix (.cons (.bor 1) (.cons (.op .ix (.cons (.bor 4) (.cons (.op .neg (.cons (.cst (.int 1)) .nil)) .nil))) .nil))))   (.seq (.set 7 (.ite (.and (.op (.isi [.tuple]) (.cons (.bor 6) .nil)) (.op .gt (.cons (.call 13 (.cons (.bor 0) (.cons (.cst (.int 6)) .nil))) (.cons (.cst (.int 0)) .nil)))) (.op .list (.cons (.bor 6) .nil)) (.op .listRange1 (.cons (.op .len (.cons (.bor 1) .nil)) .nil))))   (.append 4 (.call 17 (.cons (.bor 0) (.cons (.var 7) .nil)))))))   (.append 2 (.op .tuple (.cons (.bor 4) .nil))))) [some (1, bx x y z), some (0, .tuple ds), some (1, .list fs), s3, s4, s5, s6, s7] = .ok .nx [some (1, bx x' y z'), some (0, .tuple ds), some (1, .list (fs ++ [t])), s3, s4', s5', s6', s7'] ∧ Bx x' y z' ∧ z' ≤ z + 20 ∧ Trail ds t := by
  have hp : 0 < ds.length := List.length_pos_iff.mpr hne
  obtain ⟨r, x1, z1, t1, t2, t3, b1, t4⟩ := take_ok (cls := cls) (n + 1) (m := (ds.length : Int)) b (by omega) (by omega) (by omega)
  obtain ⟨r2, x2, z2, t5, t6, t7, b2, t8⟩ := take_ok (cls := cls) (n + 1) (m := 5) b1 (by omega) (by omega) (by omega)
  obtain ⟨q, rfl⟩ := Int.eq_ofNat_of_zero_le t6
  have hr : rng1 (.int (q : Int)) = some (rangeD 0 (q : Int)) := rng1_nat (by omega)
  have rl : (rangeD 0 (q : Int)).length = q := by rw [rangeD_nat]; simp
  have key := for_inv (p := .v 5) (body := evB (fun i => fnL[i]?) (fun i => glbL[i]?) (callN (fun i => fnL[i]?) (fun i => glbL[i]?) cls (n + 2)) cls [1, 0] (.seq (.set 6 (.op .ix (.cons (.bor 1) (.cons (.op .ix (.cons (.bor 4) (.cons (.op .neg (.cons (.cst (.int 1)) .nil)) .nil))) .nil))))   (.seq (.set 7 (.ite (.and (.op (.isi [.tuple]) (.cons (.bor 6) .nil)) (.op .gt (.cons (.call 13 (.cons (.bor 0) (.cons (.cst (.int 6)) .nil))) (.cons (.cst (.int 0)) .nil)))) (.op .list (.cons (.bor 6) .nil)) (.op .listRange1 (.cons (.op .len (.cons (.bor 1) .nil)) .nil))))   (.append 4 (.call 17 (.cons (.bor 0) (.cons (.var 7) .nil)))))))
    (fun k e => ∃ (x' z' : Int) (rs : List Int) (s5 s6 s7 : Option KD), e = [some (1, bx x' y z'), some (0, .tuple ds), some (1, .list fs), s3, some (1, .list (iD rs)), s5, s6, s7] ∧ Bx x' y z' ∧ z' ≤ z2 + 2 * k ∧ rs.length = 1 + k ∧ ∀ a ∈ rs, 0 ≤ a ∧ a < ds.length)
    (rangeD 0 (q : Int)) 0 [some (1, bx x2 y z2), some (0, .tuple ds), some (1, .list fs), s3, some (1, .list (iD [r])), s5, s6, s7] ⟨x2, z2, [r], s5, s6, s7, rfl, b2, by omega, rfl, fun a ha => by simp at ha; omega⟩ fun k d hk env hI => by
      obtain ⟨x3, z3, rs, u5, u6, u7, e1, e2, e3, e4, e5⟩ := hI
      obtain ⟨hk, rfl⟩ := range_get hk
      subst e1
      have hrs : rs ≠ [] := fun h => by rw [h] at e4; simp at e4; omega
      obtain ⟨x4, z4, a, v6, v7, w1, w2, w3, w4, w5⟩ := trail_in (cls := cls) n (fs := fs) (s3 := s3) (s5 := some (0, .int (k : Nat))) (s6 := u6) (s7 := u7) e2 (by omega) H h6 hrs e5 (by omega)
      refine ⟨_, _, bind_v (by simp), w1, x4, z4, rs ++ [a], some (0, .int (k : Nat)), v6, v7, rfl, w2, by omega, by simp; omega, fun c hc => ?_⟩
      rcases List.mem_append.mp hc with hc | hc
      · exact e5 c hc
      · simp at hc
        omega
  rw [rl, Nat.zero_add] at key
  obtain ⟨e', k1, x3, z3, rs, u5, u6, u7, rfl, k2, k3, k4, k5⟩ := key
  refine ⟨x3, z3, .tuple (iD rs), some (1, .list (iD rs)), u5, u6, u7, ?_, k2, by omega, rs, rfl, by omega⟩
  have hm2 : fs.length < 16777216 := by omega
  have e1 : iD [r] = [PyData.int r] := rfl
  rw [e1] at k1
  generalize iD rs = xs at k1 ⊢
  unfold evB
  simp [f13, ↓evFor, ↓evComp, ↓evComp2, run, startE, evS, ev, oneS, oneKD, R.bind, opR, itemsKD, itemKD, getS, semOp, sem1, sem2, sem3, sIx, ixAt, sGt, sLt, sLe, sAdd, sSub, sMul, sFdiv, sMod, sAbs, sInt, sLen, lowerItems, lowerS, truth, freshOp, free, maskO, ixPos, callR, argsFor, outsTo, slotsOf, freezeS, setS, ksD, iterOf, slotsP, mkLst, valsKD, szOk, maxLen, seqOf, ksD_map, t1, t5, hr, k1, hm2]
def trailL (ds a b c d : List D) : List D := [.tuple a, .tuple b, .tuple c, .tuple d, .tuple [], .tuple a.reverse, .tuple (b ++ [.int ds.length]), .tuple [.int (-1)], .list c, .tuple (d ++ [.none]), .none, .int 0]
theorem trails_ok (n : Nat) {x y z : Int} {ds : List D} (b : Bx x y z) (hz : z < 2 ^ 37) (H : Mems ds) (hne : ds ≠ []) (h6 : ds.length ≤ 6) :
    ∃ (os : List D) (x' z' : Int), cN cls (n + 3) 25 [(1, bx x y z), (0, .tuple ds)] = .ok (1, .list os) [some (1, bx x' y z'), none] ∧ (∀ o ∈ os, okD o = true ∧ Sh o) ∧ os.length ≤ 1000 ∧ Bx x' y z' ∧ z' ≤ z + 80 := by
  have hr : rng1 (.int 4) = some (rangeD 0 4) := rng1_nat (n := 4) (by omega)
  have key := for_inv (p := .v 3) (body := evB (fun i => fnL[i]?) (fun i => glbL[i]?) (callN (fun i => fnL[i]?) (fun i => glbL[i]?) cls (n + 2)) cls [1, 0] (.seq (.set 4 (.lst 0 (.cons (.call 13 (.cons (.bor 0) (.cons (.op .len (.cons (.bor 1) .nil)) .nil))) .nil)))   (.seq (.for_ (.v 5) (.iter .range1 (.cons (.call 13 (.cons (.bor 0) (.cons (.cst (.int 5)) .nil))) .nil))  (.seq (.set 6 (.op .ix (.cons (.bor 1) (.cons (.op .ix (.cons (.bor 4) (.cons (.op .neg (.cons (.cst (.int 1)) .nil)) .nil))) .nil))))   (.seq (.set 7 (.ite (.and (.op (.isi [.tuple]) (.cons (.bor 6) .nil)) (.op .gt (.cons (.call 13 (.cons (.bor 0) (.cons (.cst (.int 6)) .nil))) (.cons (.cst (.int 0)) .nil)))) (.op .list (.cons (.bor 6) .nil)) (.op .listRange1 (.cons (.op .len (.cons (.bor 1) .nil)) .nil))))   (.append 4 (.call 17 (.cons (.bor 0) (.cons (.var 7) .nil)))))))   (.append 2 (.op .tuple (.cons (.bor 4) .nil))))))
    (fun k e => ∃ (x' z' : Int) (fs : List D) (s3 s4 s5 s6 s7 : Option KD), e = [some (1, bx x' y z'), some (0, .tuple ds), some (1, .list fs), s3, s4, s5, s6, s7] ∧ Bx x' y z' ∧ z' ≤ z + 20 * k ∧ fs.length = k ∧ ∀ t ∈ fs, Trail ds t)
    (rangeD 0 4) 0 [some (1, bx x y z), some (0, .tuple ds), some (1, .list []), none, none, none, none, none] ⟨x, z, [], none, none, none, none, none, rfl, b, by omega, rfl, fun t h => absurd h List.not_mem_nil⟩ fun k d hk env hI => by
      obtain ⟨x3, z3, fs, u3, u4, u5, u6, u7, e1, e2, e3, e4, e5⟩ := hI
      obtain ⟨hk, rfl⟩ := range_get (n := 4) hk
      subst e1
      obtain ⟨x4, z4, t, v4, v5, v6, v7, w1, w2, w3, w4⟩ := trail_out (cls := cls) n (fs := fs) (s3 := some (0, .int (k : Nat))) (s4 := u4) (s5 := u5) (s6 := u6) (s7 := u7) e2 (by omega) H hne h6 (by omega)
      refine ⟨_, _, bind_v (by simp), w1, x4, z4, fs ++ [t], some (0, .int (k : Nat)), v4, v5, v6, v7, rfl, w2, by omega, by simp; omega, fun c hc => ?_⟩
      rcases List.mem_append.mp hc with hc | hc
      · exact e5 c hc
      · simp at hc
        subst hc
        exact w4
  obtain ⟨e', k1, x3, z3, fs, u3, u4, u5, u6, u7, rfl, k2, k3, k4, k5⟩ := key
  have l4 : (rangeD 0 4).length = 4 := by decide
  rw [l4] at k3 k4
  obtain ⟨ta, tb, tc, td, rfl⟩ : ∃ a b c d, fs = [a, b, c, d] := by
    match fs, k4 with
    | [a, b, c, d], _ => exact ⟨a, b, c, d, rfl⟩
  obtain ⟨ra, rfl, la⟩ := k5 ta (by simp)
  obtain ⟨rb, rfl, lb⟩ := k5 tb (by simp)
  obtain ⟨rc, rfl, lc⟩ := k5 tc (by simp)
  obtain ⟨rd, rfl, ld⟩ := k5 td (by simp)
  refine ⟨trailL ds (iD ra) (iD rb) (iD rc) (iD rd), x3, z3, ?_, fun o ho => ?_, by simp [trailL], k2, by omega⟩
  · have hb : (iD rb).length + 1 ≤ 16777216 := by simp; omega
    have hd : (iD rd).length + 1 ≤ 16777216 := by simp; omega
    unfold trailL
    generalize iD ra = xa at k1 ⊢
    generalize iD rb = xb at k1 hb ⊢
    generalize iD rc = xc at k1 ⊢
    generalize iD rd = xd at k1 hd ⊢
    rw [callN_succ f25]
    simp [b25, ↓evFor, ↓evComp, ↓evComp2, run, startE, evS, ev, oneS, oneKD, R.bind, opR, itemsKD, itemKD, getS, semOp, sem1, sem2, sem3, sIx, ixAt, sGt, sLt, sLe, sAdd, sSub, sMul, sFdiv, sMod, sAbs, sInt, sLen, lowerItems, lowerS, truth, freshOp, free, maskO, ixPos, callR, argsFor, outsTo, slotsOf, freezeS, setS, ksD, iterOf, slotsP, mkTup, valsKD, mkLst, szOk, maxLen, sNeg, sRev, seqOf, ksD_map, hr, k1, hb, hd]
    try rfl
  · unfold trailL at ho
    simp only [List.mem_cons, List.not_mem_nil, or_false] at ho
    have sh : ∀ {xs : List D}, xs.length < 64 → Sh (.tuple xs) := fun h xs e => by cases e; exact h
    have no : ∀ {d : D}, isTy .tuple d = false → Sh d := fun h xs e => by subst e; cases h
    have row : ∀ {rs : List Int}, rs.length ≤ 6 → okD (.tuple (iD rs)) = true ∧ Sh (.tuple (iD rs)) := fun {rs} h => ⟨(W.row 0 rs).ok (by decide), sh (by simp; omega)⟩
    rcases ho with h | h | h | h | h | h | h | h | h | h | h | h <;> subst h
    · exact row la
    · exact row lb
    · exact row lc
    · exact row ld
    · exact ⟨rfl, sh (by simp)⟩
    · have e : (iD ra).reverse = iD ra.reverse := by simp
      rw [e]
      exact row (by simp; exact la)
    · have e : iD rb ++ [PyData.int (ds.length : Int)] = iD (rb ++ [(ds.length : Int)]) := by simp
      rw [e]
      exact ⟨(W.row 0 _).ok (by decide), sh (by simp; omega)⟩
    · exact ⟨rfl, sh (by simp)⟩
    · exact ⟨(okD_iD rc).2, no rfl⟩
    · refine ⟨W.ok (k := 1) (W.tup fun d hd => ?_) (by decide), sh (by simp; omega)⟩
      rcases List.mem_append.mp hd with hd | hd
      · obtain ⟨i, _, rfl⟩ := List.mem_map.mp hd
        exact .int 0 i
      · simp at hd
        subst hd
        exact ⟨rfl, Nat.zero_le _⟩
    · exact ⟨rfl, no rfl⟩
    · exact ⟨rfl, no rfl⟩
end PL.k01
end

section
set_option maxRecDepth 100000
namespace PL.k01
open PySem PL
variable {cls : Nat → Option ClsDef}
/-! ### _law_case_right: its comprehensions -/
abbrev e16 (s0 s1 s2 s3 s4 s5 s6 s7 s8 s9 s10 s11 s12 s13 s14 s15 : Option KD) : Env := [s0, s1, s2, s3, s4, s5, s6, s7, s8, s9, s10, s11, s12, s13, s14, s15]
def isRowAt (ds : List D) : D → Bool
  | .int j => isRow (ds.getD j.toNat .none)
  | _ => false
theorem range_ask (ds : List D) : (rangeD 0 ds.length).filter (isRowAt ds) = iD (askI ds) ∧ (rangeD 0 ds.length).filter (fun d => !isRowAt ds d) = iD (firmI ds) := by
  have h1 := ixs_range isRow ds 0
  have h2 := ixs_range (fun d => !isRow d) ds 0
  rw [rangeD_nat]
  unfold askI firmI
  rw [← h1, ← h2, List.filter_map, List.filter_map]
  refine ⟨?_, ?_⟩ <;>
  · unfold iD
    rw [List.map_map]
    congr 1
    funext j
    simp
theorem cr_inner {call : CallF} {ds : List D} {s0 s2 s3 s4 s6 s7 s8 s9 s10 s11 s12 s13 s14 s15 : Option KD} : compLoop 0 (.v 5) (some (evX (fun i => fnL[i]?) (fun i => glbL[i]?) call (.op (.isi [.tuple]) (.cons (.op .ix (.cons (.bor 1) (.cons (.bor 5) .nil))) .nil)))) (evX (fun i => fnL[i]?) (fun i => glbL[i]?) call (.var 5)) (rangeD 0 ds.length) []
    (e16 s0 (some (0, .tuple ds)) s2 s3 s4 none s6 s7 s8 s9 s10 s11 s12 s13 s14 s15) = .ok (iD (askI ds)) (e16 s0 (some (0, .tuple ds)) s2 s3 s4 none s6 s7 s8 s9 s10 s11 s12 s13 s14 s15) := by
  rw [comp_pure (isRowAt ds) (fun d => d) _ [] fun d hd => ?_, (range_ask ds).1]
  · simp
  · obtain ⟨k, hk⟩ := List.mem_iff_getElem?.mp hd
    obtain ⟨hk2, rfl⟩ := range_get hk
    have q1 : ixAt ds (k : Int) = some ds[k] := by
      unfold ixAt
      rw [if_pos (by omega), Int.toNat_natCast]
      simp [hk2]
    have q2 : isRowAt ds (.int (k : Nat)) = isTy .tuple ds[k] := by
      show isRow (ds.getD (k : Int).toNat .none) = _
      rw [Int.toNat_natCast, List.getD_eq_getElem?_getD, List.getElem?_eq_getElem hk2]
      show isRow ds[k] = _
      cases ds[k] <;> rfl
    refine ⟨_, e16 s0 (some (0, .tuple ds)) s2 s3 s4 (some (0, .int (k : Nat))) s6 s7 s8 s9 s10 s11 s12 s13 s14 s15, bind_v (by simp), ?_, fun _ => ⟨0, e16 s0 (some (0, .tuple ds)) s2 s3 s4 (some (0, .int (k : Nat))) s6 s7 s8 s9 s10 s11 s12 s13 s14 s15, ?_, Nat.le_refl _, rfl⟩, fun _ => rfl⟩
    · rw [q2]
      unfold evX
      simp [testR, ↓evFor, ↓evComp, ↓evComp2, run, startE, evS, ev, oneS, oneKD, R.bind, opR, itemsKD, itemKD, getS, semOp, sem1, sem2, sem3, sIx, sGt, sLt, sLe, sAdd, sSub, sMul, sFdiv, sMod, sAbs, sInt, sLen, lowerItems, lowerS, truth, freshOp, free, maskO, ixPos, callR, argsFor, outsTo, slotsOf, freezeS, setS, ksD, iterOf, slotsP, q1]
    · unfold evX
      simp [↓evFor, ↓evComp, ↓evComp2, run, startE, evS, ev, oneS, oneKD, R.bind, opR, itemsKD, itemKD, getS, semOp, sem1, sem2, sem3, sIx, ixAt, sGt, sLt, sLe, sAdd, sSub, sMul, sFdiv, sMod, sAbs, sInt, sLen, lowerItems, lowerS, truth, freshOp, free, maskO, ixPos, callR, argsFor, outsTo, slotsOf, freezeS, setS, ksD, iterOf, slotsP]
theorem ask_in {ds : List D} {k : Nat} (hk : k < ds.length) : decide (((k : Nat) : Int) ∈ askI ds) = isRowAt ds (.int (k : Nat)) := by
  have h := (range_ask ds).1
  have hm : PyData.int (k : Nat) ∈ rangeD 0 ds.length := by
    rw [rangeD_nat]
    exact List.mem_map.mpr ⟨k, List.mem_range.mpr hk, rfl⟩
  have e : PyData.int (k : Nat) ∈ iD (askI ds) ↔ ((k : Nat) : Int) ∈ askI ds := by
    constructor
    · intro q
      obtain ⟨a, ha, he⟩ := List.mem_map.mp q
      cases he
      exact ha
    · exact fun q => List.mem_map.mpr ⟨_, q, rfl⟩
  rw [← h, List.mem_filter] at e
  cases hr : isRowAt ds (.int (k : Nat)) with
  | true => exact decide_eq_true (e.mp ⟨hm, hr⟩)
  | false =>
    refine decide_eq_false fun q => ?_
    have := (e.mpr q).2
    rw [hr] at this
    cases this
theorem cr_plain {call : CallF} {ds : List D} {s0 s1 s3 s4 s6 s7 s8 s9 s10 s11 s12 s13 s14 s15 : Option KD} : compLoop 0 (.v 5) (some (evX (fun i => fnL[i]?) (fun i => glbL[i]?) call (.op .notin (.cons (.bor 5) (.cons (.bor 2) .nil))))) (evX (fun i => fnL[i]?) (fun i => glbL[i]?) call (.var 5)) (rangeD 0 ds.length) []
    (e16 s0 s1 (some (0, .tuple (iD (askI ds)))) s3 s4 none s6 s7 s8 s9 s10 s11 s12 s13 s14 s15) = .ok (iD (firmI ds)) (e16 s0 s1 (some (0, .tuple (iD (askI ds)))) s3 s4 none s6 s7 s8 s9 s10 s11 s12 s13 s14 s15) := by
  rw [comp_pure (fun d => !isRowAt ds d) (fun d => d) _ [] fun d hd => ?_, (range_ask ds).2]
  · simp
  · obtain ⟨k, hk⟩ := List.mem_iff_getElem?.mp hd
    obtain ⟨hk2, rfl⟩ := range_get hk
    have q2 := ask_in hk2
    have q3 : inD (.int (k : Nat)) (iD (askI ds)) = isRowAt ds (.int (k : Nat)) := by rw [inD_iD, q2]
    have q4 := okAll_iD (askI ds)
    generalize iD (askI ds) = xs at q3 q4 ⊢
    refine ⟨_, e16 s0 s1 (some (0, .tuple xs)) s3 s4 (some (0, .int (k : Nat))) s6 s7 s8 s9 s10 s11 s12 s13 s14 s15, bind_v (by simp), ?_, fun _ => ⟨0, e16 s0 s1 (some (0, .tuple xs)) s3 s4 (some (0, .int (k : Nat))) s6 s7 s8 s9 s10 s11 s12 s13 s14 s15, ?_, Nat.le_refl _, rfl⟩, fun _ => rfl⟩
    · unfold evX
      simp [testR, ↓evFor, ↓evComp, ↓evComp2, run, startE, evS, ev, oneS, oneKD, R.bind, opR, itemsKD, itemKD, getS, semOp, sem1, sem2, sem3, sIx, ixAt, sGt, sLt, sLe, sAdd, sSub, sMul, sFdiv, sMod, sAbs, sInt, sLen, lowerItems, lowerS, truth, freshOp, free, maskO, ixPos, callR, argsFor, outsTo, slotsOf, freezeS, setS, ksD, iterOf, slotsP, sIn, okD_int, q3, q4, -List.all_eq_true]
    · unfold evX
      simp [↓evFor, ↓evComp, ↓evComp2, run, startE, evS, ev, oneS, oneKD, R.bind, opR, itemsKD, itemKD, getS, semOp, sem1, sem2, sem3, sIx, ixAt, sGt, sLt, sLe, sAdd, sSub, sMul, sFdiv, sMod, sAbs, sInt, sLen, lowerItems, lowerS, truth, freshOp, free, maskO, ixPos, callR, argsFor, outsTo, slotsOf, freezeS, setS, ksD, iterOf, slotsP]
/-- one row's pairs -/
theorem cr_row {call : CallF} {ds : List D} {k : Nat} {s0 s2 s3 s4 s6 s7 s8 s9 s10 s11 s12 s13 s15 : Option KD} (xs : List D) : compLoop 0 (.v 14) none (evX (fun i => fnL[i]?) (fun i => glbL[i]?) call (.tup (.cons (.var 5) (.cons (.var 14) .nil)))) xs []
    (e16 s0 (some (0, .tuple ds)) s2 s3 s4 (some (0, .int (k : Nat))) s6 s7 s8 s9 s10 s11 s12 s13 none s15) = .ok (xs.map fun g => .tuple [.int (k : Nat), g]) (e16 s0 (some (0, .tuple ds)) s2 s3 s4 (some (0, .int (k : Nat))) s6 s7 s8 s9 s10 s11 s12 s13 none s15) := by
  refine comp_map (fun g => .tuple [.int (k : Nat), g]) xs fun d hd => ?_
  refine ⟨_, 0, e16 s0 (some (0, .tuple ds)) s2 s3 s4 (some (0, .int (k : Nat))) s6 s7 s8 s9 s10 s11 s12 s13 (some (0, d)) s15, bind_v (by simp), ?_, Nat.le_refl _, rfl⟩
  unfold evX
  simp [↓evFor, ↓evComp, ↓evComp2, run, startE, evS, ev, oneS, oneKD, R.bind, opR, itemsKD, itemKD, getS, semOp, sem1, sem2, sem3, sIx, ixAt, sGt, sLt, sLe, sAdd, sSub, sMul, sFdiv, sMod, sAbs, sInt, sLen, lowerItems, lowerS, truth, freshOp, free, maskO, ixPos, callR, argsFor, outsTo, slotsOf, freezeS, setS, ksD, iterOf, slotsP, mkTup, valsKD, szOk, maxLen]
end PL.k01
end

section
set_option maxRecDepth 100000
namespace PL.k01
open PySem PL
variable {cls : Nat → Option ClsDef}
theorem pairF_len {ds : List D} (H : Mems ds) (h6 : ds.length ≤ 6) {d : D} (hd : d ∈ iD (askI ds)) : (pairF ds d).length ≤ 6 := by
  obtain ⟨a, ha, rfl⟩ := List.mem_map.mp hd
  obtain ⟨i, e, h1, rfl, h3⟩ := askI_mem ha
  show ((iD (rowI (ds.getD (i : Int).toNat .none))).map _).length ≤ 6
  rw [List.length_map, List.length_map, Int.toNat_natCast, List.getD_eq_getElem?_getD, h1]
  exact Nat.le_trans (rowI_len H h1) h6
theorem cr_pairs {call : CallF} {ds : List D} {s0 s2 s3 s5 s6 s7 s8 s9 s10 s11 s12 s13 s15 : Option KD} (H : Mems ds) (h6 : ds.length ≤ 6) :
    ∃ s5' : Option KD, forLoop (.v 5) (evB (fun i => fnL[i]?) (fun i => glbL[i]?) call cls [1, 0] (.set 4 (.op .add (.cons (.bor 4) (.cons (.comp 0 (.tup (.cons (.var 5) (.cons (.var 14) .nil))) (.v 14) (.iter .seq (.cons (.op .ix (.cons (.bor 1) (.cons (.bor 5) .nil))) .nil)) .nil) .nil))))) (iD (askI ds)) (e16 s0 (some (0, .tuple ds)) s2 s3 (some (1, .list [])) s5 s6 s7 s8 s9 s10 s11 s12 s13 none s15) = .ok .nx (e16 s0 (some (0, .tuple ds)) s2 s3 (some (1, .list (pairsD ds))) s5' s6 s7 s8 s9 s10 s11 s12 s13 none s15) := by
  have hal : (iD (askI ds)).length ≤ 6 := by
    have := ixs_len (P := isRow) (ds := ds) (k := 0)
    rw [List.length_map]
    exact Nat.le_trans this h6
  obtain ⟨e', h1, s5', rfl⟩ := for_inv (p := .v 5) (body := evB (fun i => fnL[i]?) (fun i => glbL[i]?) call cls [1, 0] (.set 4 (.op .add (.cons (.bor 4) (.cons (.comp 0 (.tup (.cons (.var 5) (.cons (.var 14) .nil))) (.v 14) (.iter .seq (.cons (.op .ix (.cons (.bor 1) (.cons (.bor 5) .nil))) .nil)) .nil) .nil)))))
    (fun k e => ∃ s5' : Option KD, e = e16 s0 (some (0, .tuple ds)) s2 s3 (some (1, .list (((iD (askI ds)).take k).flatMap (pairF ds)))) s5' s6 s7 s8 s9 s10 s11 s12 s13 none s15)
    (iD (askI ds)) 0 (e16 s0 (some (0, .tuple ds)) s2 s3 (some (1, .list [])) s5 s6 s7 s8 s9 s10 s11 s12 s13 none s15) ⟨s5, by simp⟩ fun k d hk env hI => by
      obtain ⟨t5, rfl⟩ := hI
      have hmem := List.mem_of_getElem? hk
      have hfl := pairF_len H h6 hmem
      have hkl := (List.getElem?_eq_some_iff.mp hk).1
      have hacc : (((iD (askI ds)).take (0 + k)).flatMap (pairF ds)).length ≤ k * 6 := by
        refine Nat.le_trans (flat_len (c := 6) fun x hx => pairF_len H h6 (List.mem_of_mem_take hx)) ?_
        rw [List.length_take]
        exact Nat.mul_le_mul_right 6 (by omega)
      have hstep : ((iD (askI ds)).take (0 + k + 1)).flatMap (pairF ds) = ((iD (askI ds)).take (0 + k)).flatMap (pairF ds) ++ pairF ds d := by
        rw [Nat.zero_add, List.take_succ, hk, List.flatMap_append]
        simp
      rw [hstep]
      generalize ((iD (askI ds)).take (0 + k)).flatMap (pairF ds) = acc at hacc ⊢
      obtain ⟨a, ha, rfl⟩ := List.mem_map.mp hmem
      obtain ⟨i, e, q1, rfl, q3⟩ := askI_mem ha
      have hp : pairF ds (.int (i : Nat)) = (iD (rowI e)).map fun g => PyData.tuple [.int (i : Nat), g] := by
        show (iD (rowI (ds.getD (i : Int).toNat .none))).map _ = _
        rw [Int.toNat_natCast, List.getD_eq_getElem?_getD, q1]
        rfl
      have q4 : ixAt ds (i : Int) = some (.tuple (iD (rowI e))) := by
        unfold ixAt
        rw [if_pos (by omega), Int.toNat_natCast, q1]
        rcases H i e q1 with ⟨c, rfl⟩ | ⟨ns, rfl, _⟩
        · cases q3
        · have : rowI (.tuple (iD ns)) = ns := fm_iD ns
          rw [this]
      rw [hp] at hfl ⊢
      have hc := cr_row (call := call) (ds := ds) (k := i) (s0 := s0) (s2 := s2) (s3 := s3) (s4 := some (1, .list acc)) (s6 := s6) (s7 := s7) (s8 := s8) (s9 := s9) (s10 := s10) (s11 := s11) (s12 := s12) (s13 := s13) (s15 := s15) (iD (rowI e))
      generalize iD (rowI e) = xs at q4 hc hfl ⊢
      rw [List.length_map] at hfl
      have z : acc.length + xs.length ≤ 16777216 := by omega
      refine ⟨_, e16 s0 (some (0, .tuple ds)) s2 s3 (some (1, .list (acc ++ xs.map fun g => PyData.tuple [.int (i : Nat), g]))) (some (0, .int (i : Nat))) s6 s7 s8 s9 s10 s11 s12 s13 none s15, bind_v (by simp), ?_, some (0, .int (i : Nat)), rfl⟩
      unfold evB
      simp only [e16] at hc
      simp [↓evFor, ↓evComp, ↓evComp2, run, startE, evS, ev, oneS, oneKD, R.bind, opR, itemsKD, itemKD, getS, semOp, sem1, sem2, sem3, sIx, sGt, sLt, sLe, sAdd, sSub, sMul, sFdiv, sMod, sAbs, sInt, sLen, lowerItems, lowerS, truth, freshOp, free, maskO, ixPos, callR, argsFor, outsTo, slotsOf, freezeS, setS, ksD, iterOf, slotsP, compR, condOf, wipeE, freezeAll, backE, iterSeq, ksD_map, szOk, maxLen, q4, hc, z]
  refine ⟨s5', ?_⟩
  rw [Nat.zero_add, List.take_length] at h1
  exact h1
end PL.k01
end

section
set_option maxRecDepth 100000
namespace PL.k01
open PySem PL
variable {cls : Nat → Option ClsDef}
theorem comp_mapI {m : Nat} {p : Pat} {elt : Env → R (List Item)} (I : Env → Prop) (g : D → D) : ∀ (ds acc : List D) (env : Env), I env →
    (∀ d ∈ ds, ∀ env, I env → ∃ env1 k env3, bindPat p d env = some env1 ∧ elt env1 = .ok [.val (k, g d)] env3 ∧ m ≤ k ∧ I (wipeE env3 (slotsP p))) →
    ∃ env', compLoop m p none elt ds acc env = .ok (acc ++ ds.map g) env' ∧ I env'
  | [], acc, env, h, _ => ⟨env, by simp [compLoop], h⟩
  | d :: ds, acc, env, h, st => by
    obtain ⟨e1, k, e3, b1, b2, b3, b4⟩ := st d List.mem_cons_self env h
    obtain ⟨e', r1, r2⟩ := comp_mapI I g ds (acc ++ [g d]) _ b4 fun x hx => st x (List.mem_cons_of_mem _ hx)
    refine ⟨e', ?_, r2⟩
    simp only [compLoop, b1, testR, b2, if_pos b3]
    rw [r1]
    simp
/-- who asks for j, off the pairs -/
theorem cr_near {call : CallF} {ds : List D} {j : Int} {k4 : Nat} {t : D} {s0 s1 s2 s3 s6 s7 s8 s9 s10 s11 s12 s13 : Option KD} : compLoop 0 (.cons (.v 15) (.cons (.v 14) .nil)) (some (evX (fun i => fnL[i]?) (fun i => glbL[i]?) call (.op .eq (.cons (.bor 14) (.cons (.bor 5) .nil))))) (evX (fun i => fnL[i]?) (fun i => glbL[i]?) call (.var 15)) (pairsD ds) []
    (e16 s0 s1 s2 s3 (some (0, t)) (some (0, .int j)) s6 s7 s8 s9 s10 s11 s12 s13 none none) = .ok (byD ds j) (e16 s0 s1 s2 s3 (some (0, t)) (some (0, .int j)) s6 s7 s8 s9 s10 s11 s12 s13 none none) := by
  rw [comp_pure (toM j) fstD (pairsD ds) [] fun d hd => ?_]
  · rfl
  · obtain ⟨a, g, rfl⟩ := pairs_mem hd
    refine ⟨_, e16 s0 s1 s2 s3 (some (0, t)) (some (0, .int j)) s6 s7 s8 s9 s10 s11 s12 s13 (some (0, .int g)) (some (0, .int a)), bind_pair (by simp) (by simp), ?_, fun _ => ⟨0, e16 s0 s1 s2 s3 (some (0, t)) (some (0, .int j)) s6 s7 s8 s9 s10 s11 s12 s13 (some (0, .int g)) (some (0, .int a)), ?_, Nat.le_refl _, rfl⟩, fun _ => rfl⟩
    · unfold evX
      simp [testR, ↓evFor, ↓evComp, ↓evComp2, run, startE, evS, ev, oneS, oneKD, R.bind, opR, itemsKD, itemKD, getS, semOp, sem1, sem2, sem3, sIx, ixAt, sGt, sLt, sLe, sAdd, sSub, sMul, sFdiv, sMod, sAbs, sInt, sLen, lowerItems, lowerS, truth, freshOp, free, maskO, ixPos, callR, argsFor, outsTo, slotsOf, freezeS, setS, ksD, iterOf, slotsP, sEq, okD_int, toM]
    · unfold evX
      simp [↓evFor, ↓evComp, ↓evComp2, run, startE, evS, ev, oneS, oneKD, R.bind, opR, itemsKD, itemKD, getS, semOp, sem1, sem2, sem3, sIx, ixAt, sGt, sLt, sLe, sAdd, sSub, sMul, sFdiv, sMod, sAbs, sInt, sLen, lowerItems, lowerS, truth, freshOp, free, maskO, ixPos, callR, argsFor, outsTo, slotsOf, freezeS, setS, ksD, iterOf, slotsP, fstD]
def byG (ds : List D) : D → D
  | .int j => .tuple (byD ds j)
  | _ => .none
theorem cr_by {call : CallF} {ds : List D} {n : Nat} {s0 s1 s2 s3 s6 s7 s8 s9 s10 s11 s12 s13 : Option KD} {k4 : Nat} :
    ∃ j4 : Nat, compLoop 0 (.v 5) none (evX (fun i => fnL[i]?) (fun i => glbL[i]?) call (.op .tuple (.cons (.comp 0 (.var 15) (.cons (.v 15) (.cons (.v 14) .nil)) (.iter .seq (.cons (.var 4) .nil)) (.op .eq (.cons (.bor 14) (.cons (.bor 5) .nil)))) .nil))) (rangeD 0 n) []
      (e16 s0 s1 s2 s3 (some (k4, .list (pairsD ds))) none s6 s7 s8 s9 s10 s11 s12 s13 none none) = .ok ((rangeD 0 n).map (byG ds)) (e16 s0 s1 s2 s3 (some (j4, .list (pairsD ds))) none s6 s7 s8 s9 s10 s11 s12 s13 none none) := by
  obtain ⟨e', h1, j4, rfl⟩ := comp_mapI (m := 0) (p := .v 5) (elt := evX (fun i => fnL[i]?) (fun i => glbL[i]?) call (.op .tuple (.cons (.comp 0 (.var 15) (.cons (.v 15) (.cons (.v 14) .nil)) (.iter .seq (.cons (.var 4) .nil)) (.op .eq (.cons (.bor 14) (.cons (.bor 5) .nil)))) .nil)))
    (fun e => ∃ j4 : Nat, e = e16 s0 s1 s2 s3 (some (j4, .list (pairsD ds))) none s6 s7 s8 s9 s10 s11 s12 s13 none none) (byG ds) (rangeD 0 n) [] (e16 s0 s1 s2 s3 (some (k4, .list (pairsD ds))) none s6 s7 s8 s9 s10 s11 s12 s13 none none) ⟨k4, rfl⟩ fun d hd env hI => by
      obtain ⟨j4, rfl⟩ := hI
      obtain ⟨k, hk⟩ := List.mem_iff_getElem?.mp hd
      obtain ⟨_, rfl⟩ := range_get hk
      have hc := cr_near (call := call) (ds := ds) (j := (k : Int)) (k4 := 0) (t := .list (pairsD ds)) (s0 := s0) (s1 := s1) (s2 := s2) (s3 := s3) (s6 := s6) (s7 := s7) (s8 := s8) (s9 := s9) (s10 := s10) (s11 := s11) (s12 := s12) (s13 := s13)
      have hb : byG ds (.int (k : Nat)) = .tuple (byD ds k) := rfl
      rw [hb]
      simp only [e16] at hc
      refine ⟨_, 0, e16 s0 s1 s2 s3 (some (0, .list (pairsD ds))) (some (0, .int (k : Nat))) s6 s7 s8 s9 s10 s11 s12 s13 none none, bind_v (by simp), ?_, Nat.le_refl _, 0, rfl⟩
      unfold evX
      simp [↓evFor, ↓evComp, ↓evComp2, run, startE, evS, ev, oneS, oneKD, R.bind, opR, itemsKD, itemKD, getS, semOp, sem1, sem2, sem3, sIx, ixAt, sGt, sLt, sLe, sAdd, sSub, sMul, sFdiv, sMod, sAbs, sInt, sLen, lowerItems, lowerS, truth, freshOp, free, maskO, ixPos, callR, argsFor, outsTo, slotsOf, freezeS, setS, ksD, iterOf, slotsP, compR, condOf, wipeE, freezeAll, backE, iterSeq, seqOf, ksD_map, hc]
  exact ⟨j4, by simpa using h1⟩
end PL.k01
end

section
set_option maxRecDepth 100000
namespace PL.k01
open PySem PL
variable {cls : Nat → Option ClsDef}
theorem cr_asked (n : Nat) {ds : List D} {s0 s2 s3 s4 s6 s7 s8 s9 s10 s11 s12 s13 s14 s15 : Option KD} (H : Mems ds) (h6 : ds.length ≤ 6) : compLoop 0 (.v 5) none (evX (fun i => fnL[i]?) (fun i => glbL[i]?) (callN (fun i => fnL[i]?) (fun i => glbL[i]?) cls (n + 4)) (.call 10 (.cons (.var 1) (.cons (.var 5) .nil)))) (rangeD 0 ds.length) []
    (e16 s0 (some (0, .tuple ds)) s2 s3 s4 none s6 s7 s8 s9 s10 s11 s12 s13 s14 s15) = .ok ((rangeD 0 ds.length).map (byG ds)) (e16 s0 (some (0, .tuple ds)) s2 s3 s4 none s6 s7 s8 s9 s10 s11 s12 s13 s14 s15) := by
  refine comp_map (byG ds) _ fun d hd => ?_
  obtain ⟨k, hk⟩ := List.mem_iff_getElem?.mp hd
  obtain ⟨hk2, rfl⟩ := range_get hk
  have hc := asked_yes (cls := cls) n false (m := (k : Int)) H h6 (by omega)
  have et : twin false ds = .tuple ds := rfl
  rw [et] at hc
  have hb : byG ds (.int (k : Nat)) = .tuple (byD ds k) := rfl
  rw [hb]
  refine ⟨_, 0, e16 s0 (some (0, .tuple ds)) s2 s3 s4 (some (0, .int (k : Nat))) s6 s7 s8 s9 s10 s11 s12 s13 s14 s15, bind_v (by simp), ?_, Nat.le_refl _, rfl⟩
  unfold evX
  simp [f10, ↓evFor, ↓evComp, ↓evComp2, run, startE, evS, ev, oneS, oneKD, R.bind, opR, itemsKD, itemKD, getS, semOp, sem1, sem2, sem3, sIx, ixAt, sGt, sLt, sLe, sAdd, sSub, sMul, sFdiv, sMod, sAbs, sInt, sLen, lowerItems, lowerS, truth, freshOp, free, maskO, ixPos, callR, argsFor, outsTo, slotsOf, freezeS, setS, ksD, iterOf, slotsP, hc]
theorem cr_council (n : Nat) {os : List D} {s0 s1 s2 s3 s4 s5 s6 s7 s8 s9 s10 s11 s12 s14 s15 : Option KD} : compLoop 0 (.v 13) none (evX (fun i => fnL[i]?) (fun i => glbL[i]?) (callN (fun i => fnL[i]?) (fun i => glbL[i]?) cls (n + 3)) (.call 4 (.cons (.var 13) .nil))) os []
    (e16 s0 s1 s2 s3 s4 s5 s6 s7 s8 s9 s10 s11 s12 none s14 s15) = .ok (os.map fun o => .bool (hallQ o)) (e16 s0 s1 s2 s3 s4 s5 s6 s7 s8 s9 s10 s11 s12 none s14 s15) := by
  refine comp_map (fun o => .bool (hallQ o)) _ fun d hd => ?_
  refine ⟨_, 0, e16 s0 s1 s2 s3 s4 s5 s6 s7 s8 s9 s10 s11 s12 (some (0, d)) s14 s15, bind_v (by simp), ?_, Nat.le_refl _, rfl⟩
  unfold evX
  simp [f4, ↓evFor, ↓evComp, ↓evComp2, run, startE, evS, ev, oneS, oneKD, R.bind, opR, itemsKD, itemKD, getS, semOp, sem1, sem2, sem3, sIx, ixAt, sGt, sLt, sLe, sAdd, sSub, sMul, sFdiv, sMod, sAbs, sInt, sLen, lowerItems, lowerS, truth, freshOp, free, maskO, ixPos, callR, argsFor, outsTo, slotsOf, freezeS, setS, ksD, iterOf, slotsP, council_q]
theorem cr_ishall (n : Nat) {os : List D} {s0 s1 s2 s3 s4 s5 s6 s7 s8 s9 s10 s11 s12 s14 s15 : Option KD} (hf : ∀ o ∈ os, Fit o) : compLoop 0 (.v 13) none (evX (fun i => fnL[i]?) (fun i => glbL[i]?) (callN (fun i => fnL[i]?) (fun i => glbL[i]?) cls (n + 2)) (.call 22 (.cons (.var 13) .nil))) os []
    (e16 s0 s1 s2 s3 s4 s5 s6 s7 s8 s9 s10 s11 s12 none s14 s15) = .ok (os.map fun o => .bool (hallQ o)) (e16 s0 s1 s2 s3 s4 s5 s6 s7 s8 s9 s10 s11 s12 none s14 s15) := by
  refine comp_map (fun o => .bool (hallQ o)) _ fun d hd => ?_
  have hc := ishall_q (cls := cls) n d (hf d hd)
  refine ⟨_, 0, e16 s0 s1 s2 s3 s4 s5 s6 s7 s8 s9 s10 s11 s12 (some (0, d)) s14 s15, bind_v (by simp), ?_, Nat.le_refl _, rfl⟩
  unfold evX
  simp [f22, ↓evFor, ↓evComp, ↓evComp2, run, startE, evS, ev, oneS, oneKD, R.bind, opR, itemsKD, itemKD, getS, semOp, sem1, sem2, sem3, sIx, ixAt, sGt, sLt, sLe, sAdd, sSub, sMul, sFdiv, sMod, sAbs, sInt, sLen, lowerItems, lowerS, truth, freshOp, free, maskO, ixPos, callR, argsFor, outsTo, slotsOf, freezeS, setS, ksD, iterOf, slotsP, hc]
theorem cr_road (n : Nat) {ds os : List D} {s0 s2 s3 s4 s5 s6 s7 s8 s9 s10 s11 s12 s14 s15 : Option KD} (H : Mems ds) (hf : ∀ o ∈ os, okD o = true ∧ Sh o) : compLoop 0 (.v 13) none (evX (fun i => fnL[i]?) (fun i => glbL[i]?) (callN (fun i => fnL[i]?) (fun i => glbL[i]?) cls (n + 3)) (.call 11 (.cons (.var 1) (.cons (.var 13) .nil)))) os []
    (e16 s0 (some (0, .tuple ds)) s2 s3 s4 s5 s6 s7 s8 s9 s10 s11 s12 none s14 s15) = .ok (os.map fun o => .bool (wayB ds o)) (e16 s0 (some (0, .tuple ds)) s2 s3 s4 s5 s6 s7 s8 s9 s10 s11 s12 none s14 s15) := by
  refine comp_map (fun o => .bool (wayB ds o)) _ fun d hd => ?_
  have hc := road_ok (cls := cls) n false H d (hf d hd).2
  have et : twin false ds = .tuple ds := rfl
  rw [et] at hc
  refine ⟨_, 0, e16 s0 (some (0, .tuple ds)) s2 s3 s4 s5 s6 s7 s8 s9 s10 s11 s12 (some (0, d)) s14 s15, bind_v (by simp), ?_, Nat.le_refl _, rfl⟩
  unfold evX
  simp [f11, ↓evFor, ↓evComp, ↓evComp2, run, startE, evS, ev, oneS, oneKD, R.bind, opR, itemsKD, itemKD, getS, semOp, sem1, sem2, sem3, sIx, ixAt, sGt, sLt, sLe, sAdd, sSub, sMul, sFdiv, sMod, sAbs, sInt, sLen, lowerItems, lowerS, truth, freshOp, free, maskO, ixPos, callR, argsFor, outsTo, slotsOf, freezeS, setS, ksD, iterOf, slotsP, hc]
theorem cr_way (n : Nat) {ds os : List D} {s0 s2 s3 s4 s5 s6 s7 s8 s9 s10 s11 s12 s14 s15 : Option KD} (H : Mems ds) (hf : ∀ o ∈ os, okD o = true ∧ Sh o) : compLoop 0 (.v 13) none (evX (fun i => fnL[i]?) (fun i => glbL[i]?) (callN (fun i => fnL[i]?) (fun i => glbL[i]?) cls (n + 2)) (.call 23 (.cons (.var 1) (.cons (.var 13) .nil)))) os []
    (e16 s0 (some (0, .tuple ds)) s2 s3 s4 s5 s6 s7 s8 s9 s10 s11 s12 none s14 s15) = .ok (os.map fun o => .bool (wayB ds o)) (e16 s0 (some (0, .tuple ds)) s2 s3 s4 s5 s6 s7 s8 s9 s10 s11 s12 none s14 s15) := by
  refine comp_map (fun o => .bool (wayB ds o)) _ fun d hd => ?_
  have hc := way_ok (cls := cls) n H d (hf d hd).1 (hf d hd).2
  refine ⟨_, 0, e16 s0 (some (0, .tuple ds)) s2 s3 s4 s5 s6 s7 s8 s9 s10 s11 s12 (some (0, d)) s14 s15, bind_v (by simp), ?_, Nat.le_refl _, rfl⟩
  unfold evX
  simp [f23, ↓evFor, ↓evComp, ↓evComp2, run, startE, evS, ev, oneS, oneKD, R.bind, opR, itemsKD, itemKD, getS, semOp, sem1, sem2, sem3, sIx, ixAt, sGt, sLt, sLe, sAdd, sSub, sMul, sFdiv, sMod, sAbs, sInt, sLen, lowerItems, lowerS, truth, freshOp, free, maskO, ixPos, callR, argsFor, outsTo, slotsOf, freezeS, setS, ksD, iterOf, slotsP, hc]
theorem cr_soft (n : Nat) {ds os : List D} {s0 s1 s2 s3 s4 s5 s6 s7 s8 s9 s10 s12 s14 s15 : Option KD} (H : Mems ds) (hf : ∀ o ∈ os, okD o = true ∧ Sh o) : compLoop 0 (.v 13) none (evX (fun i => fnL[i]?) (fun i => glbL[i]?) (callN (fun i => fnL[i]?) (fun i => glbL[i]?) cls (n + 3)) (.call 11 (.cons (.var 11) (.cons (.var 13) .nil)))) os []
    (e16 s0 s1 s2 s3 s4 s5 s6 s7 s8 s9 s10 (some (0, .list (ds.map softM))) s12 none s14 s15) = .ok (os.map fun o => .bool (wayB ds o)) (e16 s0 s1 s2 s3 s4 s5 s6 s7 s8 s9 s10 (some (0, .list (ds.map softM))) s12 none s14 s15) := by
  refine comp_map (fun o => .bool (wayB ds o)) _ fun d hd => ?_
  have hc := road_ok (cls := cls) n true H d (hf d hd).2
  have et : twin true ds = .list (ds.map softM) := rfl
  rw [et] at hc
  generalize ds.map softM = rows at hc ⊢
  refine ⟨_, 0, e16 s0 s1 s2 s3 s4 s5 s6 s7 s8 s9 s10 (some (0, .list rows)) s12 (some (0, d)) s14 s15, bind_v (by simp), ?_, Nat.le_refl _, rfl⟩
  unfold evX
  simp [f11, ↓evFor, ↓evComp, ↓evComp2, run, startE, evS, ev, oneS, oneKD, R.bind, opR, itemsKD, itemKD, getS, semOp, sem1, sem2, sem3, sIx, ixAt, sGt, sLt, sLe, sAdd, sSub, sMul, sFdiv, sMod, sAbs, sInt, sLen, lowerItems, lowerS, truth, freshOp, free, maskO, ixPos, callR, argsFor, outsTo, slotsOf, freezeS, setS, ksD, iterOf, slotsP, hc]
end PL.k01
end

section
set_option maxRecDepth 100000
namespace PL.k01
open PySem PL
variable {cls : Nat → Option ClsDef}
theorem sam_of : ∀ (n : Nat) (d : D), W n d → samD (n + 1) d = true
  | n, .none, _ => rfl
  | n, .bool _, _ => rfl
  | n, .int _, _ => rfl
  | n, .str x, h => by
    show okD (.str x) = true
    exact W.ok (k := 0) ⟨h.1, Nat.zero_le _⟩ (by decide)
  | n, .dict _, h => by
    have := h.1
    simp [PyData.canLay0] at this
  | 0, .list xs, h => by
    have := h.2
    simp only [PyData.depth] at this
    omega
  | 0, .tuple xs, h => by
    have := h.2
    simp only [PyData.depth] at this
    omega
  | n + 1, .list xs, h => by
    have h2 := h.2
    simp only [PyData.depth] at h2
    refine List.all_eq_true.mpr fun d hd => sam_of n d ⟨(canLay_iff xs).mp h.1 d hd, depth_le.mp (show PyData.depthAll xs ≤ n by omega) d hd⟩
  | n + 1, .tuple xs, h => by
    have h2 := h.2
    simp only [PyData.depth] at h2
    refine List.all_eq_true.mpr fun d hd => sam_of n d ⟨(canLay_iff xs).mp h.1 d hd, depth_le.mp (show PyData.depthAll xs ≤ n by omega) d hd⟩
theorem eqvAll_self : ∀ {xs : List D}, (∀ d ∈ xs, PyData.eqv d d = true) → PyData.eqvAll xs xs = true
  | [], _ => rfl
  | x :: xs, h => by
    simp only [PyData.eqvAll, Bool.and_eq_true]
    exact ⟨h x List.mem_cons_self, eqvAll_self fun d hd => h d (List.mem_cons_of_mem _ hd)⟩
theorem eqv_soft {ds : List D} (H : Mems ds) : PyData.eqv (.list (ds.map softM)) (.list (ds.map softM)) = true := by
  simp only [PyData.eqv]
  refine eqvAll_self fun d hd => ?_
  obtain ⟨e, he, rfl⟩ := List.mem_map.mp hd
  obtain ⟨k, hk⟩ := List.mem_iff_getElem?.mp he
  rcases H k e hk with ⟨i, rfl⟩ | ⟨ns, rfl, _⟩
  · simp [softM, PyData.eqv]
  · show PyData.eqv (.list (iD ns)) (.list (iD ns)) = true
    simp only [PyData.eqv]
    rw [eqvAll_iD]
    exact decide_eq_true rfl
end PL.k01
end

section
set_option maxRecDepth 100000
set_option maxHeartbeats 2000000
namespace PL.k01
open PySem PL
variable {cls : Nat → Option ClsDef}
theorem seqE {fns : Nat → Option FnDef} {glb : Nat → Option D} {call : CallF} {lk : List Nat} {a b : S} {env env1 : Env} (h : evS fns glb call cls lk a env = .ok .nx env1) : evS fns glb call cls lk (.seq a b) env = evS fns glb call cls lk b env1 := by
  show (evS fns glb call cls lk a env).bind _ = _
  rw [h]
  rfl
theorem run_rt {fns : Nat → Option FnDef} {glb : Nat → Option D} {call : CallF} {fd : FnDef} {args : List KD} {kd : KD} {env' : Env} (hl : args.length = fd.pm.length) (h : evS fns glb call cls fd.pm fd.body (startE fd args) = .ok (.rt kd) env') : run fns glb cls call fd args = .ok kd (maskO fd.pm env') := by
  unfold run
  rw [if_pos hl, h]
theorem incr_of : ∀ {ns : List Int}, ns.Pairwise (· < ·) → incr ns = true
  | [], _ => rfl
  | [a], _ => rfl
  | a :: b :: r, h => by
    obtain ⟨h1, h2⟩ := List.pairwise_cons.mp h
    show (decide (a < b) && incr (b :: r)) = true
    rw [incr_of h2, decide_eq_true (h1 b List.mem_cons_self)]
    rfl
theorem hallQ_hall {ds : List D} (H : Hall ds) : hallQ (.tuple ds) = true := by
  obtain ⟨hne, _, hm⟩ := H
  show (!ds.isEmpty && allK (memB ds.length) 0 ds) = true
  have h1 : ds.isEmpty = false := by cases ds with
    | nil => exact absurd rfl hne
    | cons => rfl
  rw [h1, allK_iff.mpr fun i d hi => ?_]
  · rfl
  · rcases hm i d hi with ⟨a, rfl⟩ | ⟨ns, rfl, h2, h3, h4⟩
    · rfl
    · show (!(iD ns).isEmpty && ((iD ns).all (belowD ds.length) && (incr ((iD ns).filterMap intQ) && !inD (.int ((0 + i : Nat) : Int)) (iD ns)))) = true
      have e1 : (iD ns).isEmpty = false := by cases ns with
        | nil => exact absurd rfl h2
        | cons => rfl
      have e2 : (iD ns).all (belowD ds.length) = true := List.all_eq_true.mpr fun d hd => by
        obtain ⟨a, ha, rfl⟩ := List.mem_map.mp hd
        obtain ⟨h5, h6, _⟩ := h4 a ha
        simp [belowD, h5, h6]
      have e3 : inD (.int ((0 + i : Nat) : Int)) (iD ns) = false := by
        rw [inD_iD]
        refine decide_eq_false fun hin => ?_
        have := (h4 _ hin).2.2
        simp at this
      rw [e1, e2, fm_iD, incr_of h3, e3]
      rfl
theorem hallQ_list (xs : List D) : hallQ (.list xs) = false := rfl
theorem case_ok (n : Nat) {x y z : Int} {ds : List D} (hcl : cls 0 = some ⟨"LookupError", some (PySem.Str.ofString "number")⟩) (b : Bx x y z) (hz : z < 2 ^ 36) (HH : Hall ds) :
    ∃ (x' z' : Int), cN cls (n + 6) 27 [(1, bx x y z), (0, .tuple ds)] = .ok (0, .bool true) [some (1, bx x' y z'), none] ∧ Bx x' y z' ∧ z' ≤ z + 100 := by
  have hQ := hallQ_hall HH
  obtain ⟨hne, h6, H⟩ := HH
  have H : Mems ds := H
  obtain ⟨os, kb, x1, z1, w1, w2, b1, w3⟩ := bent_ok (cls := cls) (n + 1) b (by omega) H hne h6
  obtain ⟨ts, x2, z2, u1, u2, u3, b2, u4⟩ := trails_ok (cls := cls) (n + 2) b1 (by omega) H hne h6
  refine ⟨x2, z2, ?_, b2, by omega⟩
  have hp : 0 < ds.length := List.length_pos_iff.mpr hne
  have hr : rng1 (.int (ds.length : Int)) = some (rangeD 0 (ds.length : Int)) := rng1_nat (by omega)
  have hl := lists_hall (cls := cls) (n + 2) (ds := ds) (N := ds.length) fun d hd => by
    obtain ⟨k, hk⟩ := List.mem_iff_getElem?.mp hd
    exact ⟨k, H k d hk⟩
  have a1 := askers_ok (cls := cls) (n + 3) false H
  have a2 := askers_ok (cls := cls) (n + 3) true H
  have g1 := firm_ok (cls := cls) (n + 3) false H
  have g2 := firm_ok (cls := cls) (n + 3) true H
  have c1 := arcs_ok (cls := cls) (n + 2) false H h6
  have c2 := arcs_ok (cls := cls) (n + 2) true H h6
  have d1 := asked_yes (cls := cls) (n + 1) true (m := (ds.length : Int) - 1) H h6 (by omega)
  have e1 := heard_no (cls := cls) n false (ds := ds) (m := (ds.length : Int)) hcl (by omega)
  have e2 := heard_no (cls := cls) n true (ds := ds) (m := -1) hcl (by omega)
  have t1 : twin false ds = .tuple ds := rfl
  have t2 : twin true ds = .list (ds.map softM) := rfl
  rw [t1] at a1 g1 c1 e1
  rw [t2] at a2 g2 c2 d1 e2
  have q1 := council_q (cls := cls) (n + 2) (.tuple ds)
  rw [hQ] at q1
  have q2 := council_q (cls := cls) (n + 2) (.list (ds.map softM))
  rw [hallQ_list] at q2
  have hq := eqv_soft H
  have oks : okD (.list (ds.map softM)) = true := W.ok (k := 2) (W.lst fun d hd => by
    obtain ⟨e, he, rfl⟩ := List.mem_map.mp hd
    obtain ⟨k, hk⟩ := List.mem_iff_getElem?.mp he
    rcases H k e hk with ⟨i, rfl⟩ | ⟨ns, rfl, _⟩
    · exact .int 1 i
    · exact W.lst (k := 0) fun d hd => by
        obtain ⟨i, _, rfl⟩ := List.mem_map.mp hd
        exact .int 0 i) (by decide)
  have WA : W 1 (.tuple (iD (askI ds))) := .row 0 _
  have WP : W 1 (.tuple (iD (firmI ds))) := .row 0 _
  have WQ : W 2 (.tuple (pairsD ds)) := .tup fun d hd => by
    obtain ⟨a, g, rfl⟩ := pairs_mem hd
    exact W.row 0 [a, g]
  have Wby : ∀ j, W 1 (.tuple (byD ds j)) := fun j => .tup fun d hd => by
    obtain ⟨e, he, rfl⟩ := List.mem_map.mp hd
    obtain ⟨a, g, rfl⟩ := pairs_mem ((List.mem_filter.mp he).1)
    exact .int 0 a
  have WB : ∀ d ∈ (rangeD 0 ds.length).map (byG ds), W 1 d := fun d hd => by
    obtain ⟨e, he, rfl⟩ := List.mem_map.mp hd
    obtain ⟨k, hk⟩ := List.mem_iff_getElem?.mp he
    obtain ⟨_, rfl⟩ := range_get hk
    exact Wby _
  have hB : ixAt ((rangeD 0 ds.length).map (byG ds)) (-1) = some (.tuple (byD ds ((ds.length : Int) - 1))) := by
    have hn : (rangeD 0 ds.length).map (byG ds) ≠ [] := by
      rw [rangeD_nat]
      simp
      intro h
      exact absurd h hne
    rw [ix_neg1 hn]
    congr 1
    rw [List.getLast_eq_getElem]
    simp only [rangeD_nat, List.getElem_map, List.getElem_range, List.length_map, List.length_range]
    show PyData.tuple (byD ds ((ds.length - 1 : Nat) : Int)) = _
    congr 2
    omega
  have k1 := fun s0 s2 s3 s4 s6 s7 s8 s9 s10 s11 s12 s13 s14 s15 => @cr_inner (callN (fun i => fnL[i]?) (fun i => glbL[i]?) cls (n + 5)) ds s0 s2 s3 s4 s6 s7 s8 s9 s10 s11 s12 s13 s14 s15
  have k2 := fun s0 s1 s3 s4 s6 s7 s8 s9 s10 s11 s12 s13 s14 s15 => @cr_plain (callN (fun i => fnL[i]?) (fun i => glbL[i]?) cls (n + 5)) ds s0 s1 s3 s4 s6 s7 s8 s9 s10 s11 s12 s13 s14 s15
  have k3 := fun s0 s2 s3 s5 s6 s7 s8 s9 s10 s11 s12 s13 s15 => @cr_pairs cls (callN (fun i => fnL[i]?) (fun i => glbL[i]?) cls (n + 5)) ds s0 s2 s3 s5 s6 s7 s8 s9 s10 s11 s12 s13 s15 H h6
  have k4 := fun s0 s1 s2 s3 s6 s7 s8 s9 s10 s11 s12 s13 k4 => @cr_by (callN (fun i => fnL[i]?) (fun i => glbL[i]?) cls (n + 5)) ds ds.length s0 s1 s2 s3 s6 s7 s8 s9 s10 s11 s12 s13 k4
  have k5 := fun s0 s2 s3 s4 s6 s7 s8 s9 s10 s11 s12 s13 s14 s15 => cr_asked (cls := cls) (n + 1) (ds := ds) (s0 := s0) (s2 := s2) (s3 := s3) (s4 := s4) (s6 := s6) (s7 := s7) (s8 := s8) (s9 := s9) (s10 := s10) (s11 := s11) (s12 := s12) (s13 := s13) (s14 := s14) (s15 := s15) H h6
  have k9 := fun s0 s1 s2 s3 s4 s5 s6 s7 s8 s9 s10 s12 s14 s15 => cr_soft (cls := cls) (n + 2) (ds := ds) (os := ts) (s0 := s0) (s1 := s1) (s2 := s2) (s3 := s3) (s4 := s4) (s5 := s5) (s6 := s6) (s7 := s7) (s8 := s8) (s9 := s9) (s10 := s10) (s12 := s12) (s14 := s14) (s15 := s15) H u2
  have k10 := fun s0 s2 s3 s4 s5 s6 s7 s8 s9 s10 s11 s12 s14 s15 => cr_road (cls := cls) (n + 2) (ds := ds) (os := ts) (s0 := s0) (s2 := s2) (s3 := s3) (s4 := s4) (s5 := s5) (s6 := s6) (s7 := s7) (s8 := s8) (s9 := s9) (s10 := s10) (s11 := s11) (s12 := s12) (s14 := s14) (s15 := s15) H u2
  have k11 := fun s0 s2 s3 s4 s5 s6 s7 s8 s9 s10 s11 s12 s14 s15 => cr_way (cls := cls) (n + 3) (ds := ds) (os := ts) (s0 := s0) (s2 := s2) (s3 := s3) (s4 := s4) (s5 := s5) (s6 := s6) (s7 := s7) (s8 := s8) (s9 := s9) (s10 := s10) (s11 := s11) (s12 := s12) (s14 := s14) (s15 := s15) H u2
  have k7 := fun s0 s1 s2 s3 s4 s5 s6 s7 s8 s9 s10 s11 s12 s14 s15 => cr_council (cls := cls) (n + 2) (os := os) (s0 := s0) (s1 := s1) (s2 := s2) (s3 := s3) (s4 := s4) (s5 := s5) (s6 := s6) (s7 := s7) (s8 := s8) (s9 := s9) (s10 := s10) (s11 := s11) (s12 := s12) (s14 := s14) (s15 := s15)
  have k8 := fun s0 s1 s2 s3 s4 s5 s6 s7 s8 s9 s10 s11 s12 s14 s15 => cr_ishall (cls := cls) (n + 3) (os := os) (s0 := s0) (s1 := s1) (s2 := s2) (s3 := s3) (s4 := s4) (s5 := s5) (s6 := s6) (s7 := s7) (s8 := s8) (s9 := s9) (s10 := s10) (s11 := s11) (s12 := s12) (s14 := s14) (s15 := s15) w2
  have m1 : ∀ d, W 3 d → cN cls (n + 5) 15 [(0, d), (0, d)] = .ok (0, .bool true) [none, none] := fun d hd => same_ok (n + 5) d (sam_of (n + 4) d (hd.up (by omega)))
  have WQl : ∀ ws : List Bool, W 3 (.list (ws.map PyData.bool)) := fun ws => W.up (W.lst (k := 0) fun d hd => by
    obtain ⟨b, _, rfl⟩ := List.mem_map.mp hd
    exact ⟨rfl, Nat.zero_le _⟩) (by decide)
  have m2 : ∀ (f : D → Bool) (l : List D), cN cls (n + 5) 15 [(0, .list (l.map fun o => .bool (f o))), (0, .list (l.map fun o => .bool (f o)))] = .ok (0, .bool true) [none, none] := fun f l => m1 _ (by
    have := WQl (l.map f)
    rw [List.map_map] at this
    exact this)
  have m3 : cN cls (n + 5) 15 [(0, .list ((ts.map fun o => PyData.bool (wayB ds o)) ++ (ts.map fun o => PyData.bool (wayB ds o)))), (0, .list ((ts.map fun o => PyData.bool (wayB ds o)) ++ (ts.map fun o => PyData.bool (wayB ds o))))] = .ok (0, .bool true) [none, none] := by
    rw [← List.map_append]
    exact m2 (wayB ds) (ts ++ ts)
  have sl := (ts.map fun o => PyData.bool (wayB ds o)).length
  have hts : (ts.map fun o => PyData.bool (wayB ds o)).length ≤ 1000 := by simpa using u3
  have m4 := m2 hallQ os
  generalize (ts.map fun o => PyData.bool (wayB ds o)) = tr at k9 k10 k11 m3 hts
  generalize (os.map fun o => PyData.bool (hallQ o)) = hr2 at k7 k8 m4
  generalize ds.map softM = sf at a2 g2 c2 d1 e2 hl hq oks k9 q2
  generalize iD (askI ds) = A at a1 a2 k1 k2 k3 WA
  generalize iD (firmI ds) = P at g1 g2 k2 WP
  generalize pairsD ds = Q at c1 c2 k3 k4 WQ
  generalize (rangeD 0 (ds.length : Int)).map (byG ds) = B at k4 k5 hB WB
  generalize byD ds ((ds.length : Int) - 1) = L at d1 hB
  have WL : W 1 (.tuple L) := by
    have hB1 : PyData.tuple L ∈ B := by
      unfold ixAt at hB
      rw [if_neg (by decide)] at hB
      split at hB
      · exact List.mem_of_getElem? hB
      · cases hB
    exact WB _ hB1
  simp only [e16] at k1 k2 k3 k4 k5 k7 k8 k9 k10 k11
  rw [callN_succ f27]
  suffices hE : ∃ E, evS (fun i => fnL[i]?) (fun i => glbL[i]?) (callN (fun i => fnL[i]?) (fun i => glbL[i]?) cls (n + 5)) cls [1, 0] b27 (e16 (some (1, bx x y z)) (some (0, .tuple ds)) none none none none none none none none none none none none none none) = .ok (.rt (0, .bool true)) E ∧ maskO [1, 0] E = [some (1, bx x2 y z2), none] by
    obtain ⟨E, hE1, hE2⟩ := hE
    rw [← hE2]
    exact run_rt (fd := ⟨[1, 0], 16, b27⟩) (args := [(1, bx x y z), (0, .tuple ds)]) (kd := (0, .bool true)) (env' := E) rfl hE1
  unfold b27
  rw [seqE (env1 := (e16 (some (1, bx x y z)) (some (0, .tuple ds)) none none none none none none none none none (some (1, .list sf)) (some (0, .int ds.length)) none none none)) (by simp [↓evFor, ↓evComp, ↓evComp2, run, startE, evS, ev, oneS, oneKD, R.bind, opR, itemsKD, itemKD, getS, semOp, sem1, sem2, sem3, sIx, sGt, sLt, sLe, sAdd, sSub, sMul, sFdiv, sMod, sAbs, sInt, sLen, lowerItems, lowerS, truth, freshOp, free, maskO, ixPos, callR, argsFor, outsTo, slotsOf, freezeS, setS, ksD, iterOf, slotsP, isTy, parSet, mkLst, valsKD, szOk, maxLen, sEq, seqOf, lstOf, iterSeq, compR, condOf, wipeE, freezeAll, backE, ksD_map, sNeg, permL, e16, f16, hl])]
  rw [seqE (env1 := (e16 (some (1, bx x y z)) (some (0, .tuple ds)) (some (0, .tuple A)) none none none none none none none none (some (1, .list sf)) (some (0, .int ds.length)) none none none)) (by simp [↓evFor, ↓evComp, ↓evComp2, run, startE, evS, ev, oneS, oneKD, R.bind, opR, itemsKD, itemKD, getS, semOp, sem1, sem2, sem3, sIx, sGt, sLt, sLe, sAdd, sSub, sMul, sFdiv, sMod, sAbs, sInt, sLen, lowerItems, lowerS, truth, freshOp, free, maskO, ixPos, callR, argsFor, outsTo, slotsOf, freezeS, setS, ksD, iterOf, slotsP, isTy, parSet, mkLst, valsKD, szOk, maxLen, sEq, seqOf, lstOf, iterSeq, compR, condOf, wipeE, freezeAll, backE, ksD_map, sNeg, permL, e16, hr, k1])]
  rw [seqE (env1 := (e16 (some (1, bx x y z)) (some (0, .tuple ds)) (some (0, .tuple A)) (some (0, .tuple P)) none none none none none none none (some (1, .list sf)) (some (0, .int ds.length)) none none none)) (by simp [↓evFor, ↓evComp, ↓evComp2, run, startE, evS, ev, oneS, oneKD, R.bind, opR, itemsKD, itemKD, getS, semOp, sem1, sem2, sem3, sIx, sGt, sLt, sLe, sAdd, sSub, sMul, sFdiv, sMod, sAbs, sInt, sLen, lowerItems, lowerS, truth, freshOp, free, maskO, ixPos, callR, argsFor, outsTo, slotsOf, freezeS, setS, ksD, iterOf, slotsP, isTy, parSet, mkLst, valsKD, szOk, maxLen, sEq, seqOf, lstOf, iterSeq, compR, condOf, wipeE, freezeAll, backE, ksD_map, sNeg, permL, e16, hr, k2])]
  rw [seqE (env1 := (e16 (some (1, bx x y z)) (some (0, .tuple ds)) (some (0, .tuple A)) (some (0, .tuple P)) (some (1, .list [])) none none none none none none (some (1, .list sf)) (some (0, .int ds.length)) none none none)) (by simp [↓evFor, ↓evComp, ↓evComp2, run, startE, evS, ev, oneS, oneKD, R.bind, opR, itemsKD, itemKD, getS, semOp, sem1, sem2, sem3, sIx, sGt, sLt, sLe, sAdd, sSub, sMul, sFdiv, sMod, sAbs, sInt, sLen, lowerItems, lowerS, truth, freshOp, free, maskO, ixPos, callR, argsFor, outsTo, slotsOf, freezeS, setS, ksD, iterOf, slotsP, isTy, parSet, mkLst, valsKD, szOk, maxLen, sEq, seqOf, lstOf, iterSeq, compR, condOf, wipeE, freezeAll, backE, ksD_map, sNeg, permL, e16, e16])]
  obtain ⟨s5, k3⟩ := k3 (some (1, bx x y z)) (some (0, .tuple A)) (some (0, .tuple P)) none none none none none none (some (1, .list sf)) (some (0, .int ds.length)) none none
  rw [seqE (env1 := (e16 (some (1, bx x y z)) (some (0, .tuple ds)) (some (0, .tuple A)) (some (0, .tuple P)) (some (1, .list Q)) s5 none none none none none (some (1, .list sf)) (some (0, .int ds.length)) none none none)) (by simp [↓evFor, ↓evComp, ↓evComp2, run, startE, evS, ev, oneS, oneKD, R.bind, opR, itemsKD, itemKD, getS, semOp, sem1, sem2, sem3, sIx, sGt, sLt, sLe, sAdd, sSub, sMul, sFdiv, sMod, sAbs, sInt, sLen, lowerItems, lowerS, truth, freshOp, free, maskO, ixPos, callR, argsFor, outsTo, slotsOf, freezeS, setS, ksD, iterOf, slotsP, isTy, parSet, mkLst, valsKD, szOk, maxLen, sEq, seqOf, lstOf, iterSeq, compR, condOf, wipeE, freezeAll, backE, ksD_map, sNeg, permL, e16, k3, slotsP, free])]
  obtain ⟨j4, k4⟩ := k4 (some (1, bx x y z)) (some (0, .tuple ds)) (some (0, .tuple A)) (some (0, .tuple P)) none none none none none (some (1, .list sf)) (some (0, .int ds.length)) none 1
  obtain ⟨t5, h6⟩ : ∃ t5, evS (fun i => fnL[i]?) (fun i => glbL[i]?) (callN (fun i => fnL[i]?) (fun i => glbL[i]?) cls (n + 5)) cls [1, 0] (.set 6 (.comp 0 (.op .tuple (.cons (.comp 0 (.var 15) (.cons (.v 15) (.cons (.v 14) .nil)) (.iter .seq (.cons (.var 4) .nil)) (.op .eq (.cons (.bor 14) (.cons (.bor 5) .nil)))) .nil)) (.v 5) (.iter .range1 (.cons (.var 12) .nil)) .nil)) (e16 (some (1, bx x y z)) (some (0, .tuple ds)) (some (0, .tuple A)) (some (0, .tuple P)) (some (1, .list Q)) s5 none none none none none (some (1, .list sf)) (some (0, .int ds.length)) none none none) = .ok .nx (e16 (some (1, bx x y z)) (some (0, .tuple ds)) (some (0, .tuple A)) (some (0, .tuple P)) (some (j4, .list Q)) t5 (some (1, .list B)) none none none none (some (1, .list sf)) (some (0, .int ds.length)) none none none) := by
    rcases s5 with _ | ⟨kk, v5⟩
    · exact ⟨none, by simp [↓evFor, ↓evComp, ↓evComp2, run, startE, evS, ev, oneS, oneKD, R.bind, opR, itemsKD, itemKD, getS, semOp, sem1, sem2, sem3, sIx, sGt, sLt, sLe, sAdd, sSub, sMul, sFdiv, sMod, sAbs, sInt, sLen, lowerItems, lowerS, truth, freshOp, free, maskO, ixPos, callR, argsFor, outsTo, slotsOf, freezeS, setS, ksD, iterOf, slotsP, isTy, parSet, mkLst, valsKD, szOk, maxLen, sEq, seqOf, lstOf, iterSeq, compR, condOf, wipeE, freezeAll, backE, ksD_map, sNeg, permL, e16, hr, k4]⟩
    · exact ⟨some (0, v5), by simp [↓evFor, ↓evComp, ↓evComp2, run, startE, evS, ev, oneS, oneKD, R.bind, opR, itemsKD, itemKD, getS, semOp, sem1, sem2, sem3, sIx, sGt, sLt, sLe, sAdd, sSub, sMul, sFdiv, sMod, sAbs, sInt, sLen, lowerItems, lowerS, truth, freshOp, free, maskO, ixPos, callR, argsFor, outsTo, slotsOf, freezeS, setS, ksD, iterOf, slotsP, isTy, parSet, mkLst, valsKD, szOk, maxLen, sEq, seqOf, lstOf, iterSeq, compR, condOf, wipeE, freezeAll, backE, ksD_map, sNeg, permL, e16, hr, k4]⟩
  rw [seqE h6]
  rw [seqE (env1 := (e16 (some (1, bx x y z)) (some (0, .tuple ds)) (some (0, .tuple A)) (some (0, .tuple P)) (some (j4, .list Q)) t5 (some (1, .list B)) (some (1, .list [.bool true, .tuple A, .tuple P, .tuple Q])) none none none (some (1, .list sf)) (some (0, .int ds.length)) none none none)) (by simp [↓evFor, ↓evComp, ↓evComp2, run, startE, evS, ev, oneS, oneKD, R.bind, opR, itemsKD, itemKD, getS, semOp, sem1, sem2, sem3, sIx, sGt, sLt, sLe, sAdd, sSub, sMul, sFdiv, sMod, sAbs, sInt, sLen, lowerItems, lowerS, truth, freshOp, free, maskO, ixPos, callR, argsFor, outsTo, slotsOf, freezeS, setS, ksD, iterOf, slotsP, isTy, parSet, mkLst, valsKD, szOk, maxLen, sEq, seqOf, lstOf, iterSeq, compR, condOf, wipeE, freezeAll, backE, ksD_map, sNeg, permL, e16, f4, f6, f7, f9, q1, a1, g1, c1])]
  rw [seqE (env1 := (e16 (some (1, bx x y z)) (some (0, .tuple ds)) (some (0, .tuple A)) (some (0, .tuple P)) (some (j4, .list Q)) t5 (some (1, .list B)) (some (1, .list [.bool true, .tuple A, .tuple P, .tuple Q, .tuple A, .tuple P, .tuple Q, .bool false])) none none none (some (0, .list sf)) (some (0, .int ds.length)) none none none)) (by simp [↓evFor, ↓evComp, ↓evComp2, run, startE, evS, ev, oneS, oneKD, R.bind, opR, itemsKD, itemKD, getS, semOp, sem1, sem2, sem3, sIx, sGt, sLt, sLe, sAdd, sSub, sMul, sFdiv, sMod, sAbs, sInt, sLen, lowerItems, lowerS, truth, freshOp, free, maskO, ixPos, callR, argsFor, outsTo, slotsOf, freezeS, setS, ksD, iterOf, slotsP, isTy, parSet, mkLst, valsKD, szOk, maxLen, sEq, seqOf, lstOf, iterSeq, compR, condOf, wipeE, freezeAll, backE, ksD_map, sNeg, permL, e16, f4, f6, f7, f9, q2, a2, g2, c2])]
  rw [seqE (env1 := (e16 (some (1, bx x y z)) (some (0, .tuple ds)) (some (0, .tuple A)) (some (0, .tuple P)) (some (min j4 1, .list Q)) t5 (some (1, .list B)) (some (1, .list [.bool true, .tuple A, .tuple P, .tuple Q, .tuple A, .tuple P, .tuple Q, .bool false])) (some (1, .list [.bool true, .tuple A, .tuple P, .tuple Q, .tuple A, .tuple P, .tuple Q, .bool false])) none none (some (0, .list sf)) (some (0, .int ds.length)) none none none)) (by simp [↓evFor, ↓evComp, ↓evComp2, run, startE, evS, ev, oneS, oneKD, R.bind, opR, itemsKD, itemKD, getS, semOp, sem1, sem2, sem3, sIx, sGt, sLt, sLe, sAdd, sSub, sMul, sFdiv, sMod, sAbs, sInt, sLen, lowerItems, lowerS, truth, freshOp, free, maskO, ixPos, callR, argsFor, outsTo, slotsOf, freezeS, setS, ksD, iterOf, slotsP, isTy, parSet, mkLst, valsKD, szOk, maxLen, sEq, seqOf, lstOf, iterSeq, compR, condOf, wipeE, freezeAll, backE, ksD_map, sNeg, permL, e16, e16])]
  obtain ⟨r5, h10⟩ : ∃ r5, evS (fun i => fnL[i]?) (fun i => glbL[i]?) (callN (fun i => fnL[i]?) (fun i => glbL[i]?) cls (n + 5)) cls [1, 0] (.set 7 (.op .add (.cons (.bor 7) (.cons (.lst 0 (.cons (.comp 0 (.call 10 (.cons (.var 1) (.cons (.var 5) .nil))) (.v 5) (.iter .range1 (.cons (.var 12) .nil)) .nil) (.cons (.call 10 (.cons (.var 11) (.cons (.op .sub (.cons (.bor 12) (.cons (.cst (.int 1)) .nil))) .nil))) .nil))) .nil)))) (e16 (some (1, bx x y z)) (some (0, .tuple ds)) (some (0, .tuple A)) (some (0, .tuple P)) (some (min j4 1, .list Q)) t5 (some (1, .list B)) (some (1, .list [.bool true, .tuple A, .tuple P, .tuple Q, .tuple A, .tuple P, .tuple Q, .bool false])) (some (1, .list [.bool true, .tuple A, .tuple P, .tuple Q, .tuple A, .tuple P, .tuple Q, .bool false])) none none (some (0, .list sf)) (some (0, .int ds.length)) none none none) = .ok .nx (e16 (some (1, bx x y z)) (some (0, .tuple ds)) (some (0, .tuple A)) (some (0, .tuple P)) (some (min j4 1, .list Q)) r5 (some (1, .list B)) (some (1, .list [.bool true, .tuple A, .tuple P, .tuple Q, .tuple A, .tuple P, .tuple Q, .bool false, .list B, .tuple L])) (some (1, .list [.bool true, .tuple A, .tuple P, .tuple Q, .tuple A, .tuple P, .tuple Q, .bool false])) none none (some (0, .list sf)) (some (0, .int ds.length)) none none none) := by
    rcases t5 with _ | ⟨kk, v5⟩
    · exact ⟨none, by simp [↓evFor, ↓evComp, ↓evComp2, run, startE, evS, ev, oneS, oneKD, R.bind, opR, itemsKD, itemKD, getS, semOp, sem1, sem2, sem3, sIx, sGt, sLt, sLe, sAdd, sSub, sMul, sFdiv, sMod, sAbs, sInt, sLen, lowerItems, lowerS, truth, freshOp, free, maskO, ixPos, callR, argsFor, outsTo, slotsOf, freezeS, setS, ksD, iterOf, slotsP, isTy, parSet, mkLst, valsKD, szOk, maxLen, sEq, seqOf, lstOf, iterSeq, compR, condOf, wipeE, freezeAll, backE, ksD_map, sNeg, permL, e16, f10, hr, k5, d1]⟩
    · exact ⟨some (0, v5), by simp [↓evFor, ↓evComp, ↓evComp2, run, startE, evS, ev, oneS, oneKD, R.bind, opR, itemsKD, itemKD, getS, semOp, sem1, sem2, sem3, sIx, sGt, sLt, sLe, sAdd, sSub, sMul, sFdiv, sMod, sAbs, sInt, sLen, lowerItems, lowerS, truth, freshOp, free, maskO, ixPos, callR, argsFor, outsTo, slotsOf, freezeS, setS, ksD, iterOf, slotsP, isTy, parSet, mkLst, valsKD, szOk, maxLen, sEq, seqOf, lstOf, iterSeq, compR, condOf, wipeE, freezeAll, backE, ksD_map, sNeg, permL, e16, f10, hr, k5, d1]⟩
  rw [seqE h10]
  rw [seqE (env1 := (e16 (some (1, bx x y z)) (some (0, .tuple ds)) (some (0, .tuple A)) (some (0, .tuple P)) (some (min j4 1, .list Q)) r5 (some (1, .list B)) (some (1, .list [.bool true, .tuple A, .tuple P, .tuple Q, .tuple A, .tuple P, .tuple Q, .bool false, .list B, .tuple L, .list [.str (PySem.Str.ofString "none"), .int ds.length, .bool true], .list [.str (PySem.Str.ofString "none"), .int (-1), .bool true], .bool true])) (some (1, .list [.bool true, .tuple A, .tuple P, .tuple Q, .tuple A, .tuple P, .tuple Q, .bool false])) none none (some (0, .list sf)) (some (0, .int ds.length)) none none none)) (by simp [↓evFor, ↓evComp, ↓evComp2, run, startE, evS, ev, oneS, oneKD, R.bind, opR, itemsKD, itemKD, getS, semOp, sem1, sem2, sem3, sIx, sGt, sLt, sLe, sAdd, sSub, sMul, sFdiv, sMod, sAbs, sInt, sLen, lowerItems, lowerS, truth, freshOp, free, maskO, ixPos, callR, argsFor, outsTo, slotsOf, freezeS, setS, ksD, iterOf, slotsP, isTy, parSet, mkLst, valsKD, szOk, maxLen, sEq, seqOf, lstOf, iterSeq, compR, condOf, wipeE, freezeAll, backE, ksD_map, sNeg, permL, e16, f26, f16, e1, e2, hl, hq, oks])]
  rw [seqE (env1 := (e16 (some (1, bx x y z)) (some (0, .tuple ds)) (some (0, .tuple A)) (some (0, .tuple P)) (some (min j4 1, .list Q)) r5 (some (0, .list B)) (some (1, .list [.bool true, .tuple A, .tuple P, .tuple Q, .tuple A, .tuple P, .tuple Q, .bool false, .list B, .tuple L, .list [.str (PySem.Str.ofString "none"), .int ds.length, .bool true], .list [.str (PySem.Str.ofString "none"), .int (-1), .bool true], .bool true])) (some (1, .list [.bool true, .tuple A, .tuple P, .tuple Q, .tuple A, .tuple P, .tuple Q, .bool false, .list B, .tuple L, .list [.str (PySem.Str.ofString "none"), .int ds.length, .bool true], .list [.str (PySem.Str.ofString "none"), .int (-1), .bool true], .bool true])) none none (some (0, .list sf)) (some (0, .int ds.length)) none none none)) (by simp [↓evFor, ↓evComp, ↓evComp2, run, startE, evS, ev, oneS, oneKD, R.bind, opR, itemsKD, itemKD, getS, semOp, sem1, sem2, sem3, sIx, sGt, sLt, sLe, sAdd, sSub, sMul, sFdiv, sMod, sAbs, sInt, sLen, lowerItems, lowerS, truth, freshOp, free, maskO, ixPos, callR, argsFor, outsTo, slotsOf, freezeS, setS, ksD, iterOf, slotsP, isTy, parSet, mkLst, valsKD, szOk, maxLen, sEq, seqOf, lstOf, iterSeq, compR, condOf, wipeE, freezeAll, backE, ksD_map, sNeg, permL, e16, hB])]
  have hsame := m1 (.list [.bool true, .tuple A, .tuple P, .tuple Q, .tuple A, .tuple P, .tuple Q, .bool false, .list B, .tuple L, .list [.str (PySem.Str.ofString "none"), .int ds.length, .bool true], .list [.str (PySem.Str.ofString "none"), .int (-1), .bool true], .bool true]) (by
    refine W.lst (k := 2) fun d hd => ?_
    simp only [List.mem_cons, List.not_mem_nil, or_false] at hd
    rcases hd with h | h | h | h | h | h | h | h | h | h | h | h | h <;> subst h
    · exact ⟨rfl, Nat.zero_le _⟩
    · exact WA.up (by decide)
    · exact WP.up (by decide)
    · exact WQ
    · exact WA.up (by decide)
    · exact WP.up (by decide)
    · exact WQ
    · exact ⟨rfl, Nat.zero_le _⟩
    · exact W.lst WB
    · exact WL.up (by decide)
    · refine (W.lst (k := 0) fun d hd => ?_).up (by decide)
      simp only [List.mem_cons, List.not_mem_nil, or_false] at hd
      rcases hd with h | h | h <;> subst h
      · exact ⟨by decide +kernel, Nat.zero_le _⟩
      · exact .int 0 _
      · exact ⟨rfl, Nat.zero_le _⟩
    · refine (W.lst (k := 0) fun d hd => ?_).up (by decide)
      simp only [List.mem_cons, List.not_mem_nil, or_false] at hd
      rcases hd with h | h | h <;> subst h
      · exact ⟨by decide +kernel, Nat.zero_le _⟩
      · exact .int 0 _
      · exact ⟨rfl, Nat.zero_le _⟩
    · exact ⟨rfl, Nat.zero_le _⟩)
  rw [seqE (env1 := (e16 (some (1, bx x y z)) (some (0, .tuple ds)) (some (0, .tuple A)) (some (0, .tuple P)) (some (min j4 1, .list Q)) r5 (some (0, .list B)) (some (0, .list [.bool true, .tuple A, .tuple P, .tuple Q, .tuple A, .tuple P, .tuple Q, .bool false, .list B, .tuple L, .list [.str (PySem.Str.ofString "none"), .int ds.length, .bool true], .list [.str (PySem.Str.ofString "none"), .int (-1), .bool true], .bool true])) (some (0, .list [.bool true, .tuple A, .tuple P, .tuple Q, .tuple A, .tuple P, .tuple Q, .bool false, .list B, .tuple L, .list [.str (PySem.Str.ofString "none"), .int ds.length, .bool true], .list [.str (PySem.Str.ofString "none"), .int (-1), .bool true], .bool true])) none none (some (0, .list sf)) (some (0, .int ds.length)) none none none)) (by simp [↓evFor, ↓evComp, ↓evComp2, run, startE, evS, ev, oneS, oneKD, R.bind, opR, itemsKD, itemKD, getS, semOp, sem1, sem2, sem3, sIx, sGt, sLt, sLe, sAdd, sSub, sMul, sFdiv, sMod, sAbs, sInt, sLen, lowerItems, lowerS, truth, freshOp, free, maskO, ixPos, callR, argsFor, outsTo, slotsOf, freezeS, setS, ksD, iterOf, slotsP, isTy, parSet, mkLst, valsKD, szOk, maxLen, sEq, seqOf, lstOf, iterSeq, compR, condOf, wipeE, freezeAll, backE, ksD_map, sNeg, permL, e16, f15, hsame])]
  rw [seqE (env1 := (e16 (some (1, bx x1 y z1)) (some (0, .tuple ds)) (some (0, .tuple A)) (some (0, .tuple P)) (some (min j4 1, .list Q)) r5 (some (0, .list B)) (some (0, .list [.bool true, .tuple A, .tuple P, .tuple Q, .tuple A, .tuple P, .tuple Q, .bool false, .list B, .tuple L, .list [.str (PySem.Str.ofString "none"), .int ds.length, .bool true], .list [.str (PySem.Str.ofString "none"), .int (-1), .bool true], .bool true])) (some (0, .list [.bool true, .tuple A, .tuple P, .tuple Q, .tuple A, .tuple P, .tuple Q, .bool false, .list B, .tuple L, .list [.str (PySem.Str.ofString "none"), .int ds.length, .bool true], .list [.str (PySem.Str.ofString "none"), .int (-1), .bool true], .bool true])) (some (kb, .list os)) none (some (0, .list sf)) (some (0, .int ds.length)) none none none)) (by simp [↓evFor, ↓evComp, ↓evComp2, run, startE, evS, ev, oneS, oneKD, R.bind, opR, itemsKD, itemKD, getS, semOp, sem1, sem2, sem3, sIx, sGt, sLt, sLe, sAdd, sSub, sMul, sFdiv, sMod, sAbs, sInt, sLen, lowerItems, lowerS, truth, freshOp, free, maskO, ixPos, callR, argsFor, outsTo, slotsOf, freezeS, setS, ksD, iterOf, slotsP, isTy, parSet, mkLst, valsKD, szOk, maxLen, sEq, seqOf, lstOf, iterSeq, compR, condOf, wipeE, freezeAll, backE, ksD_map, sNeg, permL, e16, f24, w1])]
  rw [seqE (env1 := (e16 (some (1, bx x1 y z1)) (some (0, .tuple ds)) (some (0, .tuple A)) (some (0, .tuple P)) (some (min j4 1, .list Q)) r5 (some (0, .list B)) (some (0, .list [.bool true, .tuple A, .tuple P, .tuple Q, .tuple A, .tuple P, .tuple Q, .bool false, .list B, .tuple L, .list [.str (PySem.Str.ofString "none"), .int ds.length, .bool true], .list [.str (PySem.Str.ofString "none"), .int (-1), .bool true], .bool true])) (some (0, .list [.bool true, .tuple A, .tuple P, .tuple Q, .tuple A, .tuple P, .tuple Q, .bool false, .list B, .tuple L, .list [.str (PySem.Str.ofString "none"), .int ds.length, .bool true], .list [.str (PySem.Str.ofString "none"), .int (-1), .bool true], .bool true])) (some (0, .list os)) none (some (0, .list sf)) (some (0, .int ds.length)) none none none)) (by simp [↓evFor, ↓evComp, ↓evComp2, run, startE, evS, ev, oneS, oneKD, R.bind, opR, itemsKD, itemKD, getS, semOp, sem1, sem2, sem3, sIx, sGt, sLt, sLe, sAdd, sSub, sMul, sFdiv, sMod, sAbs, sInt, sLen, lowerItems, lowerS, truth, freshOp, free, maskO, ixPos, callR, argsFor, outsTo, slotsOf, freezeS, setS, ksD, iterOf, slotsP, isTy, parSet, mkLst, valsKD, szOk, maxLen, sEq, seqOf, lstOf, iterSeq, compR, condOf, wipeE, freezeAll, backE, ksD_map, sNeg, permL, e16, f15, m4, k7, k8])]
  rw [seqE (env1 := (e16 (some (1, bx x2 y z2)) (some (0, .tuple ds)) (some (0, .tuple A)) (some (0, .tuple P)) (some (min j4 1, .list Q)) r5 (some (0, .list B)) (some (0, .list [.bool true, .tuple A, .tuple P, .tuple Q, .tuple A, .tuple P, .tuple Q, .bool false, .list B, .tuple L, .list [.str (PySem.Str.ofString "none"), .int ds.length, .bool true], .list [.str (PySem.Str.ofString "none"), .int (-1), .bool true], .bool true])) (some (0, .list [.bool true, .tuple A, .tuple P, .tuple Q, .tuple A, .tuple P, .tuple Q, .bool false, .list B, .tuple L, .list [.str (PySem.Str.ofString "none"), .int ds.length, .bool true], .list [.str (PySem.Str.ofString "none"), .int (-1), .bool true], .bool true])) (some (0, .list os)) (some (1, .list ts)) (some (0, .list sf)) (some (0, .int ds.length)) none none none)) (by simp [↓evFor, ↓evComp, ↓evComp2, run, startE, evS, ev, oneS, oneKD, R.bind, opR, itemsKD, itemKD, getS, semOp, sem1, sem2, sem3, sIx, sGt, sLt, sLe, sAdd, sSub, sMul, sFdiv, sMod, sAbs, sInt, sLen, lowerItems, lowerS, truth, freshOp, free, maskO, ixPos, callR, argsFor, outsTo, slotsOf, freezeS, setS, ksD, iterOf, slotsP, isTy, parSet, mkLst, valsKD, szOk, maxLen, sEq, seqOf, lstOf, iterSeq, compR, condOf, wipeE, freezeAll, backE, ksD_map, sNeg, permL, e16, f25, u1])]
  rw [seqE (env1 := (e16 (some (1, bx x2 y z2)) (some (0, .tuple ds)) (some (0, .tuple A)) (some (0, .tuple P)) (some (min j4 1, .list Q)) r5 (some (0, .list B)) (some (1, .list (tr ++ tr))) (some (0, .list [.bool true, .tuple A, .tuple P, .tuple Q, .tuple A, .tuple P, .tuple Q, .bool false, .list B, .tuple L, .list [.str (PySem.Str.ofString "none"), .int ds.length, .bool true], .list [.str (PySem.Str.ofString "none"), .int (-1), .bool true], .bool true])) (some (0, .list os)) (some (0, .list ts)) (some (0, .list sf)) (some (0, .int ds.length)) none none none)) (by simp [↓evFor, ↓evComp, ↓evComp2, run, startE, evS, ev, oneS, oneKD, R.bind, opR, itemsKD, itemKD, getS, semOp, sem1, sem2, sem3, sIx, sGt, sLt, sLe, sAdd, sSub, sMul, sFdiv, sMod, sAbs, sInt, sLen, lowerItems, lowerS, truth, freshOp, free, maskO, ixPos, callR, argsFor, outsTo, slotsOf, freezeS, setS, ksD, iterOf, slotsP, isTy, parSet, mkLst, valsKD, szOk, maxLen, sEq, seqOf, lstOf, iterSeq, compR, condOf, wipeE, freezeAll, backE, ksD_map, sNeg, permL, e16, k9, k10, Nat.le_trans (Nat.add_le_add hts hts) (by decide : 1000 + 1000 ≤ 16777216)])]
  refine ⟨(e16 (some (1, bx x2 y z2)) (some (0, .tuple ds)) (some (0, .tuple A)) (some (0, .tuple P)) (some (min j4 1, .list Q)) r5 (some (0, .list B)) (some (0, .list (tr ++ tr))) (some (0, .list [.bool true, .tuple A, .tuple P, .tuple Q, .tuple A, .tuple P, .tuple Q, .bool false, .list B, .tuple L, .list [.str (PySem.Str.ofString "none"), .int ds.length, .bool true], .list [.str (PySem.Str.ofString "none"), .int (-1), .bool true], .bool true])) (some (0, .list os)) (some (0, .list ts)) (some (0, .list sf)) (some (0, .int ds.length)) none none none), ?_, rfl⟩
  have h2 : tr.length * 2 ≤ 16777216 := by omega
  simp [↓evFor, ↓evComp, ↓evComp2, run, startE, evS, ev, oneS, oneKD, R.bind, opR, itemsKD, itemKD, getS, semOp, sem1, sem2, sem3, sIx, sGt, sLt, sLe, sAdd, sSub, sMul, sFdiv, sMod, sAbs, sInt, sLen, lowerItems, lowerS, truth, freshOp, free, maskO, ixPos, callR, argsFor, outsTo, slotsOf, freezeS, setS, ksD, iterOf, slotsP, isTy, parSet, mkLst, valsKD, szOk, maxLen, sEq, seqOf, lstOf, iterSeq, compR, condOf, wipeE, freezeAll, backE, ksD_map, sNeg, permL, e16, f15, k11, m3, h2]
end PL.k01
end

section
set_option maxRecDepth 100000
namespace PL.k01
open PySem PL
theorem byhand : cN (fun i => clsL[i]?) 7 28 [] = .ok (0, .bool true) [] := by
  kernel_rfl
end PL.k01
end

section
set_option maxRecDepth 100000
set_option maxHeartbeats 2000000
namespace PL.k01
open PySem PL
variable {cls : Nat → Option ClsDef}
theorem right_ok (n : Nat) {x y z : Int} (hcl : cls 0 = some ⟨"LookupError", some (PySem.Str.ofString "number")⟩) (b : Bx x y z) (hz : z < 2 ^ 30) :
    ∃ (x' z' : Int), cN cls (n + 7) 29 [(1, bx x y z)] = .ok (0, .bool true) [some (1, bx x' y z')] := by
  have hr : rng1 (.int 3) = some (rangeD 0 3) := rng1_nat (n := 3) (by omega)
  have rl : (rangeD 0 3).length = 3 := by decide
  obtain ⟨vs, e', h1, h2, h3, x', z', rfl, h4⟩ := comp_inv (m := 0) (p := .v 1) (elt := evX (fun i => fnL[i]?) (fun i => glbL[i]?) (callN (fun i => fnL[i]?) (fun i => glbL[i]?) cls (n + 6)) (.call 27 (.cons (.bor 0) (.cons (.call 20 (.cons (.bor 0) (.cons (.cst (.int 6)) .nil))) .nil))))
    (fun k e => ∃ x' z' : Int, e = [some (1, bx x' y z'), none] ∧ Bx x' y z' ∧ z' ≤ z + 400 * k) (fun v => v = .bool true) (rangeD 0 3) [] 0 [some (1, bx x y z), none] ⟨x, z, rfl, b, by omega⟩ fun k d hk env hI => by
      obtain ⟨x1, z1, rfl, b1, hz1⟩ := hI
      obtain ⟨hk, rfl⟩ := range_get (n := 3) hk
      obtain ⟨ds, x2, z2, t1, t2, b2, t3⟩ := any_ok (cls := cls) (n + 2) b1 (by omega)
      obtain ⟨x3, z3, u1, b3, u2⟩ := case_ok (cls := cls) n hcl b2 (by omega) t2
      refine ⟨_, 0, _, [some (1, bx x3 y z3), some (0, .int (k : Nat))], bind_v (by simp), ?_, Nat.zero_le _, rfl, x3, z3, rfl, b3, by omega⟩
      unfold evX
      simp [f27, f20, ↓evFor, ↓evComp, ↓evComp2, run, startE, evS, ev, oneS, oneKD, R.bind, opR, itemsKD, itemKD, getS, semOp, sem1, sem2, sem3, sIx, ixAt, sGt, sLt, sLe, sAdd, sSub, sMul, sFdiv, sMod, sAbs, sInt, sLen, lowerItems, lowerS, truth, freshOp, free, maskO, ixPos, callR, argsFor, outsTo, slotsOf, freezeS, setS, ksD, iterOf, slotsP, t1, u1]
  have hv : vs = vs.map fun _ => .bool true := by
    have := List.map_congr_left (f := fun v : D => v) (g := fun _ => PyData.bool true) (l := vs) h3
    rw [← this, List.map_id']
  rw [hv] at h1
  refine ⟨x', z', ?_⟩
  rw [callN_succ f29]
  simp [b29, ↓evFor, ↓evComp, ↓evComp2, run, startE, evS, ev, oneS, oneKD, R.bind, opR, itemsKD, itemKD, getS, semOp, sem1, sem2, sem3, sIx, ixAt, sGt, sLt, sLe, sAdd, sSub, sMul, sFdiv, sMod, sAbs, sInt, sLen, lowerItems, lowerS, truth, freshOp, free, maskO, ixPos, callR, argsFor, outsTo, slotsOf, freezeS, setS, ksD, iterOf, slotsP, iterSeq, seqOf, lstOf, compR, condOf, wipeE, freezeAll, backE, ksD_map, hr, h1, bools_c]
theorem law_ok {K : Nat} (hK : 8 ≤ K) (hK1 : K < 9000000) {ns : List Int} (hl : ns.length ≤ 63) (hb : ∀ c ∈ ns, c.natAbs < 2 ^ K) :
    ∃ outs, cN (fun i => clsL[i]?) 8 30 [(0, .list (iD ns))] = .ok (0, .bool true) outs := by
  obtain ⟨cs, c1, c2, c3, c4⟩ := cells_ok (cls := fun i => clsL[i]?) 6 K hl hb (by omega) hK
  have hr : rng1 (.int (cs.length : Int)) = some (rangeD 0 (cs.length : Int)) := rng1_nat (by omega)
  have sl : (iD cs).length = cs.length := List.length_map _
  obtain ⟨e', key, j', rfl⟩ := comp_mapI (m := 0) (p := .v 2) (elt := evX (fun i => fnL[i]?) (fun i => glbL[i]?) (callN (fun i => fnL[i]?) (fun i => glbL[i]?) (fun i => clsL[i]?) 7) (.call 29 (.cons (.call 12 (.cons (.var 1) (.cons (.var 2) .nil))) .nil))) (fun e => ∃ j : Nat, e = [some (0, .list (iD ns)), some (j, .list (iD cs)), none]) (fun _ => PyData.bool true) (rangeD 0 (cs.length : Int)) [] [some (0, .list (iD ns)), some (1, .list (iD cs)), none] ⟨1, rfl⟩ fun d hd env hI => by
    obtain ⟨j, rfl⟩ := hI
    obtain ⟨k, hk⟩ := List.mem_iff_getElem?.mp hd
    obtain ⟨hk2, rfl⟩ := range_get hk
    obtain ⟨x, y, t1, b⟩ := box_ok (cls := fun i => clsL[i]?) 6 (K + 13) hk2 c3 c4 (by omega) (by omega)
    obtain ⟨x', z', u1⟩ := right_ok (cls := fun i => clsL[i]?) 0 rfl b (by omega)
    refine ⟨_, 0, [some (0, .list (iD ns)), some (0, .list (iD cs)), some (0, .int (k : Nat))], bind_v (by simp), ?_, Nat.le_refl _, 0, rfl⟩
    unfold evX
    generalize iD cs = X at t1 ⊢
    generalize iD ns = Y
    simp [f29, f12, ↓evFor, ↓evComp, ↓evComp2, run, startE, evS, ev, oneS, oneKD, R.bind, opR, itemsKD, itemKD, getS, semOp, sem1, sem2, sem3, sIx, ixAt, sGt, sLt, sLe, sAdd, sSub, sMul, sFdiv, sMod, sAbs, sInt, sLen, lowerItems, lowerS, truth, freshOp, free, maskO, ixPos, callR, argsFor, outsTo, slotsOf, freezeS, setS, ksD, iterOf, slotsP, t1, u1]
  have hby := byhand
  generalize iD ns = Y at key c1 ⊢
  generalize iD cs = X at key c1 sl
  rw [← sl] at hr key
  refine ⟨[none], ?_⟩
  rw [callN_succ f30]
  simp [b30, f28, f14, ↓evFor, ↓evComp, ↓evComp2, run, startE, evS, ev, oneS, oneKD, R.bind, opR, itemsKD, itemKD, getS, semOp, sem1, sem2, sem3, sIx, sGt, sLt, sLe, sAdd, sSub, sMul, sFdiv, sMod, sAbs, sInt, sLen, lowerItems, lowerS, truth, freshOp, free, maskO, ixPos, callR, argsFor, outsTo, slotsOf, freezeS, setS, ksD, iterOf, slotsP, iterSeq, seqOf, lstOf, compR, condOf, wipeE, freezeAll, backE, ksD_map, hby, c1, hr, key, bools_c]
end PL.k01
end

section
set_option maxRecDepth 100000
set_option maxHeartbeats 0
namespace PL.k01
open PySem PySem.Spec PyProof.Rows L2 PL
def fnN : List PySem.Str := [(PySem.Str.ofString "is_number"), (PySem.Str.ofString "is_below"), (PySem.Str.ofString "rises"), (PySem.Str.ofString "is_asker"), (PySem.Str.ofString "is_council"), (PySem.Str.ofString "check_members"), (PySem.Str.ofString "askers"), (PySem.Str.ofString "firm_ones"), (PySem.Str.ofString "asked_of"), (PySem.Str.ofString "arcs_of"), (PySem.Str.ofString "asked_by"), (PySem.Str.ofString "is_road"), (PySem.Str.ofString "_law_box"), (PySem.Str.ofString "_law_take"), (PySem.Str.ofString "_law_cells"), (PySem.Str.ofString "_law_same"), (PySem.Str.ofString "_law_lists"), (PySem.Str.ofString "_law_of"), (PySem.Str.ofString "_law_pick"), (PySem.Str.ofString "_law_mixed"), (PySem.Str.ofString "_law_any"), (PySem.Str.ofString "_law_whole"), (PySem.Str.ofString "_law_is_hall"), (PySem.Str.ofString "_law_is_way"), (PySem.Str.ofString "_law_bent"), (PySem.Str.ofString "_law_trails"), (PySem.Str.ofString "_law_heard"), (PySem.Str.ofString "_law_case_right"), (PySem.Str.ofString "_law_by_hand_right"), (PySem.Str.ofString "_law_right"), (PySem.Str.ofString "law")]
def glN : List PySem.Str := []
def clN : List PySem.Str := [(PySem.Str.ofString "NoMember")]
def kwN (f np : Nat) (perm : List Nat) : Option (List PySem.Str) := match f with
  | 4 => if np = 0 ∧ perm = [0] then some [(PySem.Str.ofString "thing")] else none
  | 6 => if np = 0 ∧ perm = [0] then some [(PySem.Str.ofString "council")] else none
  | 7 => if np = 0 ∧ perm = [0] then some [(PySem.Str.ofString "council")] else none
  | 9 => if np = 0 ∧ perm = [0] then some [(PySem.Str.ofString "council")] else none
  | 10 => if np = 0 ∧ perm = [1, 0] then some [(PySem.Str.ofString "member"), (PySem.Str.ofString "council")] else none
  | 11 => if np = 0 ∧ perm = [1, 0] then some [(PySem.Str.ofString "thing"), (PySem.Str.ofString "council")] else none
  | _ => none
def nt : NT := ⟨fun i => fnN[i]?, fun i => glN[i]?, fun i => clN[i]?, fun i => (clsL[i]?).bind (·.fld), kwN⟩
abbrev PW : Program := PySem.Challenge.pw_whomheeds_k01_what_councils_and_roads_ar
abbrev RW : PySem.W.OpenLaw := PySem.Challenge.rw_whomheeds_k01_what_councils_and_roads_ar
def top (i : Nat) : Stmt := PW.main.body.getD i (.Pass ⟨0, 0, 0, 0⟩)
def inn (i j : Nat) : Stmt := match top i with
  | .ClassDef (body := b) .. => b.getD j (.Pass ⟨0, 0, 0, 0⟩)
  | _ => .Pass ⟨0, 0, 0, 0⟩
def d0 : He.DefD := ⟨("is_number", none), "is_number", "is_number", defArgs (top 3), defBody (top 3), defScope (top 3), [], []⟩
def d1 : He.DefD := ⟨("is_below", none), "is_below", "is_below", defArgs (top 4), defBody (top 4), defScope (top 4), [], []⟩
def d2 : He.DefD := ⟨("rises", none), "rises", "rises", defArgs (top 5), defBody (top 5), defScope (top 5), [], []⟩
def d3 : He.DefD := ⟨("is_asker", none), "is_asker", "is_asker", defArgs (top 7), defBody (top 7), defScope (top 7), [], []⟩
def d4 : He.DefD := ⟨("is_council", none), "is_council", "is_council", defArgs (top 8), defBody (top 8), defScope (top 8), [], []⟩
def d5 : He.DefD := ⟨("check_members", none), "check_members", "check_members", defArgs (top 9), defBody (top 9), defScope (top 9), [], []⟩
def d6 : He.DefD := ⟨("askers", none), "askers", "askers", defArgs (top 10), defBody (top 10), defScope (top 10), [], []⟩
def d7 : He.DefD := ⟨("firm_ones", none), "firm_ones", "firm_ones", defArgs (top 11), defBody (top 11), defScope (top 11), [], []⟩
def d8 : He.DefD := ⟨("asked_of", none), "asked_of", "asked_of", defArgs (top 12), defBody (top 12), defScope (top 12), [], []⟩
def d9 : He.DefD := ⟨("arcs_of", none), "arcs_of", "arcs_of", defArgs (top 13), defBody (top 13), defScope (top 13), [], []⟩
def d10 : He.DefD := ⟨("asked_by", none), "asked_by", "asked_by", defArgs (top 14), defBody (top 14), defScope (top 14), [], []⟩
def d11 : He.DefD := ⟨("is_road", none), "is_road", "is_road", defArgs (top 15), defBody (top 15), defScope (top 15), [], []⟩
def d12 : He.DefD := ⟨("_law_box", none), "_law_box", "_law_box", defArgs (top 17), defBody (top 17), defScope (top 17), [], []⟩
def d13 : He.DefD := ⟨("_law_take", none), "_law_take", "_law_take", defArgs (top 18), defBody (top 18), defScope (top 18), [], []⟩
def d14 : He.DefD := ⟨("_law_cells", none), "_law_cells", "_law_cells", defArgs (top 19), defBody (top 19), defScope (top 19), [], []⟩
def d15 : He.DefD := ⟨("_law_same", none), "_law_same", "_law_same", defArgs (top 20), defBody (top 20), defScope (top 20), [], []⟩
def d16 : He.DefD := ⟨("_law_lists", none), "_law_lists", "_law_lists", defArgs (top 21), defBody (top 21), defScope (top 21), [], []⟩
def d17 : He.DefD := ⟨("_law_of", none), "_law_of", "_law_of", defArgs (top 22), defBody (top 22), defScope (top 22), [], []⟩
def d18 : He.DefD := ⟨("_law_pick", none), "_law_pick", "_law_pick", defArgs (top 23), defBody (top 23), defScope (top 23), [], []⟩
def d19 : He.DefD := ⟨("_law_mixed", none), "_law_mixed", "_law_mixed", defArgs (top 24), defBody (top 24), defScope (top 24), [], []⟩
def d20 : He.DefD := ⟨("_law_any", none), "_law_any", "_law_any", defArgs (top 25), defBody (top 25), defScope (top 25), [], []⟩
def d21 : He.DefD := ⟨("_law_whole", none), "_law_whole", "_law_whole", defArgs (top 26), defBody (top 26), defScope (top 26), [], []⟩
def d22 : He.DefD := ⟨("_law_is_hall", none), "_law_is_hall", "_law_is_hall", defArgs (top 27), defBody (top 27), defScope (top 27), [], []⟩
def d23 : He.DefD := ⟨("_law_is_way", none), "_law_is_way", "_law_is_way", defArgs (top 28), defBody (top 28), defScope (top 28), [], []⟩
def d24 : He.DefD := ⟨("_law_bent", none), "_law_bent", "_law_bent", defArgs (top 29), defBody (top 29), defScope (top 29), [], []⟩
def d25 : He.DefD := ⟨("_law_trails", none), "_law_trails", "_law_trails", defArgs (top 30), defBody (top 30), defScope (top 30), [], []⟩
def d26 : He.DefD := ⟨("_law_heard", none), "_law_heard", "_law_heard", defArgs (top 31), defBody (top 31), defScope (top 31), [], []⟩
def d27 : He.DefD := ⟨("_law_case_right", none), "_law_case_right", "_law_case_right", defArgs (top 32), defBody (top 32), defScope (top 32), [], []⟩
def d28 : He.DefD := ⟨("_law_by_hand_right", none), "_law_by_hand_right", "_law_by_hand_right", defArgs (top 33), defBody (top 33), defScope (top 33), [], []⟩
def d29 : He.DefD := ⟨("_law_right", none), "_law_right", "_law_right", defArgs (top 34), defBody (top 34), defScope (top 34), [], []⟩
def d30 : He.DefD := ⟨("law", none), "law", "law", defArgs (top 35), defBody (top 35), defScope (top 35), [], []⟩
def dfn : List He.DefD := [d0, d1, d2, d3, d4, d5, d6, d7, d8, d9, d10, d11, d12, d13, d14, d15, d16, d17, d18, d19, d20, d21, d22, d23, d24, d25, d26, d27, d28, d29, d30]
def x0 : XD := { name := "NoMember", base := "LookupError", fld := some (PySem.Str.ofString "number"), qual := "NoMember.__init__", sf := "self", pr := "number", params := defArgs (inn 1 0), body := defBody (inn 1 0), scope := defScope (inn 1 0), file := PW.main.file }
theorem xt0 : XT PW x0 where
  bs := by decide +kernel
  fl := by decide +kernel
  bd := fun _ _ _ _ _ _ _ _ _ _ _ => rfl
  par := fun _ => ⟨_, rfl, rfl⟩
  ne := fun _ => by decide +kernel
  body := fun f h => by
    cases h
    refine ⟨_, _, _, _, _, _, _, _, _, _, ?_, rfl⟩
    rfl
  sc := fun _ => ⟨rfl, rfl, rfl, by decide +kernel, by decide +kernel, by decide +kernel, by decide +kernel, by decide +kernel, by decide +kernel, by decide +kernel, by decide +kernel⟩
def dxs : List XD := [x0]
section
variable {K : PySem.W.Frag} {h : Heap} {mg : Str → Option Value}
theorem st0 (c : SaysX dfn dxs K) (X : K.In h) (G : h.Ns mainGlobals mg) : ∃ fd, FunD K d0.name d0.qual d0.params d0.body d0.scope [] [] (He.ga K d0.name) fd ∧ Stat K mg nt 0 (fnL.getD 0 ⟨[], 0, .skip⟩) d0.name (He.ga K d0.name) fd [(PySem.Str.ofString "thing")] [(PySem.Str.ofString "thing")] d0.qual d0.params d0.body d0.scope := by
  obtain ⟨e1, fd, F⟩ := c.def_ X G 0 (d := d0) rfl rfl
  refine ⟨fd, F, rfl, e1, F, ⟨rfl, rfl, rfl, by decide +kernel, rfl, by decide +kernel, by decide +kernel⟩, FunD.bindsN F fun _ _ _ _ _ _ us hl => match us, hl with | [_], _ => rfl, rfl, ?_, rfl, by decide +kernel⟩
  exact fun _ _ _ hk => nomatch hk
theorem st1 (c : SaysX dfn dxs K) (X : K.In h) (G : h.Ns mainGlobals mg) : ∃ fd, FunD K d1.name d1.qual d1.params d1.body d1.scope [] [] (He.ga K d1.name) fd ∧ Stat K mg nt 1 (fnL.getD 1 ⟨[], 0, .skip⟩) d1.name (He.ga K d1.name) fd [(PySem.Str.ofString "thing"), (PySem.Str.ofString "many")] [(PySem.Str.ofString "thing"), (PySem.Str.ofString "many")] d1.qual d1.params d1.body d1.scope := by
  obtain ⟨e1, fd, F⟩ := c.def_ X G 1 (d := d1) rfl rfl
  refine ⟨fd, F, rfl, e1, F, ⟨rfl, rfl, rfl, by decide +kernel, rfl, by decide +kernel, by decide +kernel⟩, FunD.bindsN F fun _ _ _ _ _ _ us hl => match us, hl with | [_, _], _ => rfl, rfl, ?_, rfl, by decide +kernel⟩
  exact fun _ _ _ hk => nomatch hk
theorem st2 (c : SaysX dfn dxs K) (X : K.In h) (G : h.Ns mainGlobals mg) : ∃ fd, FunD K d2.name d2.qual d2.params d2.body d2.scope [] [] (He.ga K d2.name) fd ∧ Stat K mg nt 2 (fnL.getD 2 ⟨[], 0, .skip⟩) d2.name (He.ga K d2.name) fd [(PySem.Str.ofString "row")] [(PySem.Str.ofString "row"), (PySem.Str.ofString "one"), (PySem.Str.ofString "other")] d2.qual d2.params d2.body d2.scope := by
  obtain ⟨e1, fd, F⟩ := c.def_ X G 2 (d := d2) rfl rfl
  refine ⟨fd, F, rfl, e1, F, ⟨rfl, rfl, rfl, by decide +kernel, rfl, by decide +kernel, by decide +kernel⟩, FunD.bindsN F fun _ _ _ _ _ _ us hl => match us, hl with | [_], _ => rfl, rfl, ?_, rfl, by decide +kernel⟩
  exact fun _ _ _ hk => nomatch hk
theorem st3 (c : SaysX dfn dxs K) (X : K.In h) (G : h.Ns mainGlobals mg) : ∃ fd, FunD K d3.name d3.qual d3.params d3.body d3.scope [] [] (He.ga K d3.name) fd ∧ Stat K mg nt 3 (fnL.getD 3 ⟨[], 0, .skip⟩) d3.name (He.ga K d3.name) fd [(PySem.Str.ofString "member")] [(PySem.Str.ofString "member")] d3.qual d3.params d3.body d3.scope := by
  obtain ⟨e1, fd, F⟩ := c.def_ X G 3 (d := d3) rfl rfl
  refine ⟨fd, F, rfl, e1, F, ⟨rfl, rfl, rfl, by decide +kernel, rfl, by decide +kernel, by decide +kernel⟩, FunD.bindsN F fun _ _ _ _ _ _ us hl => match us, hl with | [_], _ => rfl, rfl, ?_, rfl, by decide +kernel⟩
  exact fun _ _ _ hk => nomatch hk
theorem st4 (c : SaysX dfn dxs K) (X : K.In h) (G : h.Ns mainGlobals mg) : ∃ fd, FunD K d4.name d4.qual d4.params d4.body d4.scope [] [] (He.ga K d4.name) fd ∧ Stat K mg nt 4 (fnL.getD 4 ⟨[], 0, .skip⟩) d4.name (He.ga K d4.name) fd [(PySem.Str.ofString "thing")] [(PySem.Str.ofString "thing"), (PySem.Str.ofString "number"), (PySem.Str.ofString "member"), (PySem.Str.ofString "own")] d4.qual d4.params d4.body d4.scope := by
  obtain ⟨e1, fd, F⟩ := c.def_ X G 4 (d := d4) rfl rfl
  refine ⟨fd, F, rfl, e1, F, ⟨rfl, rfl, rfl, by decide +kernel, rfl, by decide +kernel, by decide +kernel⟩, FunD.bindsN F fun _ _ _ _ _ _ us hl => match us, hl with | [_], _ => rfl, rfl, ?_, rfl, by decide +kernel⟩
  exact fun a b c hk => by
    simp only [nt, kwN] at hk
    split at hk
    · rename_i hh
      obtain ⟨e1, e2⟩ := hh
      subst e1 e2
      cases hk
      exact kwb_of F fun _ _ _ _ _ _ us ws h1 h2 => match us, ws, h1, h2 with | [], [_], _, _ => rfl
    cases hk
theorem st5 (c : SaysX dfn dxs K) (X : K.In h) (G : h.Ns mainGlobals mg) : ∃ fd, FunD K d5.name d5.qual d5.params d5.body d5.scope [] [] (He.ga K d5.name) fd ∧ Stat K mg nt 5 (fnL.getD 5 ⟨[], 0, .skip⟩) d5.name (He.ga K d5.name) fd [(PySem.Str.ofString "council"), (PySem.Str.ofString "numbers")] [(PySem.Str.ofString "council"), (PySem.Str.ofString "numbers"), (PySem.Str.ofString "number")] d5.qual d5.params d5.body d5.scope := by
  obtain ⟨e1, fd, F⟩ := c.def_ X G 5 (d := d5) rfl rfl
  refine ⟨fd, F, rfl, e1, F, ⟨rfl, rfl, rfl, by decide +kernel, rfl, by decide +kernel, by decide +kernel⟩, FunD.bindsN F fun _ _ _ _ _ _ us hl => match us, hl with | [_, _], _ => rfl, rfl, ?_, rfl, by decide +kernel⟩
  exact fun _ _ _ hk => nomatch hk
theorem st6 (c : SaysX dfn dxs K) (X : K.In h) (G : h.Ns mainGlobals mg) : ∃ fd, FunD K d6.name d6.qual d6.params d6.body d6.scope [] [] (He.ga K d6.name) fd ∧ Stat K mg nt 6 (fnL.getD 6 ⟨[], 0, .skip⟩) d6.name (He.ga K d6.name) fd [(PySem.Str.ofString "council")] [(PySem.Str.ofString "council"), (PySem.Str.ofString "number"), (PySem.Str.ofString "member")] d6.qual d6.params d6.body d6.scope := by
  obtain ⟨e1, fd, F⟩ := c.def_ X G 6 (d := d6) rfl rfl
  refine ⟨fd, F, rfl, e1, F, ⟨rfl, rfl, rfl, by decide +kernel, rfl, by decide +kernel, by decide +kernel⟩, FunD.bindsN F fun _ _ _ _ _ _ us hl => match us, hl with | [_], _ => rfl, rfl, ?_, rfl, by decide +kernel⟩
  exact fun a b c hk => by
    simp only [nt, kwN] at hk
    split at hk
    · rename_i hh
      obtain ⟨e1, e2⟩ := hh
      subst e1 e2
      cases hk
      exact kwb_of F fun _ _ _ _ _ _ us ws h1 h2 => match us, ws, h1, h2 with | [], [_], _, _ => rfl
    cases hk
theorem st7 (c : SaysX dfn dxs K) (X : K.In h) (G : h.Ns mainGlobals mg) : ∃ fd, FunD K d7.name d7.qual d7.params d7.body d7.scope [] [] (He.ga K d7.name) fd ∧ Stat K mg nt 7 (fnL.getD 7 ⟨[], 0, .skip⟩) d7.name (He.ga K d7.name) fd [(PySem.Str.ofString "council")] [(PySem.Str.ofString "council"), (PySem.Str.ofString "number"), (PySem.Str.ofString "member")] d7.qual d7.params d7.body d7.scope := by
  obtain ⟨e1, fd, F⟩ := c.def_ X G 7 (d := d7) rfl rfl
  refine ⟨fd, F, rfl, e1, F, ⟨rfl, rfl, rfl, by decide +kernel, rfl, by decide +kernel, by decide +kernel⟩, FunD.bindsN F fun _ _ _ _ _ _ us hl => match us, hl with | [_], _ => rfl, rfl, ?_, rfl, by decide +kernel⟩
  exact fun a b c hk => by
    simp only [nt, kwN] at hk
    split at hk
    · rename_i hh
      obtain ⟨e1, e2⟩ := hh
      subst e1 e2
      cases hk
      exact kwb_of F fun _ _ _ _ _ _ us ws h1 h2 => match us, ws, h1, h2 with | [], [_], _, _ => rfl
    cases hk
theorem st8 (c : SaysX dfn dxs K) (X : K.In h) (G : h.Ns mainGlobals mg) : ∃ fd, FunD K d8.name d8.qual d8.params d8.body d8.scope [] [] (He.ga K d8.name) fd ∧ Stat K mg nt 8 (fnL.getD 8 ⟨[], 0, .skip⟩) d8.name (He.ga K d8.name) fd [(PySem.Str.ofString "council"), (PySem.Str.ofString "number")] [(PySem.Str.ofString "council"), (PySem.Str.ofString "number")] d8.qual d8.params d8.body d8.scope := by
  obtain ⟨e1, fd, F⟩ := c.def_ X G 8 (d := d8) rfl rfl
  refine ⟨fd, F, rfl, e1, F, ⟨rfl, rfl, rfl, by decide +kernel, rfl, by decide +kernel, by decide +kernel⟩, FunD.bindsN F fun _ _ _ _ _ _ us hl => match us, hl with | [_, _], _ => rfl, rfl, ?_, rfl, by decide +kernel⟩
  exact fun _ _ _ hk => nomatch hk
theorem st9 (c : SaysX dfn dxs K) (X : K.In h) (G : h.Ns mainGlobals mg) : ∃ fd, FunD K d9.name d9.qual d9.params d9.body d9.scope [] [] (He.ga K d9.name) fd ∧ Stat K mg nt 9 (fnL.getD 9 ⟨[], 0, .skip⟩) d9.name (He.ga K d9.name) fd [(PySem.Str.ofString "council")] [(PySem.Str.ofString "council"), (PySem.Str.ofString "number"), (PySem.Str.ofString "goal")] d9.qual d9.params d9.body d9.scope := by
  obtain ⟨e1, fd, F⟩ := c.def_ X G 9 (d := d9) rfl rfl
  refine ⟨fd, F, rfl, e1, F, ⟨rfl, rfl, rfl, by decide +kernel, rfl, by decide +kernel, by decide +kernel⟩, FunD.bindsN F fun _ _ _ _ _ _ us hl => match us, hl with | [_], _ => rfl, rfl, ?_, rfl, by decide +kernel⟩
  exact fun a b c hk => by
    simp only [nt, kwN] at hk
    split at hk
    · rename_i hh
      obtain ⟨e1, e2⟩ := hh
      subst e1 e2
      cases hk
      exact kwb_of F fun _ _ _ _ _ _ us ws h1 h2 => match us, ws, h1, h2 with | [], [_], _, _ => rfl
    cases hk
theorem st10 (c : SaysX dfn dxs K) (X : K.In h) (G : h.Ns mainGlobals mg) : ∃ fd, FunD K d10.name d10.qual d10.params d10.body d10.scope [] [] (He.ga K d10.name) fd ∧ Stat K mg nt 10 (fnL.getD 10 ⟨[], 0, .skip⟩) d10.name (He.ga K d10.name) fd [(PySem.Str.ofString "council"), (PySem.Str.ofString "member")] [(PySem.Str.ofString "council"), (PySem.Str.ofString "member"), (PySem.Str.ofString "number"), (PySem.Str.ofString "goal")] d10.qual d10.params d10.body d10.scope := by
  obtain ⟨e1, fd, F⟩ := c.def_ X G 10 (d := d10) rfl rfl
  refine ⟨fd, F, rfl, e1, F, ⟨rfl, rfl, rfl, by decide +kernel, rfl, by decide +kernel, by decide +kernel⟩, FunD.bindsN F fun _ _ _ _ _ _ us hl => match us, hl with | [_, _], _ => rfl, rfl, ?_, rfl, by decide +kernel⟩
  exact fun a b c hk => by
    simp only [nt, kwN] at hk
    split at hk
    · rename_i hh
      obtain ⟨e1, e2⟩ := hh
      subst e1 e2
      cases hk
      exact kwb_of F fun _ _ _ _ _ _ us ws h1 h2 => match us, ws, h1, h2 with | [], [_, _], _, _ => rfl
    cases hk
theorem st11 (c : SaysX dfn dxs K) (X : K.In h) (G : h.Ns mainGlobals mg) : ∃ fd, FunD K d11.name d11.qual d11.params d11.body d11.scope [] [] (He.ga K d11.name) fd ∧ Stat K mg nt 11 (fnL.getD 11 ⟨[], 0, .skip⟩) d11.name (He.ga K d11.name) fd [(PySem.Str.ofString "council"), (PySem.Str.ofString "thing")] [(PySem.Str.ofString "council"), (PySem.Str.ofString "thing"), (PySem.Str.ofString "one"), (PySem.Str.ofString "other"), (PySem.Str.ofString "own")] d11.qual d11.params d11.body d11.scope := by
  obtain ⟨e1, fd, F⟩ := c.def_ X G 11 (d := d11) rfl rfl
  refine ⟨fd, F, rfl, e1, F, ⟨rfl, rfl, rfl, by decide +kernel, rfl, by decide +kernel, by decide +kernel⟩, FunD.bindsN F fun _ _ _ _ _ _ us hl => match us, hl with | [_, _], _ => rfl, rfl, ?_, rfl, by decide +kernel⟩
  exact fun a b c hk => by
    simp only [nt, kwN] at hk
    split at hk
    · rename_i hh
      obtain ⟨e1, e2⟩ := hh
      subst e1 e2
      cases hk
      exact kwb_of F fun _ _ _ _ _ _ us ws h1 h2 => match us, ws, h1, h2 with | [], [_, _], _, _ => rfl
    cases hk
theorem st12 (c : SaysX dfn dxs K) (X : K.In h) (G : h.Ns mainGlobals mg) : ∃ fd, FunD K d12.name d12.qual d12.params d12.body d12.scope [] [] (He.ga K d12.name) fd ∧ Stat K mg nt 12 (fnL.getD 12 ⟨[], 0, .skip⟩) d12.name (He.ga K d12.name) fd [(PySem.Str.ofString "_law_script"), (PySem.Str.ofString "_law_nth_so")] [(PySem.Str.ofString "_law_script"), (PySem.Str.ofString "_law_nth_so"), (PySem.Str.ofString "_law_cell")] d12.qual d12.params d12.body d12.scope := by
  obtain ⟨e1, fd, F⟩ := c.def_ X G 12 (d := d12) rfl rfl
  refine ⟨fd, F, rfl, e1, F, ⟨rfl, rfl, rfl, by decide +kernel, rfl, by decide +kernel, by decide +kernel⟩, FunD.bindsN F fun _ _ _ _ _ _ us hl => match us, hl with | [_, _], _ => rfl, rfl, ?_, rfl, by decide +kernel⟩
  exact fun _ _ _ hk => nomatch hk
theorem st13 (c : SaysX dfn dxs K) (X : K.In h) (G : h.Ns mainGlobals mg) : ∃ fd, FunD K d13.name d13.qual d13.params d13.body d13.scope [] [] (He.ga K d13.name) fd ∧ Stat K mg nt 13 (fnL.getD 13 ⟨[], 0, .skip⟩) d13.name (He.ga K d13.name) fd [(PySem.Str.ofString "_law_box_here"), (PySem.Str.ofString "_law_below_so")] [(PySem.Str.ofString "_law_box_here"), (PySem.Str.ofString "_law_below_so"), (PySem.Str.ofString "_law_once"), (PySem.Str.ofString "_law_far"), (PySem.Str.ofString "_law_twice"), (PySem.Str.ofString "_law_drawn")] d13.qual d13.params d13.body d13.scope := by
  obtain ⟨e1, fd, F⟩ := c.def_ X G 13 (d := d13) rfl rfl
  refine ⟨fd, F, rfl, e1, F, ⟨rfl, rfl, rfl, by decide +kernel, rfl, by decide +kernel, by decide +kernel⟩, FunD.bindsN F fun _ _ _ _ _ _ us hl => match us, hl with | [_, _], _ => rfl, rfl, ?_, rfl, by decide +kernel⟩
  exact fun _ _ _ hk => nomatch hk
theorem st14 (c : SaysX dfn dxs K) (X : K.In h) (G : h.Ns mainGlobals mg) : ∃ fd, FunD K d14.name d14.qual d14.params d14.body d14.scope [] [] (He.ga K d14.name) fd ∧ Stat K mg nt 14 (fnL.getD 14 ⟨[], 0, .skip⟩) d14.name (He.ga K d14.name) fd [(PySem.Str.ofString "_law_script"), (PySem.Str.ofString "_law_top_so")] [(PySem.Str.ofString "_law_script"), (PySem.Str.ofString "_law_top_so"), (PySem.Str.ofString "_law_cells_so"), (PySem.Str.ofString "_law_nth_so"), (PySem.Str.ofString "_law_cell"), (PySem.Str.ofString "_law_at_so")] d14.qual d14.params d14.body d14.scope := by
  obtain ⟨e1, fd, F⟩ := c.def_ X G 14 (d := d14) rfl rfl
  refine ⟨fd, F, rfl, e1, F, ⟨rfl, rfl, rfl, by decide +kernel, rfl, by decide +kernel, by decide +kernel⟩, FunD.bindsN F fun _ _ _ _ _ _ us hl => match us, hl with | [_, _], _ => rfl, rfl, ?_, rfl, by decide +kernel⟩
  exact fun _ _ _ hk => nomatch hk
theorem st15 (c : SaysX dfn dxs K) (X : K.In h) (G : h.Ns mainGlobals mg) : ∃ fd, FunD K d15.name d15.qual d15.params d15.body d15.scope [] [] (He.ga K d15.name) fd ∧ Stat K mg nt 15 (fnL.getD 15 ⟨[], 0, .skip⟩) d15.name (He.ga K d15.name) fd [(PySem.Str.ofString "_law_got"), (PySem.Str.ofString "_law_due")] [(PySem.Str.ofString "_law_got"), (PySem.Str.ofString "_law_due"), (PySem.Str.ofString "_law_mine"), (PySem.Str.ofString "_law_its")] d15.qual d15.params d15.body d15.scope := by
  obtain ⟨e1, fd, F⟩ := c.def_ X G 15 (d := d15) rfl rfl
  refine ⟨fd, F, rfl, e1, F, ⟨rfl, rfl, rfl, by decide +kernel, rfl, by decide +kernel, by decide +kernel⟩, FunD.bindsN F fun _ _ _ _ _ _ us hl => match us, hl with | [_, _], _ => rfl, rfl, ?_, rfl, by decide +kernel⟩
  exact fun _ _ _ hk => nomatch hk
theorem st16 (c : SaysX dfn dxs K) (X : K.In h) (G : h.Ns mainGlobals mg) : ∃ fd, FunD K d16.name d16.qual d16.params d16.body d16.scope [] [] (He.ga K d16.name) fd ∧ Stat K mg nt 16 (fnL.getD 16 ⟨[], 0, .skip⟩) d16.name (He.ga K d16.name) fd [(PySem.Str.ofString "_law_matter_so")] [(PySem.Str.ofString "_law_matter_so"), (PySem.Str.ofString "_law_bit")] d16.qual d16.params d16.body d16.scope := by
  obtain ⟨e1, fd, F⟩ := c.def_ X G 16 (d := d16) rfl rfl
  refine ⟨fd, F, rfl, e1, F, ⟨rfl, rfl, rfl, by decide +kernel, rfl, by decide +kernel, by decide +kernel⟩, FunD.bindsN F fun _ _ _ _ _ _ us hl => match us, hl with | [_], _ => rfl, rfl, ?_, rfl, by decide +kernel⟩
  exact fun _ _ _ hk => nomatch hk
theorem st17 (c : SaysX dfn dxs K) (X : K.In h) (G : h.Ns mainGlobals mg) : ∃ fd, FunD K d17.name d17.qual d17.params d17.body d17.scope [] [] (He.ga K d17.name) fd ∧ Stat K mg nt 17 (fnL.getD 17 ⟨[], 0, .skip⟩) d17.name (He.ga K d17.name) fd [(PySem.Str.ofString "_law_box_here"), (PySem.Str.ofString "_law_pool_so")] [(PySem.Str.ofString "_law_box_here"), (PySem.Str.ofString "_law_pool_so")] d17.qual d17.params d17.body d17.scope := by
  obtain ⟨e1, fd, F⟩ := c.def_ X G 17 (d := d17) rfl rfl
  refine ⟨fd, F, rfl, e1, F, ⟨rfl, rfl, rfl, by decide +kernel, rfl, by decide +kernel, by decide +kernel⟩, FunD.bindsN F fun _ _ _ _ _ _ us hl => match us, hl with | [_, _], _ => rfl, rfl, ?_, rfl, by decide +kernel⟩
  exact fun _ _ _ hk => nomatch hk
theorem st18 (c : SaysX dfn dxs K) (X : K.In h) (G : h.Ns mainGlobals mg) : ∃ fd, FunD K d18.name d18.qual d18.params d18.body d18.scope [] [] (He.ga K d18.name) fd ∧ Stat K mg nt 18 (fnL.getD 18 ⟨[], 0, .skip⟩) d18.name (He.ga K d18.name) fd [(PySem.Str.ofString "_law_box_here"), (PySem.Str.ofString "_law_pool_so"), (PySem.Str.ofString "_law_size_so")] [(PySem.Str.ofString "_law_box_here"), (PySem.Str.ofString "_law_pool_so"), (PySem.Str.ofString "_law_size_so"), (PySem.Str.ofString "_law_lap"), (PySem.Str.ofString "_law_left_so"), (PySem.Str.ofString "_law_lot_so")] d18.qual d18.params d18.body d18.scope := by
  obtain ⟨e1, fd, F⟩ := c.def_ X G 18 (d := d18) rfl rfl
  refine ⟨fd, F, rfl, e1, F, ⟨rfl, rfl, rfl, by decide +kernel, rfl, by decide +kernel, by decide +kernel⟩, FunD.bindsN F fun _ _ _ _ _ _ us hl => match us, hl with | [_, _, _], _ => rfl, rfl, ?_, rfl, by decide +kernel⟩
  exact fun _ _ _ hk => nomatch hk
theorem st19 (c : SaysX dfn dxs K) (X : K.In h) (G : h.Ns mainGlobals mg) : ∃ fd, FunD K d19.name d19.qual d19.params d19.body d19.scope [] [] (He.ga K d19.name) fd ∧ Stat K mg nt 19 (fnL.getD 19 ⟨[], 0, .skip⟩) d19.name (He.ga K d19.name) fd [(PySem.Str.ofString "_law_box_here"), (PySem.Str.ofString "_law_rows_so")] [(PySem.Str.ofString "_law_box_here"), (PySem.Str.ofString "_law_rows_so")] d19.qual d19.params d19.body d19.scope := by
  obtain ⟨e1, fd, F⟩ := c.def_ X G 19 (d := d19) rfl rfl
  refine ⟨fd, F, rfl, e1, F, ⟨rfl, rfl, rfl, by decide +kernel, rfl, by decide +kernel, by decide +kernel⟩, FunD.bindsN F fun _ _ _ _ _ _ us hl => match us, hl with | [_, _], _ => rfl, rfl, ?_, rfl, by decide +kernel⟩
  exact fun _ _ _ hk => nomatch hk
theorem st20 (c : SaysX dfn dxs K) (X : K.In h) (G : h.Ns mainGlobals mg) : ∃ fd, FunD K d20.name d20.qual d20.params d20.body d20.scope [] [] (He.ga K d20.name) fd ∧ Stat K mg nt 20 (fnL.getD 20 ⟨[], 0, .skip⟩) d20.name (He.ga K d20.name) fd [(PySem.Str.ofString "_law_tin"), (PySem.Str.ofString "_law_most_so")] [(PySem.Str.ofString "_law_tin"), (PySem.Str.ofString "_law_most_so"), (PySem.Str.ofString "_law_much_so"), (PySem.Str.ofString "_law_found"), (PySem.Str.ofString "_law_j"), (PySem.Str.ofString "_law_pool_so"), (PySem.Str.ofString "_law_k")] d20.qual d20.params d20.body d20.scope := by
  obtain ⟨e1, fd, F⟩ := c.def_ X G 20 (d := d20) rfl rfl
  refine ⟨fd, F, rfl, e1, F, ⟨rfl, rfl, rfl, by decide +kernel, rfl, by decide +kernel, by decide +kernel⟩, FunD.bindsN F fun _ _ _ _ _ _ us hl => match us, hl with | [_, _], _ => rfl, rfl, ?_, rfl, by decide +kernel⟩
  exact fun _ _ _ hk => nomatch hk
theorem st21 (c : SaysX dfn dxs K) (X : K.In h) (G : h.Ns mainGlobals mg) : ∃ fd, FunD K d21.name d21.qual d21.params d21.body d21.scope [] [] (He.ga K d21.name) fd ∧ Stat K mg nt 21 (fnL.getD 21 ⟨[], 0, .skip⟩) d21.name (He.ga K d21.name) fd [(PySem.Str.ofString "_law_bit_so")] [(PySem.Str.ofString "_law_bit_so")] d21.qual d21.params d21.body d21.scope := by
  obtain ⟨e1, fd, F⟩ := c.def_ X G 21 (d := d21) rfl rfl
  refine ⟨fd, F, rfl, e1, F, ⟨rfl, rfl, rfl, by decide +kernel, rfl, by decide +kernel, by decide +kernel⟩, FunD.bindsN F fun _ _ _ _ _ _ us hl => match us, hl with | [_], _ => rfl, rfl, ?_, rfl, by decide +kernel⟩
  exact fun _ _ _ hk => nomatch hk
theorem st22 (c : SaysX dfn dxs K) (X : K.In h) (G : h.Ns mainGlobals mg) : ∃ fd, FunD K d22.name d22.qual d22.params d22.body d22.scope [] [] (He.ga K d22.name) fd ∧ Stat K mg nt 22 (fnL.getD 22 ⟨[], 0, .skip⟩) d22.name (He.ga K d22.name) fd [(PySem.Str.ofString "_law_matter_so")] [(PySem.Str.ofString "_law_matter_so"), (PySem.Str.ofString "_law_j"), (PySem.Str.ofString "_law_own"), (PySem.Str.ofString "_law_bit_so")] d22.qual d22.params d22.body d22.scope := by
  obtain ⟨e1, fd, F⟩ := c.def_ X G 22 (d := d22) rfl rfl
  refine ⟨fd, F, rfl, e1, F, ⟨rfl, rfl, rfl, by decide +kernel, rfl, by decide +kernel, by decide +kernel⟩, FunD.bindsN F fun _ _ _ _ _ _ us hl => match us, hl with | [_], _ => rfl, rfl, ?_, rfl, by decide +kernel⟩
  exact fun _ _ _ hk => nomatch hk
theorem st23 (c : SaysX dfn dxs K) (X : K.In h) (G : h.Ns mainGlobals mg) : ∃ fd, FunD K d23.name d23.qual d23.params d23.body d23.scope [] [] (He.ga K d23.name) fd ∧ Stat K mg nt 23 (fnL.getD 23 ⟨[], 0, .skip⟩) d23.name (He.ga K d23.name) fd [(PySem.Str.ofString "_law_hall_so"), (PySem.Str.ofString "_law_matter_so")] [(PySem.Str.ofString "_law_hall_so"), (PySem.Str.ofString "_law_matter_so"), (PySem.Str.ofString "_law_j"), (PySem.Str.ofString "_law_own"), (PySem.Str.ofString "_law_bit_so")] d23.qual d23.params d23.body d23.scope := by
  obtain ⟨e1, fd, F⟩ := c.def_ X G 23 (d := d23) rfl rfl
  refine ⟨fd, F, rfl, e1, F, ⟨rfl, rfl, rfl, by decide +kernel, rfl, by decide +kernel, by decide +kernel⟩, FunD.bindsN F fun _ _ _ _ _ _ us hl => match us, hl with | [_, _], _ => rfl, rfl, ?_, rfl, by decide +kernel⟩
  exact fun _ _ _ hk => nomatch hk
theorem st24 (c : SaysX dfn dxs K) (X : K.In h) (G : h.Ns mainGlobals mg) : ∃ fd, FunD K d24.name d24.qual d24.params d24.body d24.scope [] [] (He.ga K d24.name) fd ∧ Stat K mg nt 24 (fnL.getD 24 ⟨[], 0, .skip⟩) d24.name (He.ga K d24.name) fd [(PySem.Str.ofString "_law_tin"), (PySem.Str.ofString "_law_hall_so")] [(PySem.Str.ofString "_law_tin"), (PySem.Str.ofString "_law_hall_so"), (PySem.Str.ofString "_law_own"), (PySem.Str.ofString "_law_later_so"), (PySem.Str.ofString "_law_rows_so"), (PySem.Str.ofString "_law_j"), (PySem.Str.ofString "_law_fresh_so"), (PySem.Str.ofString "_law_bit_so")] d24.qual d24.params d24.body d24.scope := by
  obtain ⟨e1, fd, F⟩ := c.def_ X G 24 (d := d24) rfl rfl
  refine ⟨fd, F, rfl, e1, F, ⟨rfl, rfl, rfl, by decide +kernel, rfl, by decide +kernel, by decide +kernel⟩, FunD.bindsN F fun _ _ _ _ _ _ us hl => match us, hl with | [_, _], _ => rfl, rfl, ?_, rfl, by decide +kernel⟩
  exact fun _ _ _ hk => nomatch hk
theorem st25 (c : SaysX dfn dxs K) (X : K.In h) (G : h.Ns mainGlobals mg) : ∃ fd, FunD K d25.name d25.qual d25.params d25.body d25.scope [] [] (He.ga K d25.name) fd ∧ Stat K mg nt 25 (fnL.getD 25 ⟨[], 0, .skip⟩) d25.name (He.ga K d25.name) fd [(PySem.Str.ofString "_law_tin"), (PySem.Str.ofString "_law_hall_so")] [(PySem.Str.ofString "_law_tin"), (PySem.Str.ofString "_law_hall_so"), (PySem.Str.ofString "_law_found"), (PySem.Str.ofString "_law_lap"), (PySem.Str.ofString "_law_row_so"), (PySem.Str.ofString "_law_turn"), (PySem.Str.ofString "_law_own"), (PySem.Str.ofString "_law_pool_so")] d25.qual d25.params d25.body d25.scope := by
  obtain ⟨e1, fd, F⟩ := c.def_ X G 25 (d := d25) rfl rfl
  refine ⟨fd, F, rfl, e1, F, ⟨rfl, rfl, rfl, by decide +kernel, rfl, by decide +kernel, by decide +kernel⟩, FunD.bindsN F fun _ _ _ _ _ _ us hl => match us, hl with | [_, _], _ => rfl, rfl, ?_, rfl, by decide +kernel⟩
  exact fun _ _ _ hk => nomatch hk
theorem st26 (c : SaysX dfn dxs K) (X : K.In h) (G : h.Ns mainGlobals mg) : ∃ fd, FunD K d26.name d26.qual d26.params d26.body d26.scope [] [] (He.ga K d26.name) fd ∧ Stat K mg nt 26 (fnL.getD 26 ⟨[], 0, .skip⟩) d26.name (He.ga K d26.name) fd [(PySem.Str.ofString "_law_hall_so"), (PySem.Str.ofString "_law_bit_so")] [(PySem.Str.ofString "_law_hall_so"), (PySem.Str.ofString "_law_bit_so"), (PySem.Str.ofString "error"), (PySem.Str.ofString "_law_caught"), (PySem.Str.ofString "_law_mine")] d26.qual d26.params d26.body d26.scope := by
  obtain ⟨e1, fd, F⟩ := c.def_ X G 26 (d := d26) rfl rfl
  refine ⟨fd, F, rfl, e1, F, ⟨rfl, rfl, rfl, by decide +kernel, rfl, by decide +kernel, by decide +kernel⟩, FunD.bindsN F fun _ _ _ _ _ _ us hl => match us, hl with | [_, _], _ => rfl, rfl, ?_, rfl, by decide +kernel⟩
  exact fun _ _ _ hk => nomatch hk
theorem st27 (c : SaysX dfn dxs K) (X : K.In h) (G : h.Ns mainGlobals mg) : ∃ fd, FunD K d27.name d27.qual d27.params d27.body d27.scope [] [] (He.ga K d27.name) fd ∧ Stat K mg nt 27 (fnL.getD 27 ⟨[], 0, .skip⟩) d27.name (He.ga K d27.name) fd [(PySem.Str.ofString "_law_tin"), (PySem.Str.ofString "_law_hall_so")] [(PySem.Str.ofString "_law_tin"), (PySem.Str.ofString "_law_hall_so"), (PySem.Str.ofString "_law_inner_so"), (PySem.Str.ofString "_law_plain_so"), (PySem.Str.ofString "_law_pairs_so"), (PySem.Str.ofString "_law_j"), (PySem.Str.ofString "_law_by_so"), (PySem.Str.ofString "_law_got"), (PySem.Str.ofString "_law_due"), (PySem.Str.ofString "_law_odd_so"), (PySem.Str.ofString "_law_rows_so"), (PySem.Str.ofString "_law_soft"), (PySem.Str.ofString "_law_size_so"), (PySem.Str.ofString "_law_own"), (PySem.Str.ofString "_law_far"), (PySem.Str.ofString "_law_near")] d27.qual d27.params d27.body d27.scope := by
  obtain ⟨e1, fd, F⟩ := c.def_ X G 27 (d := d27) rfl rfl
  refine ⟨fd, F, rfl, e1, F, ⟨rfl, rfl, rfl, by decide +kernel, rfl, by decide +kernel, by decide +kernel⟩, FunD.bindsN F fun _ _ _ _ _ _ us hl => match us, hl with | [_, _], _ => rfl, rfl, ?_, rfl, by decide +kernel⟩
  exact fun _ _ _ hk => nomatch hk
theorem st28 (c : SaysX dfn dxs K) (X : K.In h) (G : h.Ns mainGlobals mg) : ∃ fd, FunD K d28.name d28.qual d28.params d28.body d28.scope [] [] (He.ga K d28.name) fd ∧ Stat K mg nt 28 (fnL.getD 28 ⟨[], 0, .skip⟩) d28.name (He.ga K d28.name) fd [] [(PySem.Str.ofString "_law_got"), (PySem.Str.ofString "_law_due"), (PySem.Str.ofString "_law_wide_so"), (PySem.Str.ofString "_law_odd_so"), (PySem.Str.ofString "_law_rows_so"), (PySem.Str.ofString "_law_hall_so"), (PySem.Str.ofString "_law_far"), (PySem.Str.ofString "_law_j"), (PySem.Str.ofString "_law_own"), (PySem.Str.ofString "_law_bit_so")] d28.qual d28.params d28.body d28.scope := by
  obtain ⟨e1, fd, F⟩ := c.def_ X G 28 (d := d28) rfl rfl
  refine ⟨fd, F, rfl, e1, F, ⟨rfl, rfl, rfl, by decide +kernel, rfl, by decide +kernel, by decide +kernel⟩, FunD.bindsN F fun _ _ _ _ _ _ us hl => match us, hl with | [], _ => rfl, rfl, ?_, rfl, by decide +kernel⟩
  exact fun _ _ _ hk => nomatch hk
theorem st29 (c : SaysX dfn dxs K) (X : K.In h) (G : h.Ns mainGlobals mg) : ∃ fd, FunD K d29.name d29.qual d29.params d29.body d29.scope [] [] (He.ga K d29.name) fd ∧ Stat K mg nt 29 (fnL.getD 29 ⟨[], 0, .skip⟩) d29.name (He.ga K d29.name) fd [(PySem.Str.ofString "_law_tin")] [(PySem.Str.ofString "_law_tin"), (PySem.Str.ofString "_law_turn")] d29.qual d29.params d29.body d29.scope := by
  obtain ⟨e1, fd, F⟩ := c.def_ X G 29 (d := d29) rfl rfl
  refine ⟨fd, F, rfl, e1, F, ⟨rfl, rfl, rfl, by decide +kernel, rfl, by decide +kernel, by decide +kernel⟩, FunD.bindsN F fun _ _ _ _ _ _ us hl => match us, hl with | [_], _ => rfl, rfl, ?_, rfl, by decide +kernel⟩
  exact fun _ _ _ hk => nomatch hk
theorem st30 (c : SaysX dfn dxs K) (X : K.In h) (G : h.Ns mainGlobals mg) : ∃ fd, FunD K d30.name d30.qual d30.params d30.body d30.scope [] [] (He.ga K d30.name) fd ∧ Stat K mg nt 30 (fnL.getD 30 ⟨[], 0, .skip⟩) d30.name (He.ga K d30.name) fd [(PySem.Str.ofString "_law_script")] [(PySem.Str.ofString "_law_script"), (PySem.Str.ofString "_law_cells_here"), (PySem.Str.ofString "_law_k")] d30.qual d30.params d30.body d30.scope := by
  obtain ⟨e1, fd, F⟩ := c.def_ X G 30 (d := d30) rfl rfl
  refine ⟨fd, F, rfl, e1, F, ⟨rfl, rfl, rfl, by decide +kernel, rfl, by decide +kernel, by decide +kernel⟩, FunD.bindsN F fun _ _ _ _ _ _ us hl => match us, hl with | [_], _ => rfl, rfl, ?_, rfl, by decide +kernel⟩
  exact fun _ _ _ hk => nomatch hk
theorem fnF (c : SaysX dfn dxs K) (X : K.In h) (G : h.Ns mainGlobals mg) : ∀ f fd, fnL[f]? = some fd → ∃ nm ad fdat ps N qual params body scope, Stat K mg nt f fd nm ad fdat ps N qual params body scope
  | 0, _, e => by
    cases e
    obtain ⟨fd, _, s⟩ := st0 c X G
    exact ⟨_, _, _, _, _, _, _, _, _, s⟩
  | 1, _, e => by
    cases e
    obtain ⟨fd, _, s⟩ := st1 c X G
    exact ⟨_, _, _, _, _, _, _, _, _, s⟩
  | 2, _, e => by
    cases e
    obtain ⟨fd, _, s⟩ := st2 c X G
    exact ⟨_, _, _, _, _, _, _, _, _, s⟩
  | 3, _, e => by
    cases e
    obtain ⟨fd, _, s⟩ := st3 c X G
    exact ⟨_, _, _, _, _, _, _, _, _, s⟩
  | 4, _, e => by
    cases e
    obtain ⟨fd, _, s⟩ := st4 c X G
    exact ⟨_, _, _, _, _, _, _, _, _, s⟩
  | 5, _, e => by
    cases e
    obtain ⟨fd, _, s⟩ := st5 c X G
    exact ⟨_, _, _, _, _, _, _, _, _, s⟩
  | 6, _, e => by
    cases e
    obtain ⟨fd, _, s⟩ := st6 c X G
    exact ⟨_, _, _, _, _, _, _, _, _, s⟩
  | 7, _, e => by
    cases e
    obtain ⟨fd, _, s⟩ := st7 c X G
    exact ⟨_, _, _, _, _, _, _, _, _, s⟩
  | 8, _, e => by
    cases e
    obtain ⟨fd, _, s⟩ := st8 c X G
    exact ⟨_, _, _, _, _, _, _, _, _, s⟩
  | 9, _, e => by
    cases e
    obtain ⟨fd, _, s⟩ := st9 c X G
    exact ⟨_, _, _, _, _, _, _, _, _, s⟩
  | 10, _, e => by
    cases e
    obtain ⟨fd, _, s⟩ := st10 c X G
    exact ⟨_, _, _, _, _, _, _, _, _, s⟩
  | 11, _, e => by
    cases e
    obtain ⟨fd, _, s⟩ := st11 c X G
    exact ⟨_, _, _, _, _, _, _, _, _, s⟩
  | 12, _, e => by
    cases e
    obtain ⟨fd, _, s⟩ := st12 c X G
    exact ⟨_, _, _, _, _, _, _, _, _, s⟩
  | 13, _, e => by
    cases e
    obtain ⟨fd, _, s⟩ := st13 c X G
    exact ⟨_, _, _, _, _, _, _, _, _, s⟩
  | 14, _, e => by
    cases e
    obtain ⟨fd, _, s⟩ := st14 c X G
    exact ⟨_, _, _, _, _, _, _, _, _, s⟩
  | 15, _, e => by
    cases e
    obtain ⟨fd, _, s⟩ := st15 c X G
    exact ⟨_, _, _, _, _, _, _, _, _, s⟩
  | 16, _, e => by
    cases e
    obtain ⟨fd, _, s⟩ := st16 c X G
    exact ⟨_, _, _, _, _, _, _, _, _, s⟩
  | 17, _, e => by
    cases e
    obtain ⟨fd, _, s⟩ := st17 c X G
    exact ⟨_, _, _, _, _, _, _, _, _, s⟩
  | 18, _, e => by
    cases e
    obtain ⟨fd, _, s⟩ := st18 c X G
    exact ⟨_, _, _, _, _, _, _, _, _, s⟩
  | 19, _, e => by
    cases e
    obtain ⟨fd, _, s⟩ := st19 c X G
    exact ⟨_, _, _, _, _, _, _, _, _, s⟩
  | 20, _, e => by
    cases e
    obtain ⟨fd, _, s⟩ := st20 c X G
    exact ⟨_, _, _, _, _, _, _, _, _, s⟩
  | 21, _, e => by
    cases e
    obtain ⟨fd, _, s⟩ := st21 c X G
    exact ⟨_, _, _, _, _, _, _, _, _, s⟩
  | 22, _, e => by
    cases e
    obtain ⟨fd, _, s⟩ := st22 c X G
    exact ⟨_, _, _, _, _, _, _, _, _, s⟩
  | 23, _, e => by
    cases e
    obtain ⟨fd, _, s⟩ := st23 c X G
    exact ⟨_, _, _, _, _, _, _, _, _, s⟩
  | 24, _, e => by
    cases e
    obtain ⟨fd, _, s⟩ := st24 c X G
    exact ⟨_, _, _, _, _, _, _, _, _, s⟩
  | 25, _, e => by
    cases e
    obtain ⟨fd, _, s⟩ := st25 c X G
    exact ⟨_, _, _, _, _, _, _, _, _, s⟩
  | 26, _, e => by
    cases e
    obtain ⟨fd, _, s⟩ := st26 c X G
    exact ⟨_, _, _, _, _, _, _, _, _, s⟩
  | 27, _, e => by
    cases e
    obtain ⟨fd, _, s⟩ := st27 c X G
    exact ⟨_, _, _, _, _, _, _, _, _, s⟩
  | 28, _, e => by
    cases e
    obtain ⟨fd, _, s⟩ := st28 c X G
    exact ⟨_, _, _, _, _, _, _, _, _, s⟩
  | 29, _, e => by
    cases e
    obtain ⟨fd, _, s⟩ := st29 c X G
    exact ⟨_, _, _, _, _, _, _, _, _, s⟩
  | 30, _, e => by
    cases e
    obtain ⟨fd, _, s⟩ := st30 c X G
    exact ⟨_, _, _, _, _, _, _, _, _, s⟩
  | n + 31, _, e => nomatch e
theorem exF (c : SaysX dfn dxs K) (X : K.In h) (G : h.Ns mainGlobals mg) : ∀ i cd, clsX dxs i = some cd → ∃ nm ca, nt.cl i = some nm ∧ nt.fl i = cd.fld ∧ mg nm = some (.ref ca) ∧ cadX K dxs i = some ca ∧ ErrOk K PW mg ca cd
  | 0, _, e => by
    cases e
    obtain ⟨e1, e2⟩ := c.err X G 0 (x := x0) rfl xt0
    exact ⟨_, _, rfl, rfl, e1, rfl, e2⟩
  | n + 1, _, e => nomatch e
theorem fndF : ∀ f nm, nt.fn f = some nm → (fnL[f]?).isSome = true
  | 0, _, _ => rfl
  | 1, _, _ => rfl
  | 2, _, _ => rfl
  | 3, _, _ => rfl
  | 4, _, _ => rfl
  | 5, _, _ => rfl
  | 6, _, _ => rfl
  | 7, _, _ => rfl
  | 8, _, _ => rfl
  | 9, _, _ => rfl
  | 10, _, _ => rfl
  | 11, _, _ => rfl
  | 12, _, _ => rfl
  | 13, _, _ => rfl
  | 14, _, _ => rfl
  | 15, _, _ => rfl
  | 16, _, _ => rfl
  | 17, _, _ => rfl
  | 18, _, _ => rfl
  | 19, _, _ => rfl
  | 20, _, _ => rfl
  | 21, _, _ => rfl
  | 22, _, _ => rfl
  | 23, _, _ => rfl
  | 24, _, _ => rfl
  | 25, _, _ => rfl
  | 26, _, _ => rfl
  | 27, _, _ => rfl
  | 28, _, _ => rfl
  | 29, _, _ => rfl
  | 30, _, _ => rfl
  | n + 31, _, e => nomatch e
theorem exdF : ∀ i nm, nt.cl i = some nm → (clsX dxs i).isSome = true
  | 0, _, _ => rfl
  | n + 1, _, e => nomatch e
theorem facts (c : SaysX dfn dxs K) (X : K.In h) (G : h.Ns mainGlobals mg) : Facts PW K mg nt (fun i => fnL[i]?) (fun i => glbL[i]?) (clsX dxs) (cadX K dxs) where
  fn := fnF c X G
  fnd := fndF
  gld := fun _ _ e => nomatch e
  blt := c.blt X G
  gl := fun _ _ e => nomatch e
  ex := exF c X G
  exd := exdF
  exm := fun c1 c2 a1 a2 h1 h2 _ _ => c.exm c1 c2 a1 a2 h1 h2
end
def lo0 : List PySem.Str := ["is_number", "is_below", "rises", "is_asker", "is_council", "check_members", "askers", "firm_ones", "asked_of", "arcs_of", "asked_by", "is_road", "_law_box", "_law_take", "_law_cells", "_law_same", "_law_lists", "_law_of", "_law_pick", "_law_mixed", "_law_any", "_law_whole", "_law_is_hall", "_law_is_way", "_law_bent", "_law_trails", "_law_heard", "_law_case_right", "_law_by_hand_right", "_law_right"]
def lo1 : List PySem.Str := ["NoMember"]
def loose : List PySem.Str := lo0 ++ lo1
abbrev R : PySem.W.OpenRow := PySem.W.OpenLaw.row RW
abbrev hk : PySem.W.Hook := hookX 4 dfn dxs
def ob (s : PySem.W.SharedT) : AlX := obsXG 4 dfn dxs (HandSHeadRun.getT s)
theorem ob_eq (s : PySem.W.SharedT) : ob s = hk.obs s.abs := obsXG_eq (HandSHeadRun.getT_eq s)
theorem run (w : World) : HandSHeadRun.RunEq R (PySem.W.view R.prog [35]) hk ob 2160 loose w := by
  intro os
  kernel_rfl
end PL.k01
end

set_option maxRecDepth 100000
set_option maxHeartbeats 0
namespace PL.k01
open PySem
theorem ev (ns : List Int) (h1 : ns.length ≤ 63) (h2 : ∀ z ∈ ns, Builtin.Int.intBits z ≤ 1048576) : ∃ j outs, callN (fun i => fnL[i]?) (fun i => glbL[i]?) (clsX dxs) (7 + 1) 30 [(0, .list (ns.map .int))] = .ok (j, .bool true) outs := by
  have e : clsX dxs = fun i => clsL[i]? := by
    funext i
    match i with
    | 0 => rfl
    | n + 1 => rfl
  obtain ⟨outs, h⟩ := law_ok (K := 1048576) (by decide) (by decide) h1 fun c hc => PySem.intBits_le_iff.mp (h2 c hc)
  exact ⟨0, outs, by rw [e]; exact h⟩
end PL.k01
open PySem PySem.W PySem.Calls PyProof.Rows
theorem PySem.Challenge.cw_whomheeds_k01_what_councils_and_roads_ar_holds : PySem.Challenge.rw_whomheeds_k01_what_councils_and_roads_ar.Holds := by
  w_on; o_law
  refine HandSHeadRun.head_any (r := OpenLaw.row PySem.Challenge.rw_whomheeds_k01_what_councils_and_roads_ar) (q := view (OpenLaw.row PySem.Challenge.rw_whomheeds_k01_what_councils_and_roads_ar).prog [35]) (H := PL.k01.hk) (ob := PL.k01.ob) (M := 2160) (loose := PL.k01.loose)
    (d := HandSHeadRun.topDef (OpenLaw.row PySem.Challenge.rw_whomheeds_k01_what_councils_and_roads_ar).prog 35) (kwd := []) PL.k01.ob_eq (by kernel_rfl) (fun s => by kernel_rfl) PL.k01.run
    (by kernel_rfl) (by kernel_rfl) (by kernel_rfl) (by rfl) (by first | assumption | decide +kernel) (by decide +kernel) ⟨rfl, rfl, rfl, rfl, rfl, by decide +kernel⟩ ?hw ?hc
  case hw => w_witness2
  case hc =>
    refine PL.pl_end (l := PySem.Challenge.rw_whomheeds_k01_what_councils_and_roads_ar) (n := 63) (k := 7) (law := 30) (x := "_law_script") (nt := PL.k01.nt) (fns := fun i => PL.k01.fnL[i]?) (glb := fun i => PL.k01.glbL[i]?) (cls := PL.clsX PL.k01.dxs)
      (fd := PL.k01.fnL.getD 30 ⟨[], 0, .skip⟩) rfl (by decide) (by kernel_rfl) ⟨rfl, by decide, by decide⟩ rfl rfl ?Fa PL.k01.ev
    intro w mg fa h Y G hmg0
    obtain ⟨K, KX, c⟩ := Y
    have hmg : mg ("law" : PySem.Str) = some (.ref fa) := by
      have e : (HandSHeadRun.topDef (OpenLaw.row PySem.Challenge.rw_whomheeds_k01_what_councils_and_roads_ar).prog 35).name = ("law" : PySem.Str) := by kernel_rfl
      rw [← e]
      exact hmg0
    obtain ⟨fd, F, st⟩ := PL.k01.st30 c KX G
    have e := hmg.symm.trans st.mg
    cases e
    refine ⟨K, PL.cadX K PL.k01.dxs, _, fd, _, _, _, _, _, KX, PL.k01.facts c KX G, st, fun s v => ?_⟩
    exact L2.FunD.bindsA (ps := ["_law_script"]) F (fun _ _ _ _ _ _ us hl => match us, hl with | [_], _ => rfl) s [v] rfl
