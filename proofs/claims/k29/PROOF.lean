import PyProof.Rows.All
import Wide.All
import OpenK.AllK
import Wide.FinOn
import KE.KStateDown
import Lean
import HandS.Base
import HandS.Call
import HandS.Ends
import HandS.More
import HandS.Words
import HandS.WordsExc
import HandS.Defaults
import HandS.Head0
import HandS.Head1
import HandS.Head2
import HandS.HeadEnd
import HandS.HeadHook1
import HandS.HeadHook2
import PySem.Syntax
import HandS.Comp
import HandS.ForMost
import HandS.IsInst
import HandS.TupMul
import HandS.Style
import PyProof.P3In
import HandS.TupAny
import PyProof.Rows.RegReprOcc
import PyProof.StrLawsIn
import HandS.Iter
import HandS.Zip
import KE.GoesMore
import PyProof.Draws
import PyProof.EnumMake
import PyProof.SumAny
import PyProof.Rows.SumAny
import PyProof.Rows.TupIter
import HandS.RaiseMore
import HandS.Replace
import HandS.Deep
import HandS.Flow
import KE.DatumOrd
import PyProof.SliceStr2
import HandS.Codes
import KE.GoesEnum
import HandS.TryOnly
import HandS.DictComp
import HandS.TupSets
import HandS.Conv
import HandS.SortRule
import HandS.SortInts
import PySem.Challenge.RW_wordsrest_k29_whole_steps_apart_and_over
set_option Elab.async false
set_option linter.all false
/-! EvCore: plain values, a small total evaluator over a core syntax, and the translation from the model's syntax into it. -/
namespace EV
open PySem

/-! ### values -/
inductive PV where
  | non | bl (b : Bool) | int (i : Int) | str (s : List Nat)
  | tup (l : List PV) | lst (l : List PV) | dict (l : List (PV × PV)) | set (l : List PV)
  | cell | fn (x : Str)
  deriving Inhabited

def b2i (b : Bool) : Int := if b then 1 else 0

mutual
def PV.beq : PV → PV → Bool
  | .non, .non => true
  | .bl a, .bl b => a == b
  | .int a, .int b => a == b
  | .str a, .str b => a == b
  | .tup a, .tup b => PV.beqs a b
  | .lst a, .lst b => PV.beqs a b
  | .dict a, .dict b => PV.beqd a b
  | .set a, .set b => PV.beqs a b
  | .cell, .cell => true
  | .fn a, .fn b => decide (a = b)
  | _, _ => false
def PV.beqs : List PV → List PV → Bool
  | [], [] => true
  | a :: as, b :: bs => PV.beq a b && PV.beqs as bs
  | _, _ => false
def PV.beqd : List (PV × PV) → List (PV × PV) → Bool
  | [], [] => true
  | (a, a') :: as, (b, b') :: bs => PV.beq a b && PV.beq a' b' && PV.beqd as bs
  | _, _ => false
end

/- Python's == on plain data -/
mutual
def eqv : PV → PV → Bool
  | .non, .non => true
  | .bl a, .bl b => a == b
  | .bl a, .int j => b2i a == j
  | .int i, .bl b => i == b2i b
  | .int i, .int j => i == j
  | .str x, .str y => x == y
  | .lst xs, .lst ys => eqvs xs ys
  | .tup xs, .tup ys => eqvs xs ys
  | _, _ => false
def eqvs : List PV → List PV → Bool
  | [], [] => true
  | x :: xs, y :: ys => eqv x y && eqvs xs ys
  | _, _ => false
end

mutual
/-- plain data: None, truths, numbers, texts, lists and tuples of these -/
def plain : PV → Bool
  | .non | .bl _ | .int _ | .str _ => true
  | .lst xs | .tup xs => plains xs
  | _ => false
def plains : List PV → Bool
  | [] => true
  | x :: xs => plain x && plains xs
end
mutual
def dep : PV → Nat
  | .lst xs | .tup xs => deps xs + 1
  | _ => 0
def deps : List PV → Nat
  | [] => 0
  | x :: xs => max (dep x) (deps xs)
end
def okD (v : PV) : Bool := plain v && decide (dep v ≤ 64)

/-! ### the monad: a cell (one list that is shared and changed), an error, or stuck -/
structure Exn where
  cls : Str
  arg : List PV
abbrev Cup := List PV
inductive Res (α : Type) where
  | ok (a : α) (c : Cup)
  | ex (e : Exn) (c : Cup)
  | stuck
def M (α : Type) : Type := Cup → Res α
namespace M
def ret {α} (a : α) : M α := fun c => .ok a c
def bnd {α β} (m : M α) (f : α → M β) : M β := fun c => match m c with
  | .ok a c' => f a c'
  | .ex e c' => .ex e c'
  | .stuck => .stuck
def fail {α} : M α := fun _ => .stuck
def thr {α} (e : Exn) : M α := fun c => .ex e c
end M
instance : Monad M where
  pure := M.ret
  bind := M.bnd
def fail {α} : M α := M.fail
def guardM (b : Bool) : M Unit := if b then pure () else fail
def get : M Cup := fun c => .ok c c
def put (c : Cup) : M Unit := fun _ => .ok () c

/-! ### operations -/
abbrev LINE : Nat := 16777216
inductive BOp where | add | sub | mul | fdiv | mod | pow
  deriving DecidableEq
inductive COp where | eq | ne | lt | le | gt | ge | is | isn | isin | notin
  deriving DecidableEq
inductive Ty where | int | str | bool | tuple | list
  deriving DecidableEq

def rep {α} (l : List α) (k : Int) : List α := (List.replicate k.toNat l).flatten
def small63 (k : Int) : Bool := decide (-(2 ^ 63) ≤ k) && decide (k < 2 ^ 63)
def small64 (k : Int) : Bool := decide (-(2 ^ 64) < k) && decide (k < 2 ^ 64)

def addV : PV → PV → M PV
  | .int i, .int j => pure (.int (i + j))
  | .str a, .str b => if a.length + b.length ≤ LINE then pure (.str (a ++ b)) else fail
  | .lst a, .lst b => if a.length + b.length ≤ LINE then pure (.lst (a ++ b)) else fail
  | .tup a, .tup b => if a.length + b.length ≤ LINE then pure (.tup (a ++ b)) else fail
  | _, _ => fail
def subV : PV → PV → M PV
  | .int i, .int j => pure (.int (i - j))
  | _, _ => fail
def mulV : PV → PV → M PV
  | .int i, .int j => if small64 i || small64 j then pure (.int (i * j)) else fail
  | .lst a, .int k => if small63 k && decide (a.length * k.toNat ≤ LINE) then pure (.lst (rep a k)) else fail
  | .str a, .int k => if small63 k && decide (a.length * k.toNat ≤ LINE) then pure (.str (rep a k)) else fail
  | .tup a, .int k => if decide (-(2 ^ 63) ≤ k) && decide (k ≤ 1000) && decide (a.length ≤ 1000) then pure (.tup (rep a k)) else fail
  | _, _ => fail
def fdivV : PV → PV → M PV
  | .int i, .int j => if decide (j ≠ 0) && decide (j.natAbs < 1073741824) then pure (.int (i.fdiv j)) else fail
  | _, _ => fail
def modV : PV → PV → M PV
  | .int i, .int j => if j ≠ 0 then pure (.int (i.fmod j)) else fail
  | _, _ => fail
def powV : PV → PV → M PV
  | .int i, .int j => if decide (0 ≤ j) && decide (j ≤ 1000000) && decide (i.natAbs < 2 ^ 64) then pure (.int (i ^ j.toNat)) else fail
  | _, _ => fail
def binV : BOp → PV → PV → M PV
  | .add => addV | .sub => subV | .mul => mulV | .fdiv => fdivV | .mod => modV | .pow => powV
def negV : PV → M PV
  | .int i => pure (.int (-i))
  | _ => fail

/-- a stands in b at the place i -/
def subL (a b : List Nat) (i : Nat) : Bool := (b.drop i).take a.length == a
def isInfix (a b : List Nat) : Bool := (List.range (b.length + 1)).any (subL a b)
/-- texts in order -/
def ltS : List Nat → List Nat → Bool
  | [], [] => false
  | [], _ :: _ => true
  | _ :: _, [] => false
  | a :: as, b :: bs => if a = b then ltS as bs else decide (a < b)

/-- keys of dicts: whole numbers, texts, tuples of these -/
def flatKey : PV → Bool
  | .int _ | .str _ => true
  | _ => false
def isKey : PV → Bool
  | .int _ | .str _ => true
  | _ => false
/-- what may stand in a set -/
def isSetKey : PV → Bool
  | .int _ | .str _ => true
  | .tup l => l.all flatKey
  | _ => false
def lookD (k : PV) : List (PV × PV) → Option PV
  | [] => none
  | (a, v) :: r => if PV.beq k a then some v else lookD k r
def putD (k v : PV) (d : List (PV × PV)) : List (PV × PV) :=
  if d.any (fun p => PV.beq k p.1) then d.map (fun p => if PV.beq k p.1 then (p.1, v) else p) else d ++ [(k, v)]
def isInV (x : PV) (l : List PV) : Bool := l.any fun y => eqv y x

def eqM (a b : PV) : M Bool := if okD a && okD b then pure (eqv a b) else fail
def inM : PV → PV → M Bool
  | .str a, .str b => pure (isInfix a b)
  | x, .lst l => if okD x && plains l then pure (isInV x l) else fail
  | x, .tup l => if okD x && plains l then pure (isInV x l) else fail
  | x, .dict l => if isKey x then pure (lookD x l).isSome else fail
  | _, _ => fail
def isM : PV → PV → M Bool
  | .non, .non => pure true
  | _, .non => pure false
  | .bl a, .bl b => pure (a == b)
  | .non, .bl _ => pure false
  | .int _, .bl _ => pure false
  | .str _, .bl _ => pure false
  | .tup _, .bl _ => pure false
  | .lst _, .bl _ => pure false
  | .dict _, .bl _ => pure false
  | _, _ => fail
def cmpM : COp → PV → PV → M Bool
  | .eq, a, b => eqM a b
  | .ne, a, b => do let r ← eqM a b; pure (!r)
  | .lt, .int i, .int j => pure (decide (i < j))
  | .le, .int i, .int j => pure (decide (i ≤ j))
  | .gt, .int i, .int j => pure (decide (j < i))
  | .ge, .int i, .int j => pure (decide (j ≤ i))
  | .lt, .str i, .str j => pure (ltS i j)
  | .is, a, b => isM a b
  | .isn, a, b => do let r ← isM a b; pure (!r)
  | .isin, a, b => inM a b
  | .notin, a, b => do let r ← inM a b; pure (!r)
  | _, _, _ => fail

/-- the place of an index -/
def ixOf (n : Nat) (i : Int) : Option Nat := if 0 ≤ i then (if i < n then some i.toNat else none) else if -(n : Int) ≤ i then some (i + n).toNat else none
def atO {α} (l : List α) (i : Int) : Option α := (ixOf l.length i).bind fun j => l[j]?
def optM {α} : Option α → M α
  | some a => pure a
  | none => fail
def idxV : PV → PV → M PV
  | .lst l, .int i => optM (atO l i)
  | .tup l, .int i => optM (atO l i)
  | .str l, .int i => do let c ← optM (atO l i); pure (.str [c])
  | .dict l, k => if isKey k then optM (lookD k l) else fail
  | .cell, .int i => do let c ← get; optM (atO c i)
  | _, _ => fail
/-- a slice's bound -/
def clip (n d : Nat) : Option Int → Nat
  | none => d
  | some i => if i < 0 then (i + n).toNat else min i.toNat n
def cut {α} (l : List α) (lo hi : Option Int) : List α := (l.drop (clip l.length 0 lo)).take (clip l.length l.length hi - clip l.length 0 lo)
def partM : Option PV → M (Option Int)
  | none => pure none
  | some (.int i) => pure (some i)
  | _ => fail
def slcV (v : PV) (lo hi : Option Int) : M PV := match v with
  | .lst l => pure (.lst (cut l lo hi))
  | .tup l => pure (.tup (cut l lo hi))
  | .str l => pure (.str (cut l lo hi))
  | _ => fail
def revV : PV → M PV
  | .lst l => pure (.lst l.reverse)
  | .str l => pure (.str l.reverse)
  | _ => fail

/-- truth -/
def truM : PV → M Bool
  | .non => pure false
  | .bl b => pure b
  | .int i => pure (i != 0)
  | .str s => pure (!s.isEmpty)
  | .lst l => pure (!l.isEmpty)
  | .tup l => pure (!l.isEmpty)
  | .dict l => pure (!l.isEmpty)
  | _ => fail

def isTy : PV → Ty → Option Bool
  | .cell, _ | .fn _, _ | .set _, _ => none
  | .int _, .int => some true
  | .bl _, .int => some true
  | .bl _, .bool => some true
  | .str _, .str => some true
  | .tup _, .tuple => some true
  | .lst _, .list => some true
  | _, _ => some false

/-! ### built-in functions of values -/
inductive Bf where
  | len | all | any | sum | int | str | abs | tuple | list | min | max | sorted | lenset | sortset | lrng | trng
  deriving DecidableEq
def boolsOf : List PV → Option (List Bool)
  | [] => some []
  | .bl b :: r => (boolsOf r).map (b :: ·)
  | _ => none
def intsOf : List PV → Option (List Int)
  | [] => some []
  | .int i :: r => (intsOf r).map (i :: ·)
  | _ => none
def strsOf : List PV → Option (List (List Nat))
  | [] => some []
  | .str i :: r => (strsOf r).map (i :: ·)
  | _ => none
def seqOf : PV → Option (List PV)
  | .lst l => some l
  | .tup l => some l
  | .str s => some (s.map fun c => .str [c])
  | .dict l => some (l.map (·.1))
  | _ => none
def digitsOf (n : Nat) : List Nat := (Nat.toDigits 10 n).map Char.toNat
def showInt (i : Int) : List Nat := (toString i).toList.map Char.toNat
def lstOf : PV → Option (List PV)
  | .lst l => some l
  | _ => none
def ltOf : PV → Option (List PV)
  | .lst l => some l
  | .tup l => some l
  | _ => none
def maxL : Int → List Int → Int
  | m, [] => m
  | m, x :: r => maxL (if m < x then x else m) r
def minL : Int → List Int → Int
  | m, [] => m
  | m, x :: r => minL (if x < m then x else m) r
/-- the first of equal ones stay -/
def dedup : List PV → List PV → List PV
  | acc, [] => acc
  | acc, x :: r => dedup (if acc.any (PV.beq x) then acc else acc ++ [x]) r
def lenV : PV → M PV
  | .lst l => pure (.int l.length)
  | .tup l => pure (.int l.length)
  | .str l => pure (.int l.length)
  | .dict l => pure (.int l.length)
  | _ => fail
def allV : PV → M PV
  | .lst l => do let bs ← optM (boolsOf l); pure (.bl (bs.all id))
  | _ => fail
def anyV : PV → M PV
  | .lst l => do let bs ← optM (boolsOf l); pure (.bl (bs.any id))
  | _ => fail
def sumV : PV → M PV
  | .lst l => do let ns ← optM (intsOf l); pure (.int ns.sum)
  | .tup l => do let ns ← optM (intsOf l); pure (.int ns.sum)
  | _ => fail
def intV : PV → M PV
  | .int i => pure (.int i)
  | .bl b => pure (.int (b2i b))
  | _ => fail
def strV : PV → M PV
  | .str s => pure (.str s)
  | .int i => if decide (i.natAbs.log2 < 1920) && decide ((showInt i).length ≤ LINE) then pure (.str (showInt i)) else fail
  | _ => fail
def absV : PV → M PV
  | .int i => pure (.int (if i < 0 then -i else i))
  | _ => fail
def tupV : PV → M PV
  | .lst l => pure (.tup l)
  | .tup l => pure (.tup l)
  | _ => fail
def listV : PV → M PV
  | .lst l => pure (.lst l)
  | .tup l => pure (.lst l)
  | .str s => pure (.lst (s.map fun c => .str [c]))
  | _ => fail
def max1 : PV → M PV
  | .lst l => do let ns ← optM (intsOf l); match ns with
    | a :: r => pure (.int (maxL a r))
    | [] => fail
  | .tup l => do let ns ← optM (intsOf l); match ns with
    | a :: r => pure (.int (maxL a r))
    | [] => fail
  | _ => fail
def min1 : PV → M PV
  | .lst l => do let ns ← optM (intsOf l); match ns with
    | a :: r => pure (.int (minL a r))
    | [] => fail
  | .tup l => do let ns ← optM (intsOf l); match ns with
    | a :: r => pure (.int (minL a r))
    | [] => fail
  | _ => fail
/-- len(set(xs)) -/
def isTupKey : PV → Bool
  | .tup l => l.all flatKey
  | _ => false
def lensetV : PV → M PV
  | .tup l => if (l.all isTupKey && decide (l.length < 64)) = true then pure (.int (dedup [] l).length) else fail
  | _ => fail
def max2 : PV → PV → M PV
  | .int i, .int j => pure (.int (if j > i then j else i))
  | _, _ => fail
def min2 : PV → PV → M PV
  | .int i, .int j => pure (.int (if j < i then j else i))
  | _, _ => fail
/-! sorted: equal ones in their order -/
def insB {α : Type} (le : α → α → Bool) (x : α) : List α → List α
  | [] => [x]
  | y :: r => if le x y then x :: y :: r else y :: insB le x r
def srtB {α : Type} (le : α → α → Bool) : List α → List α
  | [] => []
  | x :: r => insB le x (srtB le r)
def leI (a b : Int) : Bool := decide (a ≤ b)
def leP (p q : Int × Int) : Bool := if p.1 = q.1 then decide (p.2 ≤ q.2) else decide (p.1 < q.1)
def leS (a b : List Nat) : Bool := !ltS b a
def pairOf : PV → Option (Int × Int)
  | .tup [.int i, .int j] => some (i, j)
  | _ => none
def pairsOf : List PV → Option (List (Int × Int))
  | [] => some []
  | p :: r => match pairOf p, pairsOf r with
    | some q, some qs => some (q :: qs)
    | _, _ => none
def pairP (q : Int × Int) : PV := .tup [.int q.1, .int q.2]
def sortV : PV → M PV
  | .lst l => match intsOf l with
    | some ns => pure (.lst ((srtB leI ns).map .int))
    | none => match pairsOf l with
      | some ps => pure (.lst ((srtB leP ps).map pairP))
      | none => match strsOf l with
        | some ss => if ss.length < 64 then pure (.lst ((srtB leS ss).map .str)) else fail
        | none => fail
  | _ => fail
/-- a row of whole numbers, as a list of values -/
def rngM : List PV → M (List PV)
  | [.int j] => if decide (-(2 ^ 62) ≤ j) && decide (j ≤ LINE) then pure ((List.range j.toNat).map fun (k : Nat) => .int k) else fail
  | [.int i, .int j] => if decide (-(2 ^ 62) ≤ i) && decide (i < 2 ^ 62) && decide (-(2 ^ 62) ≤ j) && decide (j < 2 ^ 62) && decide (j - i ≤ LINE) then pure ((List.range (j - i).toNat).map fun (k : Nat) => .int (i + k)) else fail
  | [.int i, .int j, .int c] => if decide (-(2 ^ 62) ≤ i) && decide (i < 2 ^ 62) && decide (-(2 ^ 62) ≤ j) && decide (j < 2 ^ 62) && decide (i - j ≤ LINE) && decide (c = -1) then pure ((List.range (i - j).toNat).map fun (k : Nat) => .int (i + k * (-1))) else fail
  | _ => fail
def blt1 : Bf → PV → M PV
  | .len => lenV | .all => allV | .any => anyV | .sum => sumV | .int => intV | .str => strV | .abs => absV | .tuple => tupV | .list => listV
  | .max => max1 | .min => min1 | .lenset => lensetV | .sorted => sortV
  | .lrng => fun a => do let l ← rngM [a]; pure (.lst l)
  | .trng => fun a => do let l ← rngM [a]; pure (.tup l)
  | _ => fun _ => fail
def blt2 : Bf → PV → PV → M PV
  | .max => max2 | .min => min2
  | .lrng => fun a b => do let l ← rngM [a, b]; pure (.lst l)
  | .trng => fun a b => do let l ← rngM [a, b]; pure (.tup l)
  | _ => fun _ _ => fail
def bltV (f : Bf) : List PV → M PV
  | [a] => blt1 f a
  | [a, b] => blt2 f a b
  | _ => fail

/-! ### methods that change nothing -/
inductive Mf where
  | join | startswith | endswith | count | index | get
  deriving DecidableEq
def joinS (sep : List Nat) : List (List Nat) → List Nat
  | [] => []
  | [a] => a
  | a :: b :: r => a ++ sep ++ joinS sep (b :: r)
def findS (a b : List Nat) : Option Nat := (List.range (b.length + 1)).find? (subL a b)
def findV (x : PV) : Nat → List PV → Option Nat
  | _, [] => none
  | k, y :: r => if eqv y x then some k else findV x (k + 1) r
def joinV : PV → PV → M PV
  | .str sep, .lst l => do
    let ss ← optM (strsOf l)
    if (ss.map (·.length)).sum + ss.length * sep.length ≤ LINE then pure (.str (joinS sep ss)) else fail
  | _, _ => fail
def startsV : PV → PV → M PV
  | .str a, .str b => pure (.bl (a.take b.length == b))
  | _, _ => fail
def endsV : PV → PV → M PV
  | .str a, .str b => pure (.bl (decide (b.length ≤ a.length) && (a.drop (a.length - b.length) == b)))
  | _, _ => fail
def countV : PV → PV → M PV
  | .str a, .str [c] => pure (.int (a.count c))
  | _, _ => fail
def indexV : PV → PV → M PV
  | .str a, .str b => do let k ← optM (findS b a); pure (.int k)
  | .lst l, v => if okD v && okD (.lst l) then do let k ← optM (findV v 0 l); pure (.int k) else fail
  | _, _ => fail
def getDV : PV → PV → M PV
  | .dict l, k => if isKey k then pure ((lookD k l).getD .non) else fail
  | _, _ => fail
def getDV2 : PV → PV → PV → M PV
  | .dict l, k, d => if isKey k then pure ((lookD k l).getD d) else fail
  | _, _, _ => fail
def mth1 : Mf → PV → PV → M PV
  | .join => joinV | .startswith => startsV | .endswith => endsV | .count => countV | .index => indexV | .get => getDV
def mth2 : Mf → PV → PV → PV → M PV
  | .get => getDV2
  | _ => fun _ _ _ => fail
def recvOk : Mf → PV → Bool
  | .join, .str _ | .startswith, .str _ | .endswith, .str _ | .count, .str _ | .index, .str _ => true
  | .index, .lst _ => true
  | .get, .dict _ => true
  | _, _ => false
def mthV (m : Mf) (o : PV) : List PV → M PV
  | [a] => mth1 m o a
  | [a, b] => mth2 m o a b
  | _ => fail

/-! ### the core syntax -/
inductive CT where
  | nm (i : Nat)
  | tup (l : List CT)
mutual
inductive CE where
  | var (i : Nat) | peek (i : Nat)
  | cst (v : PV) | glb (x : Str) (v : PV)
  | tup (l : List CE) | lst (l : List CE)
  | bin (o : BOp) (a b : CE) | neg (a : CE)
  | cmp (o : COp) (a b : CE) | cmp2 (o o' : COp) (a b c : CE)
  | and (a b : CE) | or (a b : CE) | not (a : CE)
  | ite (c a b : CE)
  | idx (a i : CE) | slc (a : CE) (lo hi : Option CE) | rev (a : CE)
  | call (f : Str) (l : List CE)
  | blt (f : Bf) (l : List CE)
  | mth (m : Mf) (o : CE) (l : List CE)
  | isi (a : CE) (t : Ty)
  | comp (elt : CE) (own : List Nat) (c : CCl) (r : List CCl)
  | dcomp (k v : CE) (own : List Nat) (c : CCl) (r : List CCl)
  | dict (l : List CE)
inductive CIt where
  | seq (e : CE) | rng (l : List CE) | enm (e : CE) | zip (a b : CE)
inductive CCl where
  | mk (t : CT) (it : CIt) (ifs : List CE)
end
instance : Inhabited CE := ⟨.cst .non⟩

/-- a local name: nothing, a value, a list or dict that this name alone has -/
inductive Slot where
  | no | val (v : PV) | own (v : PV)
  deriving Inhabited
abbrev Ev := List Slot
def getV (env : Ev) (i : Nat) : M PV := match env[i]? with
  | some (.val v) => pure v
  | _ => fail
def getP (env : Ev) (i : Nat) : M PV := match env[i]? with
  | some (.val v) => pure v
  | some (.own v) => pure v
  | _ => fail
def wipeE (env : Ev) : List Nat → Ev
  | [] => env
  | v :: vs => (wipeE env vs).set v .no

mutual
def asgO : CT → PV → Ev → Option Ev
  | .nm i, v, env => some (env.set i (.val v))
  | .tup l, .tup vs, env => asgOs l vs env
  | .tup l, .lst vs, env => asgOs l vs env
  | _, _, _ => none
def asgOs : List CT → List PV → Ev → Option Ev
  | [], [], env => some env
  | t :: ts, v :: vs, env => (asgO t v env).bind fun env' => asgOs ts vs env'
  | _, _, _ => none
end
def asgT (t : CT) (v : PV) (env : Ev) : M Ev := optM (asgO t v env)
mutual
/-- the names of a target -/
def tIx : CT → List Nat
  | .nm i => [i]
  | .tup l => tIxs l
def tIxs : List CT → List Nat
  | [] => []
  | t :: ts => tIx t ++ tIxs ts
end

def flatM (f : PV → M (List PV)) : List PV → M (List PV)
  | [] => pure []
  | x :: r => do let a ← f x; let b ← flatM f r; pure (a ++ b)
def flatA (f : PV → List PV → M (List PV)) : List PV → List PV → M (List PV)
  | [], acc => pure acc
  | x :: r, acc => do let acc' ← f x acc; flatA f r acc'
def pushV (acc : List PV) (v : PV) : M (List PV) := if acc.length < LINE then pure (acc ++ [v]) else fail
def enmFrom : Nat → List PV → List PV
  | _, [] => []
  | k, x :: r => .tup [.int k, x] :: enmFrom (k + 1) r
def zipV : List PV → List PV → List PV
  | a :: as, b :: bs => .tup [a, b] :: zipV as bs
  | _, _ => []
def mkD : List PV → List (PV × PV) → M PV
  | [], acc => pure (.dict acc)
  | .tup [k, v] :: r, acc => if isKey k then mkD r (putD k v acc) else fail
  | _, _ => fail
/-- a name that has a dict of its own (it is not walked) -/
def ownD (env : Ev) : CE → Bool
  | .peek i => match env[i]? with
    | some (.own (.dict _)) => true
    | _ => false
  | _ => false
/-- lists, or tuples -/
def zipM : PV → PV → M (List PV)
  | .lst l, .lst m => pure (zipV l m)
  | .tup l, .tup m => pure (zipV l m)
  | .lst l, .tup m => pure (zipV l m)
  | .tup l, .lst m => pure (zipV l m)
  | .str l, .str m => pure (zipV (l.map fun c => .str [c]) (m.map fun c => .str [c]))
  | .str l, .lst m => pure (zipV (l.map fun c => .str [c]) m)
  | .str l, .tup m => pure (zipV (l.map fun c => .str [c]) m)
  | .lst l, .str m => pure (zipV l (m.map fun c => .str [c]))
  | .tup l, .str m => pure (zipV l (m.map fun c => .str [c]))
  | _, _ => fail

section
variable (call : Str → List PV → M PV)
mutual
def evalE : CE → Ev → M PV
  | .var i, env => getV env i
  | .peek i, env => getP env i
  | .cst v, _ => pure v
  | .glb _ v, _ => pure v
  | .tup l, env => do let vs ← evalEs l env; pure (.tup vs)
  | .lst l, env => do let vs ← evalEs l env; pure (.lst vs)
  | .bin o a b, env => do let x ← evalE a env; let y ← evalE b env; binV o x y
  | .neg a, env => do let x ← evalE a env; negV x
  | .cmp o a b, env => do let x ← evalE a env; let y ← evalE b env; let r ← cmpM o x y; pure (.bl r)
  | .cmp2 o o' a b c, env => do
    let x ← evalE a env
    let y ← evalE b env
    let r ← cmpM o x y
    if r then do let z ← evalE c env; let r' ← cmpM o' y z; pure (.bl r') else pure (.bl false)
  | .and a b, env => do let x ← evalE a env; let t ← truM x; if t then evalE b env else pure x
  | .or a b, env => do let x ← evalE a env; let t ← truM x; if t then pure x else evalE b env
  | .not a, env => do let x ← evalE a env; let t ← truM x; pure (.bl (!t))
  | .ite c a b, env => do let x ← evalE c env; let t ← truM x; if t then evalE a env else evalE b env
  | .idx a i, env => do let x ← evalE a env; let y ← evalE i env; idxV x y
  | .slc a lo hi, env => do
    let x ← evalE a env
    let l ← evalO lo env
    let l' ← partM l
    let h ← evalO hi env
    let h' ← partM h
    slcV x l' h'
  | .rev a, env => do let x ← evalE a env; revV x
  | .call f l, env => do let vs ← evalEs l env; call f vs
  | .blt f l, env => do let vs ← evalEs l env; bltV f vs
  | .mth m o l, env => do let x ← evalE o env; guardM (recvOk m x); let vs ← evalEs l env; mthV m x vs
  | .isi a t, env => do let x ← evalE a env; let r ← optM (isTy x t); pure (.bl r)
  | .comp e own (.mk t it ifs) [], env => do
    let xs ← evalIt it env
    let vs ← flatM (fun x => do
      let env' ← asgT t x (wipeE env own)
      let b ← evalIfs ifs env'
      if b then do let v ← evalE e env'; pure [v] else pure []) xs
    pure (.lst vs)
  | .comp e own (.mk t it ifs) [.mk t2 it2 ifs2], env => do
    let xs ← evalIt it env
    let vs ← flatA (fun x acc => do
      let env' ← asgT t x (wipeE env own)
      let b ← evalIfs ifs env'
      if b then do
        let ys ← evalIt it2 env'
        flatA (fun y acc => do
          let env'' ← asgT t2 y (wipeE env' (tIx t2))
          let b ← evalIfs ifs2 env''
          if b then do let v ← evalE e env''; pushV acc v else pure acc) ys acc
      else pure acc) xs []
    pure (.lst vs)
  | .comp _ _ _ (_ :: _ :: _), _ => fail
  | .dcomp k v own (.mk t it ifs) [], env => do
    let xs ← evalIt it env
    let vs ← flatM (fun x => do
      let env' ← asgT t x (wipeE env own)
      let b ← evalIfs ifs env'
      if b then do let a ← evalE k env'; let b ← evalE v env'; guardM (isKey a); pure [.tup [a, b]] else pure []) xs
    mkD vs []
  | .dcomp _ _ _ _ (_ :: _), _ => fail
  | .dict l, env => do let vs ← evalEs l env; mkD vs []
def evalO : Option CE → Ev → M (Option PV)
  | none, _ => pure none
  | some e, env => do let v ← evalE e env; pure (some v)
def evalEs : List CE → Ev → M (List PV)
  | [], _ => pure []
  | e :: r, env => do let v ← evalE e env; let vs ← evalEs r env; pure (v :: vs)
def evalIt : CIt → Ev → M (List PV)
  | .seq e, env => do guardM (!ownD env e); let v ← evalE e env; optM (seqOf v)
  | .rng l, env => do let vs ← evalEs l env; rngM vs
  | .enm e, env => do guardM (!ownD env e); let v ← evalE e env; let l ← optM (ltOf v); pure (enmFrom 0 l)
  | .zip a b, env => do guardM (!ownD env a); let v ← evalE a env; guardM (!ownD env b); let w ← evalE b env; zipM v w
def evalIfs : List CE → Ev → M Bool
  | [], _ => pure true
  | e :: r, env => do let v ← evalE e env; let t ← truM v; if t then evalIfs r env else pure false
end
end

/-! ### statements -/
inductive CS where
  | pass
  | expr (e : CE)
  | asg (t : CT) (e : CE)
  | own (i : Nat) (e : CE)
  | par (l : List (Nat × Bool)) (es : List CE)
  | freeze (i : Nat)
  | aug (i : Nat) (o : BOp) (e : CE)
  | setix (i : Nat) (k e : CE)
  | augix (i : Nat) (k : CE) (o : BOp) (e : CE)
  | app (i : Nat) (e : CE)
  | upd (i : Nat) (e : CE)
  | popTo (t : CT) (i : Nat)
  | ret (e : CE)
  | retN
  | ifs (c : CE) (a b : List CS)
  | whil (c : CE) (b : List CS)
  | fors (t : CT) (it : CIt) (b : List CS)
  | brk
  | cnt
  | raise (cls : Str) (l : List CE)
inductive Out where
  | next (env : Ev) | ret (v : PV) | brk (env : Ev) | cnt (env : Ev)

def forL (f : PV → Ev → M Out) : List PV → Ev → M Out
  | [], env => pure (.next env)
  | x :: r, env => do
    let o ← f x env
    match o with
    | .next e => forL f r e
    | .cnt e => forL f r e
    | .brk e => pure (.next e)
    | .ret v => pure (.ret v)
def whileN (c : Ev → M Bool) (f : Ev → M Out) : Nat → Ev → M Out
  | 0, _ => fail
  | n + 1, env => do
    let t ← c env
    if t then do
      let o ← f env
      match o with
      | .next e => whileN c f n e
      | .cnt e => whileN c f n e
      | .brk e => pure (.next e)
      | .ret v => pure (.ret v)
    else pure (.next env)
def FUEL : Nat := 2 ^ 64

def setAt (l : List PV) (k v : PV) : M (List PV) := match k with
  | .int i => do let j ← optM (ixOf l.length i); pure (l.set j v)
  | _ => fail
/-- x[k] = v of a slot -/
def putIx (env : Ev) (i : Nat) (k v : PV) : M Ev := match env[i]? with
  | some (.own (.lst l)) => do let l' ← setAt l k v; pure (env.set i (.own (.lst l')))
  | some (.own (.dict d)) => if isKey k && decide (d.length < LINE) then pure (env.set i (.own (.dict (putD k v d)))) else fail
  | some (.val .cell) => do let c ← get; let c' ← setAt c k v; put c'; pure env
  | _ => fail
def slotOk (env : Ev) (i : Nat) : Bool := match env[i]? with
  | some (.own (.lst _)) | some (.own (.dict _)) | some (.val .cell) => true
  | _ => false
def ixNat : PV → Option Nat
  | .int j => if 0 ≤ j then some j.toNat else none
  | _ => none
def augV : BOp → PV → PV → M PV
  | .add, .int i, .int j => pure (.int (i + j))
  | .add, .str a, .str b => if a.length + b.length ≤ LINE then pure (.str (a ++ b)) else fail
  | .sub, .int i, .int j => pure (.int (i - j))
  | _, _, _ => fail
/-- slots that take values, or new lists and dicts -/
def parT : List (Nat × Bool) → List PV → Ev → M Ev
  | [], [], env => pure env
  | (i, o) :: r, v :: vs, env => parT r vs (env.set i (if o then .own v else .val v))
  | _, _, _ => fail

section
variable (call : Str → List PV → M PV)
mutual
def evalS : CS → Ev → M Out
  | .pass, env => pure (.next env)
  | .expr e, env => do let _ ← evalE call e env; pure (.next env)
  | .asg t e, env => do let v ← evalE call e env; let env' ← asgT t v env; pure (.next env')
  | .own i e, env => do let v ← evalE call e env; pure (.next (env.set i (.own v)))
  | .par l es, env => do let vs ← evalEs call es env; let env' ← parT l vs env; pure (.next env')
  | .freeze i, env => match env[i]? with
    | some (.own v) => pure (.next (env.set i (.val v)))
    | _ => pure (.next env)
  | .aug i o e, env => match env[i]? with
    | some (.val v) => do let w ← evalE call e env; let r ← augV o v w; pure (.next (env.set i (.val r)))
    | some (.own (.lst l)) => match o with
      | .add => do
        let w ← evalE call e env
        let m ← optM (lstOf w)
        if l.length + m.length ≤ LINE then pure (.next (env.set i (.own (.lst (l ++ m))))) else fail
      | _ => fail
    | _ => fail
  | .setix i k e, env => do guardM (slotOk env i); let v ← evalE call e env; let x ← evalE call k env; let env' ← putIx env i x v; pure (.next env')
  | .augix i k o e, env => match env[i]? with
    | some (.own (.lst l)) => do
      let x ← evalE call k env
      let j ← optM (ixNat x)
      let old ← optM (l[j]?)
      let w ← evalE call e env
      let r ← augV o old w
      pure (.next (env.set i (.own (.lst (l.set j r)))))
    | _ => fail
  | .app i e, env => match env[i]? with
    | some (.own (.lst l)) => do
      let v ← evalE call e env
      if l.length < LINE then pure (.next (env.set i (.own (.lst (l ++ [v]))))) else fail
    | _ => fail
  | .upd i e, env => fail
  | .popTo t i, env => match env[i]? with
    | some (.own (.lst l)) => match l.getLast? with
      | some v => do let env' ← asgT t v (env.set i (.own (.lst l.dropLast))); pure (.next env')
      | none => fail
    | _ => fail
  | .ret e, env => do let v ← evalE call e env; pure (.ret v)
  | .retN, _ => pure (.ret .non)
  | .ifs c a b, env => do let v ← evalE call c env; let t ← truM v; if t then evalB a env else evalB b env
  | .whil c b, env => whileN (fun e => do let v ← evalE call c e; truM v) (fun e => evalB b e) FUEL env
  | .fors t it b, env => do
    let xs ← evalIt call it env
    forL (fun x e => do let e' ← asgT t x e; evalB b e') xs env
  | .brk, env => pure (.brk env)
  | .cnt, env => pure (.cnt env)
  | .raise cls l, env => do let vs ← evalEs call l env; M.thr ⟨cls, vs⟩
def evalB : List CS → Ev → M Out
  | [], env => pure (.next env)
  | s :: r, env => do
    let o ← evalS s env
    match o with
    | .next e => evalB r e
    | .ret v => pure (.ret v)
    | .brk e => pure (.brk e)
    | .cnt e => pure (.cnt e)
end
end
def outV : Out → M PV
  | .next _ => pure .non
  | .ret v => pure v
  | _ => fail
structure CFun where
  np : Nat
  N : List Str
  body : List CS
abbrev Tab := List (Str × CFun)
def startE (n : Nat) (vs : List PV) : Ev := vs.map .val ++ List.replicate (n - vs.length) .no
def runF (call : Str → List PV → M PV) (cf : CFun) (vs : List PV) : M PV :=
  if vs.length = cf.np then do let o ← evalB call cf.body (startE cf.N.length vs); outV o else fail
def evalF (G : Tab) : Nat → Str → List PV → M PV
  | 0, _, _ => fail
  | n + 1, f, vs => match G.lookup f with
    | some cf => runF (evalF G n) cf vs
    | none => fail

/-! ### from the model's syntax -/
structure Glb where
  funs : List Str
  consts : List (Str × PV)
def bfs : List (Str × Bf) := [("len", .len), ("all", .all), ("any", .any), ("sum", .sum), ("int", .int), ("str", .str), ("abs", .abs), ("tuple", .tuple), ("list", .list), ("min", .min), ("max", .max), ("sorted", .sorted)]
def mfs : List (Str × Mf) := [("join", .join), ("startswith", .startswith), ("endswith", .endswith), ("count", .count), ("index", .index), ("get", .get)]
def tys : List (Str × Ty) := [("int", .int), ("str", .str), ("bool", .bool), ("tuple", .tuple), ("list", .list)]
def isLoc (sc : Scope) (x : Str) : Bool := match sc.names.lookup x with
  | some .local | some .cell | some .free => true
  | _ => false
def isStore (sc : Scope) (x : Str) : Bool := match sc.names.lookup x with
  | some .local | some .cell => true
  | _ => false
def isGl (sc : Scope) (x : Str) : Bool := decide (sc.names.lookup x = some .globalImplicit)
def relSc (scope sc : Scope) : Scope :=
  { scope with names := scope.names.map fun (n, k) => if (k == .free && sc.kind == .function && sc.names.lookup n == some .cell) = true then (n, .cell) else (n, k) }
def okS (s : Str) : Bool := s.cps.all (· < 0x110000) && decide (s.cps.size ≤ LINE)
def trC : Const → Option PV
  | .none => some .non
  | .bool b => some (.bl b)
  | .int i => some (.int i)
  | .str s => if okS s then some (.str s.cps.toList) else none
  | _ => none
def trOp : Operator → Option BOp
  | .Add => some .add | .Sub => some .sub | .Mult => some .mul | .FloorDiv => some .fdiv | .Mod => some .mod | .Pow => some .pow
  | _ => none
def trCmp : CmpOp → COp
  | .Eq => .eq | .NotEq => .ne | .Lt => .lt | .LtE => .le | .Gt => .gt | .GtE => .ge | .Is => .is | .IsNot => .isn | .In => .isin | .NotIn => .notin
def ixIn (x : Str) : List Str → Option Nat
  | [] => none
  | a :: r => if a = x then some 0 else (ixIn x r).map (· + 1)
def trN (g : Glb) (N : List Str) (sc : Scope) (pk : Bool) (x : Str) : Option CE :=
  if x == ("__debug__" : Str) || x == ("__classdict__" : Str) then none
  else if isLoc sc x then (ixIn x N).map (if pk then .peek else .var)
  else if isGl sc x then (g.consts.lookup x).map (.glb x)
  else none
def allSome {α} : List (Option α) → Option (List α)
  | [] => some []
  | some a :: r => (allSome r).map (a :: ·)
  | none :: _ => none
def trT : Nat → List Str → Scope → Expr → Option CT
  | 0, _, _, _ => none
  | _ + 1, N, sc, .Name x _ => if isStore sc x then (ixIn x N).map .nm else none
  | n + 1, N, sc, .Tuple es _ _ => (allSome (es.map (trT n N sc))).map .tup
  | _, _, _, _ => none
/-- the parts of a compound expression, each by the same road -/
abbrev Road := Bool → Scope → Expr → Option CE
def isTup : Expr → Bool
  | .Tuple .. => true
  | _ => false
def trIt (pk : Bool) (R : Road) (g : Glb) (sc : Scope) (tt : Bool) : Expr → Option CIt
  | .Call (.Name x p) as [] q =>
    if isGl sc x && !(g.funs.contains x) && (g.consts.lookup x).isNone then
      if x == ("range" : Str) then if as.isEmpty || decide (3 < as.length) then none else (allSome (as.map (R true sc))).map .rng
      else if x == ("enumerate" : Str) then match as with
        | [a] => if tt then (R pk sc a).map .enm else none
        | _ => none
      else if x == ("zip" : Str) then match as with
        | [a, b] => match R pk sc a, R pk sc b with
          | some a', some b' => if tt then some (.zip a' b') else none
          | _, _ => none
        | _ => none
      else (R pk sc (.Call (.Name x p) as [] q)).map .seq
    else (R pk sc (.Call (.Name x p) as [] q)).map .seq
  | e => (R pk sc e).map .seq
def setless : Expr → Bool
  | .Set .. => false
  | _ => true
def trCl (pk : Bool) (R : Road) (g : Glb) (N : List Str) (own : List Nat) (scs sci sc : Scope) (c : Comprehension) : Option CCl :=
  if c.is_async == 0 && decide (c.ifs.length ≤ 1) && setless c.iter then
    match trT 8 N scs c.target, trIt pk R g sci (isTup c.target) c.iter, allSome (c.ifs.map (R true sc)) with
    | some t, some it, some ifs => if (tIx t).all (fun i => own.contains i) then some (.mk t it ifs) else none
    | _, _, _ => none
  else none
/-- the slots of a comprehension's own names -/
def ownIx (N : List Str) (sc scope : Scope) : Option (List (Str × Nat)) :=
  match allSome ((scope.names.filter fun p => p.2 == .local || p.2 == .cell).filterMap fun p => if p.1 == (".0" : Str) then none else some ((ixIn p.1 N).map fun i => (p.1, i))) with
  | some own => if L2.blkC N sc scope own then some own else none
  | none => none
def trO (R : Road) (sc : Scope) : Option Expr → Option (Option CE)
  | none => some none
  | some e => (R true sc e).map some
def isM1 : Option Expr → Bool
  | some (.UnaryOp .USub (.Constant (.int 1) _ _) _) => true
  | _ => false
/-- list(range(..)), tuple(range(..)) -/
def rngArg (g : Glb) (sc : Scope) (x : Str) : List Expr → Option (Bf × List Expr)
  | [.Call (.Name y _) as [] _] => if y == ("range" : Str) && isGl sc y && !(g.funs.contains y) && (g.consts.lookup y).isNone then
      if x == ("list" : Str) then some (.lrng, as) else if x == ("tuple" : Str) then some (.trng, as) else none
    else none
  | _ => none
/-- len(set(a)), sorted(set(a)) -/
def setArg (g : Glb) (sc : Scope) (x : Str) : List Expr → Option (Bf × Expr)
  | [.Call (.Name y _) [a] [] _] => if y == ("set" : Str) && isGl sc y && !(g.funs.contains y) && (g.consts.lookup y).isNone then
      if x == ("len" : Str) then some (.lenset, a) else if x == ("sorted" : Str) then some (.sortset, a) else none
    else none
  | _ => none
def trBool (R : Road) (sc : Scope) (op : BoolOp) : List Expr → Option CE
  | [] => none
  | [e] => R false sc e
  | e :: r => match R false sc e, trBool R sc op r with
    | some a, some b => some (match op with
      | .And => .and a b
      | .Or => .or a b)
    | _, _ => none
def trCallN (R : Road) (g : Glb) (sc : Scope) (x : Str) (as : List Expr) : Option CE :=
  if isGl sc x && !(x == ("__debug__" : Str)) then
    if g.funs.contains x then if as.isEmpty then none else (allSome (as.map (R false sc))).map (.call x)
    else if (g.consts.lookup x).isSome then none
    else if x == ("isinstance" : Str) then match as with
      | [a, .Name t _] => if isGl sc t && !(g.funs.contains t) && (g.consts.lookup t).isNone then
          match R true sc a, tys.lookup t with
          | some a', some t' => some (.isi a' t')
          | _, _ => none
        else none
      | _ => none
    else match setArg g sc x as with
      | some (f, a) => if f == .lenset then (R true sc a).map fun a' => .blt f [a'] else none
      | none => match rngArg g sc x as with
      | some (f, [a]) => (R true sc a).map fun a' => .blt f [a']
      | some (f, [a, b]) => match R true sc a, R true sc b with
        | some a', some b' => some (.blt f [a', b'])
        | _, _ => none
      | some _ => none
      | none => match bfs.lookup x, as with
        | some f, [a] => (R true sc a).map fun a' => .blt f [a']
        | some f, [a, b] => if f == .max || f == .min then match R true sc a, R true sc b with
            | some a', some b' => some (.blt f [a', b'])
            | _, _ => none
          else none
        | _, _ => none
  else none
def bareCall : Expr → Bool
  | .Call _ [] [] _ => true
  | _ => false
def trE (g : Glb) (N : List Str) : Nat → Road
  | 0, _, _, _ => none
  | n + 1, pk, sc, e => match e with
    | .Name x _ => trN g N sc pk x
    | .Constant k _ _ => (trC k).map .cst
    | .BinOp a o b _ => match trE g N n true sc a, trOp o, trE g N n true sc b with
      | some a', some o', some b' => some (.bin o' a' b')
      | _, _, _ => none
    | .UnaryOp .USub a _ => (trE g N n true sc a).map .neg
    | .UnaryOp .Not a _ => (trE g N n true sc a).map .not
    | .BoolOp op es _ => trBool (trE g N n) sc op es
    | .IfExp c a b _ => match trE g N n true sc c, trE g N n false sc a, trE g N n false sc b with
      | some c', some a', some b' => some (.ite c' a' b')
      | _, _, _ => none
    | .Compare a [o] [b] _ => match trE g N n true sc a, trE g N n true sc b with
      | some a', some b' => some (.cmp (trCmp o) a' b')
      | _, _ => none
    | .Compare a [o, o'] [b, c] _ => match trE g N n true sc a, trE g N n true sc b, trE g N n true sc c with
      | some a', some b', some c' => some (.cmp2 (trCmp o) (trCmp o') a' b' c')
      | _, _, _ => none
    | .Tuple es _ _ => if es.length ≤ 1000 then (allSome (es.map (trE g N n false sc))).map .tup else none
    | .List es _ => if es.length ≤ 1000 then (allSome (es.map (trE g N n false sc))).map .lst else none
    | .Subscript a (.Slice lo hi st _) _ =>
      if st.isNone then match trE g N n true sc a, trO (trE g N n) sc lo, trO (trE g N n) sc hi with
        | some a', some l, some h => some (.slc a' l h)
        | _, _, _ => none
      else if lo.isNone && hi.isNone && isM1 st then (trE g N n true sc a).map .rev
      else none
    | .Subscript a i _ => match trE g N n true sc a, trE g N n true sc i with
      | some a', some i' => some (.idx a' i')
      | _, _ => none
    | .Call (.Name x _) as [] _ => trCallN (trE g N n) g sc x as
    | .Call (.Attribute o m ap) as [] cp => if as.isEmpty || decide (29 < as.length) || !(ap.endLine == cp.line) || bareCall o then none else match mfs.lookup m, trE g N n true sc o, allSome (as.map (trE g N n (m == ("join" : Str)) sc)) with
      | some f, some o', some l => some (.mth f o' l)
      | _, _, _ => none
    | .ListComp el [c] scope _ => match ownIx N sc scope with
      | some own => match trCl true (trE g N n) g N (own.map (·.2)) scope sc (relSc scope sc) c, trE g N n false (relSc scope sc) el with
        | some c', some e' => some (.comp e' (own.map (·.2)) c' [])
        | _, _ => none
      | none => none
    | .ListComp el [c, c2] scope _ => match ownIx N sc scope with
      | some own => match trCl true (trE g N n) g N (own.map (·.2)) scope sc (relSc scope sc) c, trCl false (trE g N n) g N (own.map (·.2)) scope (relSc scope sc) (relSc scope sc) c2, trE g N n false (relSc scope sc) el with
        | some c', some c2', some e' => some (.comp e' (own.map (·.2)) c' [c2'])
        | _, _, _ => none
      | none => none
    | .DictComp k v [c] scope _ => match ownIx N sc scope with
      | some own => match trCl true (trE g N n) g N (own.map (·.2)) scope sc (relSc scope sc) c, trE g N n false (relSc scope sc) k, trE g N n false (relSc scope sc) v with
        | some c', some k', some v' => some (.dcomp k' v' (own.map (·.2)) c' [])
        | _, _, _ => none
      | none => none
    | .Dict ks vs _ => if ks.length == vs.length && decide (ks.length ≤ 15) then match allSome (ks.map fun k => match k with
        | some k => trE g N n false sc k
        | none => none), allSome (vs.map (trE g N n false sc)) with
        | some ks', some vs' => some (.dict ((ks'.zip vs').map fun p => .tup [p.1, p.2]))
        | _, _ => none
      else none
    | _ => none

/-! ### which names are changed, which expressions make new lists and dicts -/
mutual
def aliasE : CE → List Nat
  | .var i => [i]
  | .tup l | .lst l | .call _ l | .blt _ l | .dict l => aliasEs l
  | .bin _ a b | .cmp _ a b | .idx a b | .and a b | .or a b => aliasE a ++ aliasE b
  | .neg a | .not a | .rev a | .isi a _ => aliasE a
  | .cmp2 _ _ a b c | .ite a b c => aliasE a ++ aliasE b ++ aliasE c
  | .slc a lo hi => aliasE a ++ aliasO lo ++ aliasO hi
  | .mth _ o l => aliasE o ++ aliasEs l
  | .comp e _ c r => aliasE e ++ aliasC c ++ aliasCs r
  | .dcomp k v _ c r => aliasE k ++ aliasE v ++ aliasC c ++ aliasCs r
  | _ => []
def aliasEs : List CE → List Nat
  | [] => []
  | e :: r => aliasE e ++ aliasEs r
def aliasO : Option CE → List Nat
  | none => []
  | some e => aliasE e
def aliasI : CIt → List Nat
  | .seq e | .enm e => aliasE e
  | .rng l => aliasEs l
  | .zip a b => aliasE a ++ aliasE b
def aliasC : CCl → List Nat
  | .mk _ it ifs => aliasI it ++ aliasEs ifs
def aliasCs : List CCl → List Nat
  | [] => []
  | c :: r => aliasC c ++ aliasCs r
end
def peekI : CIt → List Nat
  | .seq (.peek i) | .enm (.peek i) => [i]
  | .zip (.peek i) (.peek j) => [i, j]
  | .zip (.peek i) _ | .zip _ (.peek i) => [i]
  | _ => []
def fresh : CE → Bool
  | .lst _ | .comp .. | .dcomp .. | .dict _ => true
  | .blt .list _ | .blt .sorted _ | .blt .lrng _ => true
  | .bin .mul (.lst _) _ => true
  | .bin .add _ (.lst _) => true
  | _ => false
def changed (N : List Str) : Nat → List Stmt → List Nat
  | 0, _ => []
  | n + 1, ss => ss.flatMap fun s => match s with
    | .Expr (.Call (.Attribute (.Name x _) m _) _ _ _) _ => if m == ("append" : Str) || m == ("pop" : Str) || m == ("update" : Str) then (ixIn x N).toList else []
    | .Assign [.Subscript (.Name x _) _ _] _ _ => (ixIn x N).toList
    | .Assign _ (.Call (.Attribute (.Name x _) m _) _ _ _) _ => if m == ("pop" : Str) then (ixIn x N).toList else []
    | .Assign [.Tuple ts _ _] (.Tuple _ _ _) _ => (ts.flatMap fun t => match t with
      | .Subscript (.Name x _) _ _ => (ixIn x N).toList
      | _ => [])
    | .AugAssign (.Name x _) _ _ _ => (ixIn x N).toList
    | .AugAssign (.Subscript (.Name x _) _ _) _ _ _ => (ixIn x N).toList
    | .If _ a b _ => changed N n a ++ changed N n b
    | .For _ _ a _ _ => changed N n a
    | .While _ a _ _ => changed N n a
    | _ => []
/-- ahead of a statement: names whose lists go elsewhere -/
def frz (mu : List Nat) (l : List Nat) (s : CS) : List CS := (mu.filter fun i => l.contains i).map .freeze ++ [s]
def nmOf (N : List Str) (sc : Scope) : Expr → Option Nat
  | .Name x _ => if isStore sc x then ixIn x N else none
  | _ => none
def isDC : Expr → Bool
  | .DictComp .. => true
  | _ => false
def isSlice : Expr → Bool
  | .Slice .. => true
  | _ => false
def okNm : Expr → Bool
  | .Name x _ => !(x == ("__debug__" : Str)) && !(x == ("__classdict__" : Str))
  | _ => false
def noComp : Expr → Bool
  | .ListComp .. | .SetComp .. | .DictComp .. => false
  | _ => true
def locNames (sc : Scope) (line : Nat) (ts : List Expr) : List Str := ts.filterMap fun
  | .Name id pos => if (sc.names.lookup id == some .local && pos.line == line) = true then some id else none
  | _ => none
/-- how names on the left of a tuple are stored: from the right, or by unpacking -/
def swapC (sc : Scope) (ts vs : List Expr) : Option Bool :=
  if (match sc.kind with | .function => true | _ => false) = true then
    let nl := locNames sc ((ts.head?.map (·.pos.line)).getD 0) ts
    if ((ts.length == 2 || ts.length == 3) && vs.length == ts.length && nl.length == ts.length && nl.eraseDups.length == nl.length) = true then
      if vs.all (foldedForSure 8) = true then some false
      else if vs.all (constantsAlone 8) = true then none
      else some true
    else some false
  else none
def trPar (R : Road) (N : List Str) (sc : Scope) (mu : List Nat) (ts vs : List Expr) : Option (List CS) := match allSome (ts.map (nmOf N sc)), allSome (vs.map (R false sc)), swapC sc ts vs with
    | some is, some es, some _ =>
      if (is.length = 2 ∨ is.length = 3 ∨ (is.length = 4 ∧ ts.length = 4)) ∧ is.length = es.length ∧ is.Nodup then some (frz mu (aliasEs es) (.par ((is.zip es).map fun p => (p.1, mu.contains p.1 && fresh p.2)) es))
      else none
    | _, _, _ => none
def trAsg (R : Road) (N : List Str) (sc : Scope) (mu : List Nat) (t v : Expr) : Option (List CS) :=
  match t, v with
  | .Name x _, _ => match nmOf N sc t, R false sc v with
    | some i, some e => if isDC v then (if mu.contains i then some (frz mu (aliasE e) (.own i e)) else some (frz mu (aliasE e) (.own i e) ++ [.freeze i]))
      else if mu.contains i && fresh e then some (frz mu (aliasE e) (.own i e)) else some (frz mu (aliasE e) (.asg (.nm i) e))
    | _, _ => none
  | .Tuple ts _ _, .Tuple vs _ _ => match trPar R N sc mu ts vs with
    | some l => some l
    | none => match trT 8 N sc t, R false sc v, swapC sc ts vs with
      | some t', some e, some false => some (frz mu (aliasE e) (.asg t' e))
      | _, _, _ => none
  | .Tuple .., _ => match trT 8 N sc t, R false sc v with
    | some t', some e => some (frz mu (aliasE e) (.asg t' e))
    | _, _ => none
  | .Subscript o k _, _ => if isSlice k || !okNm o then none else match nmOf N sc o, R true sc k, R false sc v with
    | some i, some k', some e => some (frz mu (aliasE e ++ aliasE k') (.setix i k' e))
    | _, _, _ => none
  | _, _ => none
def isCst : CE → Bool
  | .cst _ => true
  | .glb _ _ => true
  | _ => false
def okName (x : Str) : Bool := !(x == ("__debug__" : Str)) && !(x == ("__classdict__" : Str))
def isPop : Expr → Bool
  | .Call (.Attribute (.Name _ _) m _) [] [] _ => m == ("pop" : Str)
  | _ => false
def noTupT : Expr → Bool
  | .Name .. | .Tuple .. => true
  | _ => false
def trS (g : Glb) (N : List Str) (sc : Scope) (mu : List Nat) : Nat → Stmt → Option (List CS)
  | 0, _ => none
  | n + 1, s => match s with
    | .Pass _ => some [.pass]
    | .Break _ => some [.brk]
    | .Continue _ => some [.cnt]
    | .Expr (.Constant (.str _) _ _) _ => some [.pass]
    | .Expr (.Call (.Attribute (.Name x xp) m mp) as [] cp) _ =>
      if m == ("append" : Str) && mp.endLine == cp.line && okName x then match nmOf N sc (.Name x xp), as with
        | some i, [a] => match trE g N 40 false sc a with
          | some e => some (frz mu (aliasE e) (.app i e))
          | none => none
        | _, _ => none
      else none
    | .Expr e _ => if noComp e then match trE g N 40 false sc e with
        | some e' => some (frz mu (aliasE e') (.expr e'))
        | none => none
      else none
    | .Assign [t] v _ => if isPop v then match v with
        | .Call (.Attribute (.Name x xp) m mp) [] [] cp => if mp.endLine == cp.line && okName x && noTupT t then match nmOf N sc (.Name x xp), trT 8 N sc t with
            | some i, some t' => some [.popTo t' i]
            | _, _ => none
          else none
        | _ => none
      else trAsg (trE g N 40) N sc mu t v
    | .AugAssign (.Name x xp) o v _ => match nmOf N sc (.Name x xp), trOp o, trE g N 40 true sc v with
      | some i, some o', some e => some (frz mu (aliasE e) (.aug i o' e))
      | _, _, _ => none
    | .AugAssign (.Subscript (.Name x xp) k _) o v _ => if isSlice k || !okName x then none else match nmOf N sc (.Name x xp), trE g N 40 true sc k, trOp o, trE g N 40 true sc v with
      | some i, some k', some o', some e => some (frz mu (aliasE e ++ aliasE k') (.augix i k' o' e))
      | _, _, _, _ => none
    | .Return none _ => some [.retN]
    | .Return (some e) _ => match trE g N 40 false sc e with
      | some e' => some (frz mu (aliasE e') (.ret e'))
      | none => none
    | .If c a b _ => match trE g N 40 true sc c, allSome (a.map (trS g N sc mu n)), allSome (b.map (trS g N sc mu n)) with
      | some c', some a', some b' => some (frz mu (aliasE c') (.ifs c' a'.flatten b'.flatten))
      | _, _, _ => none
    | .While c a [] _ => match trE g N 40 true sc c, allSome (a.map (trS g N sc mu n)) with
      | some c', some a' => if mu.any (fun i => (aliasE c').contains i) then none else some [.whil c' a'.flatten]
      | _, _ => none
    | .For t it a [] _ => match trT 8 N sc t, (if setless it then trIt false (trE g N 40) g sc (isTup t) it else none), allSome (a.map (trS g N sc mu n)) with
      | some t', some it', some a' => some (frz mu (aliasI it' ++ peekI it') (.fors t' it' a'.flatten))
      | _, _, _ => none
    | .Raise (some (.Call (.Name x _) as [] _)) none _ => match allSome (as.map (trE g N 40 false sc)) with
      | some l => if isGl sc x && l.all isCst then some [.raise x l] else none
      | none => none
    | _ => none
def trB (g : Glb) (N : List Str) (sc : Scope) (ss : List Stmt) : Option (List CS) := (allSome (ss.map (trS g N sc (changed N 12 ss) 12))).map List.flatten
def trF (g : Glb) (np : Nat) (N : List Str) (sc : Scope) (ss : List Stmt) : Option CFun := (trB g N sc ss).map fun b => ⟨np, N, b⟩
end EV

set_option maxRecDepth 100000
set_option maxHeartbeats 2000000
/-! EvRep: how plain values lie in the hand layer's heaps; readings by the evaluator. -/
namespace EV
open PySem PySem.Spec PyProof.Rows L2

theorem line_eq : sizeLine = LINE := by rw [sizeLine_eq]
def toS (l : List Nat) : Str := ⟨l.toArray⟩
theorem toS_cps (l : List Nat) : (toS l).cps.toList = l := by simp [toS]
theorem toS_len (l : List Nat) : (toS l).length = l.length := by
  show (toS l).cps.size = _
  simp [toS]
theorem toS_of (s : Str) : toS s.cps.toList = s := by
  cases s
  simp [toS]
theorem toS_inj {a b : List Nat} (h : toS a = toS b) : a = b := by
  have := congrArg (fun s : Str => s.cps.toList) h
  simpa [toS] using this
def okL (l : List Nat) : Prop := (∀ c ∈ l, c < 0x110000) ∧ l.length ≤ LINE
theorem okS_iff (l : List Nat) : okS (toS l) = true ↔ okL l := by
  unfold okS okL toS
  simp [List.all_eq_true]

/-! ### representation -/
def KT (K : PySem.W.Frag) (a : Addr) (xs : List V) : Prop := ∃ (o : Obj) (its : Array Value) (n : Nat), K.lookup a = some o ∧ o.cls = .type "tuple" ∧ o.data = .seq its n ∧ its.size ≤ sizeLine ∧ Vals xs its.toList
def FL (F : Hp) (a : Addr) (xs : List V) : Prop := F a = some (.lst xs)
def FT (K : PySem.W.Frag) (F : Hp) (a : Addr) (xs : List V) : Prop := F a = some (.tup xs) ∨ KT K a xs
/-- what is frozen stands in the heap (dicts: locked) -/
def Sub (F H : Hp) : Prop := ∀ a o, F a = some o → H a = some o
def Le (F F' : Hp) : Prop := ∀ a o, F a = some o → F' a = some o
theorem Le.refl (F : Hp) : Le F F := fun _ _ h => h
theorem Le.trans {F G H : Hp} (a : Le F G) (b : Le G H) : Le F H := fun c o h => b c o (a c o h)
theorem Sub.rd {F H : Hp} (s : Sub F H) {a o} (h : F a = some o) : Rd H a o := .inl (s a o h)
theorem FL.at {F H a xs} (s : Sub F H) (h : FL F a xs) : H a = some (.lst xs) := s _ _ h
theorem FL.sq {K F H a xs} (s : Sub F H) (h : FL F a xs) : SqL K H a xs := .inl (.inl (h.at s))
theorem FT.sq {K F H a xs} (s : Sub F H) (h : FT K F a xs) : SqT K H a xs := h.elim (fun h => .inl (s.rd h)) .inr
theorem FL.le {F G a xs} (s : Le F G) (h : FL F a xs) : FL G a xs := s _ _ h
theorem FT.le {K F G a xs} (s : Le F G) (h : FT K F a xs) : FT K G a xs := h.elim (fun h => .inl (s _ _ h)) .inr
def keyV : PV → Option Key
  | .int i => some (.inl i)
  | .str s => if okS (toS s) = true then some (.inr (toS s)) else none
  | _ => none

theorem keyV_int {i : Int} {q : Key} (h : keyV (.int i) = some q) : q = .inl i := by cases h; rfl
theorem keyV_str {s : List Nat} {q : Key} (h : keyV (.str s) = some q) : q = .inr (toS s) ∧ okL s := by
  have h : (if okS (toS s) = true then some (Sum.inr (toS s)) else none) = some q := h
  by_cases c : okS (toS s) = true
  · rw [if_pos c] at h
    cases h
    exact ⟨rfl, (okS_iff s).mp c⟩
  · rw [if_neg c] at h; cases h
theorem keyV_str_of {s : List Nat} (h : okL s) : keyV (.str s) = some (.inr (toS s)) := if_pos ((okS_iff s).mpr h)

mutual
inductive RepV (K : PySem.W.Frag) (F : Hp) (C : Option Addr) : PV → V → Prop
  | non : RepV K F C .non .non
  | bl (b : Bool) : RepV K F C (.bl b) (.bl b)
  | int (i : Int) : RepV K F C (.int i) (.int i)
  | str (s : List Nat) (h : okL s) : RepV K F C (.str s) (.str (toS s))
  | tup {a : Addr} {vs : List V} {ps : List PV} (h : FT K F a vs) (z : vs.length ≤ LINE) (r : RepVs K F C ps vs) : RepV K F C (.tup ps) (.ref a)
  | lst {a : Addr} {vs : List V} {ps : List PV} (h : FL F a vs) (z : vs.length ≤ LINE) (r : RepVs K F C ps vs) : RepV K F C (.lst ps) (.ref a)
  | dict {a : Addr} {od : Obj} {ks : List (Key × V)} {ps : List (PV × PV)} (h : F a = some (.frz od (.dK ks))) (z : ks.length ≤ LINE) (r : RepKs K F C ps ks) : RepV K F C (.dict ps) (.ref a)
  | cell {a : Addr} (h : C = some a) : RepV K F C .cell (.ref a)
inductive RepVs (K : PySem.W.Frag) (F : Hp) (C : Option Addr) : List PV → List V → Prop
  | nil : RepVs K F C [] []
  | cons {p : PV} {v : V} {ps : List PV} {vs : List V} (h : RepV K F C p v) (t : RepVs K F C ps vs) : RepVs K F C (p :: ps) (v :: vs)
inductive RepKs (K : PySem.W.Frag) (F : Hp) (C : Option Addr) : List (PV × PV) → List (Key × V) → Prop
  | nil : RepKs K F C [] []
  | cons {p q : PV} {k : Key} {v : V} {ps : List (PV × PV)} {ks : List (Key × V)} (hk : keyV p = some k) (h : RepV K F C q v) (t : RepKs K F C ps ks) : RepKs K F C ((p, q) :: ps) ((k, v) :: ks)
end
section
variable {K : PySem.W.Frag} {F G : Hp} {C : Option Addr}
mutual
theorem RepV.le (s : Le F G) : ∀ {p : PV} {v : V}, RepV K F C p v → RepV K G C p v
  | _, _, .non => .non
  | _, _, .bl b => .bl b
  | _, _, .int i => .int i
  | _, _, .str x h => .str x h
  | _, _, .tup h z r => .tup (h.le s) z (RepVs.le s r)
  | _, _, .lst h z r => .lst (h.le s) z (RepVs.le s r)
  | _, _, .dict h z r => .dict (s _ _ h) z (RepKs.le s r)
  | _, _, .cell h => .cell h
theorem RepVs.le (s : Le F G) : ∀ {ps : List PV} {vs : List V}, RepVs K F C ps vs → RepVs K G C ps vs
  | _, _, .nil => .nil
  | _, _, .cons h t => .cons (RepV.le s h) (RepVs.le s t)
theorem RepKs.le (s : Le F G) : ∀ {ps : List (PV × PV)} {vs : List (Key × V)}, RepKs K F C ps vs → RepKs K G C ps vs
  | _, _, .nil => .nil
  | _, _, .cons e h t => .cons e (RepV.le s h) (RepKs.le s t)
end
theorem RepVs.length : ∀ {ps : List PV} {vs : List V}, RepVs K F C ps vs → ps.length = vs.length
  | _, _, .nil => rfl
  | _, _, .cons _ t => congrArg (· + 1) (RepVs.length t)
theorem RepKs.length : ∀ {ps : List (PV × PV)} {vs : List (Key × V)}, RepKs K F C ps vs → ps.length = vs.length
  | _, _, .nil => rfl
  | _, _, .cons _ _ t => congrArg (· + 1) (RepKs.length t)
theorem RepVs.append : ∀ {ps qs : List PV} {vs ws : List V}, RepVs K F C ps vs → RepVs K F C qs ws → RepVs K F C (ps ++ qs) (vs ++ ws)
  | _, _, _, _, .nil, h => h
  | _, _, _, _, .cons a t, h => .cons a (RepVs.append t h)
theorem RepVs.get : ∀ {ps : List PV} {vs : List V} {i : Nat} {p : PV}, RepVs K F C ps vs → ps[i]? = some p → ∃ v, vs[i]? = some v ∧ RepV K F C p v
  | _, _, i, p, .nil, h => by simp at h
  | _, _, 0, p, .cons a t, h => by
    simp at h
    subst h
    exact ⟨_, rfl, a⟩
  | _, _, i + 1, p, .cons a t, h => by
    obtain ⟨v, h1, h2⟩ := RepVs.get (i := i) t (by simpa using h)
    exact ⟨v, by simpa using h1, h2⟩
theorem RepVs.getR : ∀ {ps : List PV} {vs : List V} {i : Nat} {v : V}, RepVs K F C ps vs → vs[i]? = some v → ∃ p, ps[i]? = some p ∧ RepV K F C p v
  | _, _, i, p, .nil, h => by simp at h
  | _, _, 0, p, .cons a t, h => by
    simp at h
    subst h
    exact ⟨_, rfl, a⟩
  | _, _, i + 1, p, .cons a t, h => by
    obtain ⟨v, h1, h2⟩ := RepVs.getR (i := i) t (by simpa using h)
    exact ⟨v, by simpa using h1, h2⟩
theorem RepVs.take (n : Nat) : ∀ {ps : List PV} {vs : List V}, RepVs K F C ps vs → RepVs K F C (ps.take n) (vs.take n) := by
  induction n with
  | zero => intro ps vs h; simp; exact .nil
  | succ n ih =>
    intro ps vs h
    cases h with
    | nil => simp; exact .nil
    | cons a t => simp; exact .cons a (ih t)
theorem RepVs.drop (n : Nat) : ∀ {ps : List PV} {vs : List V}, RepVs K F C ps vs → RepVs K F C (ps.drop n) (vs.drop n) := by
  induction n with
  | zero => intro ps vs h; simpa using h
  | succ n ih =>
    intro ps vs h
    cases h with
    | nil => simp; exact .nil
    | cons a t => simp; exact ih t
theorem RepVs.set (n : Nat) {p : PV} {v : V} (a : RepV K F C p v) : ∀ {ps : List PV} {vs : List V}, RepVs K F C ps vs → RepVs K F C (ps.set n p) (vs.set n v) := by
  induction n with
  | zero =>
    intro ps vs h
    cases h with
    | nil => exact .nil
    | cons b t => exact .cons a t
  | succ n ih =>
    intro ps vs h
    cases h with
    | nil => exact .nil
    | cons b t => exact .cons b (ih t)
theorem RepVs.reverse {ps : List PV} {vs : List V} (h : RepVs K F C ps vs) : RepVs K F C ps.reverse vs.reverse := by
  induction ps generalizing vs with
  | nil => cases h; exact .nil
  | cons p ps ih =>
    cases h with
    | cons a t =>
      rw [List.reverse_cons, List.reverse_cons]
      exact (ih t).append (.cons a .nil)
theorem RepVs.rep {ps : List PV} {vs : List V} (h : RepVs K F C ps vs) (k : Nat) : RepVs K F C (List.replicate k ps).flatten (List.replicate k vs).flatten := by
  induction k with
  | zero => exact .nil
  | succ k ih => rw [List.replicate_succ, List.replicate_succ, List.flatten_cons, List.flatten_cons]; exact h.append ih
theorem RepV.mono {C' : Option Addr} (e : ∀ a, C = some a → C' = some a) {p : PV} {v : V} (h : RepV K F C p v) : RepV K F C' p v := by
  refine RepV.rec (motive_1 := fun p v _ => RepV K F C' p v) (motive_2 := fun ps vs _ => RepVs K F C' ps vs) (motive_3 := fun ps vs _ => RepKs K F C' ps vs) ?_ ?_ ?_ ?_ ?_ ?_ ?_ ?_ ?_ ?_ ?_ ?_ h
  · exact .non
  · intro b; exact .bl b
  · intro i; exact .int i
  · intro s h; exact .str s h
  · intro a vs ps h z _ r; exact .tup h z r
  · intro a vs ps h z _ r; exact .lst h z r
  · intro a od vs ps h z _ r; exact .dict h z r
  · intro a h; exact .cell (e _ h)
  · exact .nil
  · intro p v ps vs _ _ a b; exact .cons a b
  · exact .nil
  · intro p q k v ps ks hk _ _ a b; exact .cons hk a b
end

/-! ### the state -/
/-- fixed through a def's run: the entry's heaps, the cell's place, what is wanted of errors -/
structure Fix where
  K : PySem.W.Frag
  H0 : Hp
  F0 : Hp
  C : Option Addr
  E : Exn → Cup → Hp → Hp → Prop
def NoTbl (o : HO) : Prop := ∀ ps, o ≠ .tbl ps
structure Good (x : Fix) (cup : Cup) (F H : Hp) : Prop where
  sub : Sub F H
  grow : Le x.F0 F
  new : ∀ a o, F a = some o → x.F0 a = some o ∨ x.H0 a = none
  frame : ∀ b o, x.H0 b = some o → x.C ≠ some b → NoTbl o → H b = some o
  dom : ∀ b, H b = none → x.H0 b = none
  cell : ∀ c, x.C = some c → F c = none ∧ ∃ vs, H c = some (.lst vs) ∧ RepVs x.K F x.C cup vs
structure Step (C : Option Addr) (F H F' H' : Hp) : Prop where
  grow : Le F F'
  new : ∀ a o, F' a = some o → F a = some o ∨ H a = none
  frame : ∀ b o, H b = some o → C ≠ some b → NoTbl o → H' b = some o
  dom : ∀ b, H' b = none → H b = none
theorem Step.refl (C : Option Addr) (F H : Hp) : Step C F H F H := ⟨Le.refl F, fun _ _ h => .inl h, fun _ _ h _ _ => h, fun _ h => h⟩
theorem Step.trans {C : Option Addr} {F H F1 H1 F2 H2 : Hp} (a : Step C F H F1 H1) (b : Step C F1 H1 F2 H2) : Step C F H F2 H2 where
  grow := a.grow.trans b.grow
  new := fun c o h => by
    rcases b.new c o h with h | h
    · exact a.new c o h
    · exact .inr (a.dom c h)
  frame := fun c o h n t => b.frame c o (a.frame c o h n t) n t
  dom := fun c h => a.dom c (b.dom c h)
/-- a list or dict that is not frozen -/
def Own (x : Fix) (F H : Hp) (v : PV) (a : Addr) : Prop := F a = none ∧ x.C ≠ some a ∧ match v with
  | .lst l => ∃ vs, H a = some (.lst vs) ∧ vs.length ≤ LINE ∧ RepVs x.K F x.C l vs
  | .dict l => ∃ ks, H a = some (.dK ks) ∧ ks.length ≤ LINE ∧ RepKs x.K F x.C l ks
  | _ => False
theorem Own.some {x : Fix} {F H : Hp} {v : PV} {a : Addr} (h : Own x F H v a) : ∃ o, H a = some o ∧ NoTbl o := by
  obtain ⟨_, _, h⟩ := h
  cases v with
  | lst l => obtain ⟨vs, e, _⟩ := h; exact ⟨_, e, fun _ z => nomatch z⟩
  | dict l => obtain ⟨vs, e, _⟩ := h; exact ⟨_, e, fun _ z => nomatch z⟩
  | _ => exact h.elim
theorem Own.step {x : Fix} {F H F' H' : Hp} {v : PV} {a : Addr} (h : Own x F H v a) (s : Step x.C F H F' H') : Own x F' H' v a := by
  obtain ⟨o, ho, hn⟩ := h.some
  obtain ⟨h1, h2, h3⟩ := h
  refine ⟨?_, h2, ?_⟩
  · cases e : F' a with
    | none => rfl
    | some u =>
      rcases s.new a u e with z | z
      · rw [h1] at z; cases z
      · rw [ho] at z; cases z
  · cases v with
    | lst l => obtain ⟨vs, e, z, r⟩ := h3; exact ⟨vs, s.frame _ _ e h2 (fun _ z => nomatch z), z, r.le s.grow⟩
    | dict l => obtain ⟨vs, e, z, r⟩ := h3; exact ⟨vs, s.frame _ _ e h2 (fun _ z => nomatch z), z, r.le s.grow⟩
    | _ => exact h3.elim
def SlotOk (x : Fix) (F H : Hp) : Option Slot → Option (Option V) → Prop
  | some (.val v), s => ∃ y, s = some (some y) ∧ RepV x.K F x.C v y
  | some (.own v), s => ∃ a, s = some (some (.ref a)) ∧ Own x F H v a ∧ x.H0 a = none
  | _, _ => True
structure Slots (x : Fix) (F H : Hp) (σ : L2.St) (env : Ev) : Prop where
  len : σ.length = env.length
  ok : ∀ i : Nat, SlotOk x F H (env[i]?) ((show List (Option V) from σ)[i]?)
  sep : ∀ (i j : Nat) v w a, env[i]? = some (.own v) → env[j]? = some (.own w) → (show List (Option V) from σ)[i]? = some (some (.ref a)) → (show List (Option V) from σ)[j]? = some (some (.ref a)) → i = j
theorem Slots.step {x : Fix} {F H F' H' : Hp} {σ : L2.St} {env : Ev} (h : Slots x F H σ env) (s : Step x.C F H F' H') : Slots x F' H' σ env := by
  refine ⟨h.len, fun i => ?_, h.sep⟩
  have := h.ok i
  cases e : env[i]? with
  | none => trivial
  | some sl =>
    rw [e] at this
    cases sl with
    | no => trivial
    | val v => obtain ⟨y, e1, r⟩ := this; exact ⟨y, e1, r.le s.grow⟩
    | own v => obtain ⟨a, e1, o, n⟩ := this; exact ⟨a, e1, o.step s, n⟩
/-- a value that is looked at: frozen, or a list or dict of a name's own -/
def RepH (x : Fix) (F H : Hp) (v : PV) (y : V) : Prop := RepV x.K F x.C v y ∨ ∃ a, y = .ref a ∧ Own x F H v a
theorem RepH.step {x : Fix} {F H F' H' : Hp} {v : PV} {y : V} (h : RepH x F H v y) (s : Step x.C F H F' H') : RepH x F' H' v y := by
  rcases h with h | ⟨a, e, h⟩
  · exact .inl (h.le s.grow)
  · exact .inr ⟨a, e, h.step s⟩
inductive RepHs (x : Fix) (F H : Hp) : List PV → List V → Prop
  | nil : RepHs x F H [] []
  | cons {p v ps vs} (h : RepH x F H p v) (t : RepHs x F H ps vs) : RepHs x F H (p :: ps) (v :: vs)
theorem RepHs.step {x : Fix} {F H F' H' : Hp} (s : Step x.C F H F' H') : ∀ {ps : List PV} {vs : List V}, RepHs x F H ps vs → RepHs x F' H' ps vs
  | _, _, .nil => .nil
  | _, _, .cons h t => .cons (h.step s) (RepHs.step s t)
theorem RepVs.toH {x : Fix} {F H : Hp} : ∀ {ps : List PV} {vs : List V}, RepVs x.K F x.C ps vs → RepHs x F H ps vs
  | _, _, .nil => .nil
  | _, _, .cons h t => .cons (.inl h) (RepVs.toH t)

/-! ### what a run of the evaluator asks -/
def WP (x : Fix) {α : Type} (m : M α) (cup : Cup) (F H : Hp) (P : α → Cup → Hp → Hp → Prop) : Prop := match m cup with
  | .ok v c' => ∀ F' H', Step x.C F H F' H' → Good x c' F' H' → P v c' F' H'
  | .ex e c' => ∀ F' H', Step x.C F H F' H' → Good x c' F' H' → x.E e c' F' H'
  | .stuck => False
section
variable {x : Fix} {α β : Type} {cup : Cup} {F H : Hp}
theorem WP.mono {m : M α} {P P' : α → Cup → Hp → Hp → Prop} (h : WP x m cup F H P) (hp : ∀ v c' F' H', Step x.C F H F' H' → Good x c' F' H' → P v c' F' H' → P' v c' F' H') : WP x m cup F H P' := by
  unfold WP at h ⊢
  cases e : m cup with
  | ok v c' => rw [e] at h; exact fun F' H' s g => hp v c' F' H' s g (h F' H' s g)
  | ex z c' => rw [e] at h; exact h
  | stuck => rw [e] at h; exact h
theorem bind_ok {m : M α} {f : α → M β} {c c' : Cup} {v : α} (e : m c = .ok v c') : (m >>= f) c = f v c' := by
  show M.bnd m f c = _
  unfold M.bnd
  rw [e]
theorem bind_ex {m : M α} {f : α → M β} {c c' : Cup} {v : Exn} (e : m c = .ex v c') : (m >>= f) c = .ex v c' := by
  show M.bnd m f c = _
  unfold M.bnd
  rw [e]
theorem bind_stuck {m : M α} {f : α → M β} {c : Cup} (e : m c = .stuck) : (m >>= f) c = .stuck := by
  show M.bnd m f c = _
  unfold M.bnd
  rw [e]
theorem WP.bind {m : M α} {f : α → M β} {P : β → Cup → Hp → Hp → Prop} (h : WP x (m >>= f) cup F H P) : WP x m cup F H fun v c' F' H' => WP x (f v) c' F' H' P := by
  unfold WP at h
  cases e : m cup with
  | stuck => rw [bind_stuck e] at h; exact h.elim
  | ex z c' =>
    rw [bind_ex e] at h
    unfold WP
    rw [e]
    exact h
  | ok v c' =>
    rw [bind_ok e] at h
    unfold WP
    rw [e]
    intro F1 H1 s1 g1
    show WP x (f v) c' F1 H1 P
    unfold WP
    cases e2 : f v c' with
    | stuck => rw [e2] at h; exact h
    | ex z c2 => rw [e2] at h; exact fun F2 H2 s2 g2 => h F2 H2 (s1.trans s2) g2
    | ok w c2 => rw [e2] at h; exact fun F2 H2 s2 g2 => h F2 H2 (s1.trans s2) g2
theorem WP.pure {v : α} {P : α → Cup → Hp → Hp → Prop} (h : WP x (Pure.pure v : M α) cup F H P) (g : Good x cup F H) : P v cup F H := h F H (Step.refl _ _ _) g
theorem WP.pureS {v : α} {P : α → Cup → Hp → Hp → Prop} (h : WP x (Pure.pure v : M α) cup F H P) {F' H' : Hp} (s : Step x.C F H F' H') (g : Good x cup F' H') : P v cup F' H' := h F' H' s g
theorem WP.fail {P : α → Cup → Hp → Hp → Prop} (h : WP x (EV.fail : M α) cup F H P) : False := h
theorem WP.ite {c : Prop} [Decidable c] {m : M α} {P : α → Cup → Hp → Hp → Prop} (h : WP x (if c then m else EV.fail) cup F H P) : c ∧ WP x m cup F H P := by
  by_cases hc : c
  · rw [if_pos hc] at h; exact ⟨hc, h⟩
  · rw [if_neg hc] at h; exact h.elim
theorem WP.opt {o : Option α} {P : α → Cup → Hp → Hp → Prop} (h : WP x (optM o) cup F H P) (g : Good x cup F H) : ∃ v, o = some v ∧ P v cup F H := by
  cases o with
  | none => exact h.elim
  | some v => exact ⟨v, rfl, h.pure g⟩
end

/-! ### new objects -/
section
variable {x : Fix} {cup : Cup} {F H : Hp} {p : Addr} {o : HO}
theorem Good.nF (g : Good x cup F H) (hp : H p = none) : F p = none := by
  cases e : F p with
  | none => rfl
  | some u =>
    have z := g.sub p u e
    rw [hp] at z; cases z
theorem Good.notC (g : Good x cup F H) (hp : H p = none) : x.C ≠ some p := fun e => by
  obtain ⟨_, vs, z, _⟩ := g.cell p e
  rw [hp] at z; cases z
theorem rd_upd {H : Hp} {a p : Addr} {o u : HO} (h : H a = some u) (hp : H p = none) : upd H p o a = some u := by rw [upd_ne (ne_of_none h hp)]; exact h
/-- a new object, not frozen -/
theorem Step.own (g : Good x cup F H) (hp : H p = none) : Step x.C F H F (upd H p o) where
  grow := Le.refl F
  new := fun _ _ h => .inl h
  frame := fun b u h _ _ => by rw [upd_ne (ne_of_none h hp)]; exact h
  dom := fun b h => by
    by_cases e : b = p
    · subst e; exact hp
    · rw [upd_ne e] at h; exact h
theorem Good.own (g : Good x cup F H) (hp : H p = none) : Good x cup F (upd H p o) where
  sub := fun a u h => rd_upd (g.sub a u h) hp
  grow := g.grow
  new := g.new
  frame := fun b u h n t => by
    have e := g.frame b u h n t
    rw [upd_ne (ne_of_none e hp)]; exact e
  dom := fun b h => by
    by_cases e : b = p
    · subst e; rw [upd_same] at h; cases h
    · rw [upd_ne e] at h; exact g.dom b h
  cell := fun c h => by
    obtain ⟨a, vs, e, r⟩ := g.cell c h
    exact ⟨a, vs, by rw [upd_ne (ne_of_none e hp)]; exact e, r⟩
/-- a new object, frozen -/
theorem le_upd (hp : F p = none) : Le F (upd F p o) := fun a u h => by
  rw [upd_ne (ne_of_none h hp)]; exact h
theorem Step.new' (g : Good x cup F H) (hp : H p = none) : Step x.C F H (upd F p o) (upd H p o) where
  grow := le_upd (g.nF hp)
  new := fun a u h => by
    by_cases e : a = p
    · subst e; exact .inr hp
    · rw [upd_ne e] at h; exact .inl h
  frame := fun b u h _ _ => by rw [upd_ne (ne_of_none h hp)]; exact h
  dom := fun b h => by
    by_cases e : b = p
    · subst e; exact hp
    · rw [upd_ne e] at h; exact h
theorem Good.new' (g : Good x cup F H) (hp : H p = none) : Good x cup (upd F p o) (upd H p o) where
  sub := fun a u h => by
    by_cases e : a = p
    · subst e
      rw [upd_same] at h
      cases h
      exact upd_same
    · rw [upd_ne e] at h
      exact rd_upd (g.sub a u h) hp
  grow := g.grow.trans (le_upd (g.nF hp))
  new := fun a u h => by
    by_cases e : a = p
    · subst e; exact .inr (g.dom _ hp)
    · rw [upd_ne e] at h; exact g.new a u h
  frame := (g.own hp).frame
  dom := (g.own (o := o) hp).dom
  cell := fun c h => by
    obtain ⟨a, vs, e, r⟩ := g.cell c h
    refine ⟨by rw [upd_ne (ne_of_none e hp)]; exact a, vs, by rw [upd_ne (ne_of_none e hp)]; exact e, r.le (le_upd (g.nF hp))⟩
/-- an object of one's own is frozen -/
theorem Good.freeze (g : Good x cup F H) {a : Addr} {o : HO} (ha : H a = some o) (hF : F a = none) (h0 : x.H0 a = none) (hc : x.C ≠ some a) : Good x cup (upd F a o) H where
  sub := fun b u h => by
    by_cases e : b = a
    · subst e
      rw [upd_same] at h
      cases h
      exact ha
    · rw [upd_ne e] at h
      exact g.sub b u h
  grow := g.grow.trans (le_upd hF)
  new := fun b u h => by
    by_cases e : b = a
    · subst e; exact .inr h0
    · rw [upd_ne e] at h; exact g.new b u h
  frame := g.frame
  dom := g.dom
  cell := fun c h => by
    obtain ⟨z, vs, e, r⟩ := g.cell c h
    refine ⟨by rw [upd_ne (fun q => hc (by rw [← q]; exact h))]; exact z, vs, e, r.le (le_upd hF)⟩
/-- .. with another look (a dict is locked) -/
theorem Good.lock (g : Good x cup F H) {a : Addr} {o u : HO} (ha : H a = some o) (hF : F a = none) (h0 : x.H0 a = none) (hc : x.C ≠ some a) : Good x cup (upd F a u) (upd H a u) where
  sub := fun b w h => by
    by_cases e : b = a
    · subst e
      rw [upd_same] at h ⊢
      exact h
    · rw [upd_ne e] at h ⊢
      exact g.sub b w h
  grow := g.grow.trans (le_upd hF)
  new := fun b w h => by
    by_cases e : b = a
    · subst e; exact .inr h0
    · rw [upd_ne e] at h; exact g.new b w h
  frame := fun b w h n t => by
    have : b ≠ a := fun e => by rw [e, h0] at h; cases h
    rw [upd_ne this]
    exact g.frame b w h n t
  dom := fun b h => by
    by_cases e : b = a
    · subst e; exact h0
    · rw [upd_ne e] at h; exact g.dom b h
  cell := fun c h => by
    obtain ⟨z, vs, e, r⟩ := g.cell c h
    have : c ≠ a := fun q => hc (by rw [← q]; exact h)
    refine ⟨by rw [upd_ne this]; exact z, vs, by rw [upd_ne this]; exact e, r.le (le_upd hF)⟩
end

/-! ### readings -/
abbrev ME := Ev → M PV
def tE (x : Fix) (m : ME) : TE := fun σ H Q => ∃ cup F env, Good x cup F H ∧ Slots x F H σ env ∧ WP x (m env) cup F H fun v _ F' H' => ∀ y, RepV x.K F' x.C v y → Q y H'
def tP (x : Fix) (m : ME) : TE := fun σ H Q => ∃ cup F env, Good x cup F H ∧ Slots x F H σ env ∧ WP x (m env) cup F H fun v _ F' H' => ∀ y, RepH x F' H' v y → Q y H'
def tAs (x : Fix) (m : Ev → M (List PV)) : TA := fun σ H Q => ∃ cup F env, Good x cup F H ∧ Slots x F H σ env ∧ WP x (m env) cup F H fun v _ F' H' => ∀ y, RepVs x.K F' x.C v y → Q y H'
def tPs (x : Fix) (m : Ev → M (List PV)) : TA := fun σ H Q => ∃ cup F env, Good x cup F H ∧ Slots x F H σ env ∧ WP x (m env) cup F H fun v _ F' H' => ∀ y, RepHs x F' H' v y → Q y H'
/-- a new list or dict -/
def tN (x : Fix) (m : ME) : TE := fun σ H Q => ∃ cup F env, Good x cup F H ∧ Slots x F H σ env ∧ WP x (m env) cup F H fun v _ F' H' => ∀ a, Own x F' H' v a → H a = none → Q (.ref a) H'
def tT (x : Fix) (m : ME) : TT := fun σ H Q => ∃ cup F env, Good x cup F H ∧ Slots x F H σ env ∧ WP x (m env >>= truM) cup F H fun b _ F' H' => Q b H'
section
variable {X : Cx}
theorem PE.weak {e : Expr} {t t' : TE} (h : PE X e t) (w : ∀ σ H Q, t' σ H Q → t σ H Q) : PE X e t' := ⟨fun pins s σ H Q I q => h.run pins s σ H Q I (w σ H Q q)⟩
theorem PT.weak {e : Expr} {t t' : TT} (h : PT X e t) (w : ∀ σ H Q, t' σ H Q → t σ H Q) : PT X e t' := ⟨fun pins s σ H Q I q => h.run pins s σ H Q I (w σ H Q q)⟩
theorem PA.weak {e : List Expr} {t t' : TA} (h : PA X e t) (w : ∀ σ H Q, t' σ H Q → t σ H Q) : PA X e t' := ⟨fun pos pins s σ H Q I q => h.run pos pins s σ H Q I (w σ H Q q)⟩
theorem PS.weak {e : Stmt} {t t' : TS} (h : PS X e t) (w : ∀ D σ H, t' D σ H → t D σ H) : PS X e t' := ⟨fun pins s σ H D I q => h.run pins s σ H D I (w D σ H q)⟩
theorem PSs.weak {e : List Stmt} {t t' : TS} (h : PSs X e t) (w : ∀ D σ H, t' D σ H → t D σ H) : PSs X e t' := ⟨fun pins s σ H D I q => h.run pins s σ H D I (w D σ H q)⟩
/-- what is frozen may be looked at -/
theorem tP_tE {x : Fix} {m : ME} {σ : L2.St} {H : Hp} {Q : VK} (h : tP x m σ H Q) : tE x m σ H Q := by
  obtain ⟨cup, F, env, g, sl, w⟩ := h
  exact ⟨cup, F, env, g, sl, w.mono fun v c' F' H' _ _ q y r => q y (.inl r)⟩
theorem tPs_tAs {x : Fix} {m : Ev → M (List PV)} {σ : L2.St} {H : Hp} {Q : List V → Hp → Prop} (h : tPs x m σ H Q) : tAs x m σ H Q := by
  obtain ⟨cup, F, env, g, sl, w⟩ := h
  exact ⟨cup, F, env, g, sl, w.mono fun v c' F' H' _ _ q y r => q y r.toH⟩
end
end EV

set_option maxRecDepth 100000
set_option maxHeartbeats 4000000
/-! EvTm: tuple * 0, tuple * 1, () * k. -/
namespace EV
open PySem PySem.Spec PyProof.Rows L2
open AutoSeq1 (wpAny_loadPart')
/-- the tuple itself -/
theorem tuple_mul_self (t : Addr) (vs : Array Value) (m : Nat) (dd : Option Addr) (sl : Array (Option Value)) (k : Int) (u : Tok) (fits : (decide (k < -(2 ^ 63)) || decide (k ≥ 2 ^ 63)) = false) (same : (vs.isEmpty || k == 1) = true) :
    Meets (Builtin.«tuple.__mul__» ⟨[.ref t, .int k u], []⟩) (fun _ R s => s.heap.get? t = some { cls := .type "tuple", dict := dd, data := .seq vs m, slots := sl } ∧ R (.ok (.ret (Value.ref t))) s) := by
  refine .of_wp fun P w A R s q => ?_
  obtain ⟨hp, gl, dr, tk, os⟩ := s
  obtain ⟨there, fin⟩ := q
  have index := AutoSeq1.idx_int
  wp_walk using wpAny_loadPart' there
  repeat (first
    | (refine wpAny_ite_false (decide_eq_false (by rw [fits]; exact Bool.false_ne_true)) ?_; wp_walk using wpAny_loadPart' there)
    | (refine wpAny_ite_true (decide_eq_true same) ?_; wp_walk using wpAny_loadPart' there))
  exact ⟨_, rfl, fin⟩
/-- nothing -/
theorem tuple_mul_none (t : Addr) (vs : Array Value) (m : Nat) (dd : Option Addr) (sl : Array (Option Value)) (k : Int) (u : Tok) (fits : (decide (k < -(2 ^ 63)) || decide (k ≥ 2 ^ 63)) = false) (other : (vs.isEmpty || k == 1) = false) (low : (decide (k ≤ 0) || vs.isEmpty) = true) :
    Meets (Builtin.«tuple.__mul__» ⟨[.ref t, .int k u], []⟩) (fun _ R s => s.heap.get? t = some { cls := .type "tuple", dict := dd, data := .seq vs m, slots := sl } ∧
      R (.ok (.ret (Value.ref s.heap.objs.size))) { s with heap := s.heap.push { cls := Value.type "tuple", data := Data.seq #[] }, toks := s.toks }) := by
  refine .of_wp fun P w A R s q => ?_
  obtain ⟨hp, gl, dr, tk, os⟩ := s
  obtain ⟨there, fin⟩ := q
  have index := AutoSeq1.idx_int
  wp_walk using wpAny_loadPart' there
  repeat (first
    | (refine wpAny_ite_false (decide_eq_false (by rw [fits]; exact Bool.false_ne_true)) ?_; wp_walk using wpAny_loadPart' there)
    | (refine wpAny_ite_false (decide_eq_false (by rw [other]; exact Bool.false_ne_true)) ?_; wp_walk using wpAny_loadPart' there)
    | (refine wpAny_ite_true (decide_eq_true low) ?_; wp_walk using wpAny_loadPart' there))
  exact ⟨_, rfl, fin⟩
def rRepS (K : PySem.W.Frag) : R2 := fun x y H Q => ∃ l k xs, x = .ref l ∧ y = .int k ∧ SqT K H l xs ∧ -(2 ^ 63) ≤ k ∧ k < 2 ^ 63 ∧ (((xs = [] ∨ k = 1) ∧ Q (.ref l) H) ∨ (xs ≠ [] ∧ k ≤ 0 ∧ ∀ p, H p = none → Q (.ref p) (upd H p (.tup []))))
variable {X : Cx}
theorem op_repS : OpR X (binaryOp .Mult) (rRepS X.K) := by
  intro pins s σ H x y v u Q I rx ry h
  obtain ⟨l, k, xs, rfl, rfl, isq, b1, b2, q⟩ := h
  cases rx
  obtain ⟨tk, rfl⟩ := ry
  obtain ⟨its, rv, ⟨⟨cl, dd, dt, sl⟩, there, e1, m, e2⟩, small⟩ := I.tuple isq
  simp only at e1 e2
  subst e1 e2
  have fits : (decide (k < -(2 ^ 63)) || decide (k ≥ 2 ^ 63)) = false := by
    rw [decide_eq_false (by omega), decide_eq_false (by omega)]
    rfl
  have len : its.length = xs.length := rv.length.symm
  have isE : its.toArray.isEmpty = xs.isEmpty := by
    cases its <;> cases xs <;> first | rfl | (simp at len)
  have isI : ∀ s' : Shared, s'.TypeIs (.int k tk) "int" := fun s' => typeIs_int s' k tk
  have rm := int_rmul_tuple k tk l its.toArray m dd sl
  refine wpAny_binaryOp_repeat_ref (T := "tuple") (U := "int") (by decide) ⟨_, there, rfl⟩ isI noFill_tuple_mul F.fills_int_mul F.slot_int_rmul repeat_tuple F.slot_int_index.lookup
    (call_meets F.slot_int_rmul (isI s) F.entry_int_rmul (F.args_int_rmul_2 _ _) rm ⟨there, rfl, ⟨_, there, rfl⟩, ?_⟩)
  have isT : s.TypeIs (.ref l) "tuple" := ⟨_, there, rfl⟩
  by_cases same : (xs.isEmpty || k == 1) = true
  · have ms := tuple_mul_self l its.toArray m dd sl k tk fits (by rw [isE]; exact same)
    refine call_meets F.slot_tuple_mul isT F.entry_tuple_mul (F.args_tuple_mul_2 _ _) ms ⟨there, ?_⟩
    rcases q with ⟨_, q⟩ | ⟨ne, low, _⟩
    · exact ⟨.ref l, H, I, rfl, q⟩
    · exfalso
      rw [Bool.or_eq_true] at same
      rcases same with z | z
      · exact ne (List.isEmpty_iff.mp z)
      · have := eq_of_beq z
        omega
  · have other : (its.toArray.isEmpty || k == 1) = false := by rw [isE]; exact Bool.eq_false_iff.mpr same
    rcases q with ⟨z, _⟩ | ⟨ne, low, q⟩
    · exfalso
      refine same ?_
      rcases z with rfl | rfl
      · rfl
      · rw [Bool.or_eq_true]; exact .inr rfl
    · have mn := tuple_mul_none l its.toArray m dd sl k tk fits other (by rw [decide_eq_true low]; rfl)
      refine call_meets F.slot_tuple_mul isT F.entry_tuple_mul (F.args_tuple_mul_2 _ _) mn ⟨there, ?_⟩
      exact ⟨.ref s.heap.objs.size, _, I.laid (t' := s.toks) (o := .tup []) (fun b ob z => Heap.get?_push_of_some _ z) (Nat.le_refl _) ⟨Nat.zero_le _, [], .nil, IsTup.new _ _⟩, rfl, q _ (I.hok.fresh (Nat.le_refl _))⟩
end EV

set_option maxRecDepth 100000
set_option maxHeartbeats 2000000
/-! EvOps: the operators of the evaluator are the model's. -/
namespace EV
open PySem PySem.Spec PyProof.Rows L2

/-! ### inversion -/
section
variable {x : Fix} {F H : Hp} {y : V}
theorem RepH.int {i : Int} (h : RepH x F H (.int i) y) : y = .int i := by
  rcases h with h | ⟨a, _, _, _, h⟩
  · cases h; rfl
  · exact h.elim
theorem RepH.bl {i : Bool} (h : RepH x F H (.bl i) y) : y = .bl i := by
  rcases h with h | ⟨a, _, _, _, h⟩
  · cases h; rfl
  · exact h.elim
theorem RepH.non (h : RepH x F H .non y) : y = .non := by
  rcases h with h | ⟨a, _, _, _, h⟩
  · cases h; rfl
  · exact h.elim
theorem RepH.str {s : List Nat} (h : RepH x F H (.str s) y) : y = .str (toS s) ∧ okL s := by
  rcases h with h | ⟨a, _, _, _, h⟩
  · cases h with
    | str _ h => exact ⟨rfl, h⟩
  · exact h.elim
theorem RepH.tup {l : List PV} (h : RepH x F H (.tup l) y) : ∃ a vs, y = .ref a ∧ FT x.K F a vs ∧ vs.length ≤ LINE ∧ RepVs x.K F x.C l vs := by
  rcases h with h | ⟨a, _, _, _, h⟩
  · cases h with
    | tup h z r => exact ⟨_, _, rfl, h, z, r⟩
  · exact h.elim
theorem RepH.lst {l : List PV} (h : RepH x F H (.lst l) y) (s : Sub F H) : ∃ a vs, y = .ref a ∧ H a = some (.lst vs) ∧ vs.length ≤ LINE ∧ RepVs x.K F x.C l vs := by
  rcases h with h | ⟨a, e, _, _, vs, h, z, r⟩
  · cases h with
    | lst h z r => exact ⟨_, _, rfl, h.at s, z, r⟩
  · exact ⟨a, vs, e, h, z, r⟩
theorem RepH.dict {l : List (PV × PV)} (h : RepH x F H (.dict l) y) (s : Sub F H) : ∃ a ks, y = .ref a ∧ Rd H a (.dK ks) ∧ ks.length ≤ LINE ∧ RepKs x.K F x.C l ks := by
  rcases h with h | ⟨a, e, _, _, vs, h, z, r⟩
  · cases h with
    | dict h z r => exact ⟨_, _, rfl, .inr ⟨_, s _ _ h⟩, z, r⟩
  · exact ⟨a, vs, e, .inl h, z, r⟩
theorem RepH.cell (h : RepH x F H .cell y) : ∃ a, y = .ref a ∧ x.C = some a := by
  rcases h with h | ⟨a, _, _, _, h⟩
  · cases h with
    | cell h => exact ⟨_, rfl, h⟩
  · exact h.elim
end

/-! ### results -/
def OwnL (x : Fix) (F H : Hp) (v : PV) (a : Addr) : Prop := (∃ l, v = .lst l) ∧ Own x F H v a
theorem OwnL.step {x : Fix} {F H F' H' : Hp} {v : PV} {a : Addr} (h : OwnL x F H v a) (s : Step x.C F H F' H') : OwnL x F' H' v a := ⟨h.1, h.2.step s⟩
/-- a result: frozen, or a list that is new since H -/
def RepR (x : Fix) (F' H' H : Hp) (v : PV) (y : V) : Prop := RepV x.K F' x.C v y ∨ ∃ a, y = .ref a ∧ OwnL x F' H' v a ∧ H a = none
theorem RepR.old {x : Fix} {F' H' H1 H : Hp} {v : PV} {y : V} (h : RepR x F' H' H1 v y) (d : ∀ b, H1 b = none → H b = none) : RepR x F' H' H v y :=
  h.elim .inl fun ⟨a, e, o, n⟩ => .inr ⟨a, e, o, d _ n⟩
def tR (x : Fix) (m : ME) : TE := fun σ H Q => ∃ cup F env, Good x cup F H ∧ Slots x F H σ env ∧ WP x (m env) cup F H fun v _ F' H' => ∀ y, RepR x F' H' H v y → Q y H'
/-- what is new may be frozen -/
theorem freeze_new {x : Fix} {cup : Cup} {F H F' H' : Hp} {v : PV} {a : Addr} (g : Good x cup F' H') (s : Step x.C F H F' H') (o : OwnL x F' H' v a) (n : H a = none) (d : x.H0 a = none) :
    ∃ F2, Step x.C F H F2 H' ∧ Good x cup F2 H' ∧ RepV x.K F2 x.C v (.ref a) := by
  obtain ⟨⟨l, el⟩, o1, o2, o3⟩ := o
  subst el
  have st : ∀ u, Step x.C F H (upd F' a u) H' := fun u => ⟨s.grow.trans (le_upd o1), fun b w h => by
    by_cases e : b = a
    · subst e; exact .inr n
    · rw [upd_ne e] at h; exact s.new b w h, s.frame, s.dom⟩
  obtain ⟨vs, e, z, r⟩ := o3
  exact ⟨upd F' a (.lst vs), st _, g.freeze e o1 d o2, .lst (by unfold FL; rw [upd_same]) z (r.le (le_upd o1))⟩
theorem WP.frz {x : Fix} {m : M PV} {cup : Cup} {F H : Hp} {Q : VK} (g : Good x cup F H) (h : WP x m cup F H fun v _ F' H' => ∀ y, RepV x.K F' x.C v y → Q y H') : WP x m cup F H fun v _ F' H' => ∀ y, RepR x F' H' H v y → Q y H' := by
  unfold WP at h ⊢
  cases e : m cup with
  | stuck => rw [e] at h; exact h
  | ex z c => rw [e] at h; exact h
  | ok v c =>
    rw [e] at h
    intro F' H' s g' y r
    rcases r with r | ⟨a, rfl, o, n⟩
    · exact h F' H' s g' y r
    · obtain ⟨F2, s2, g2, r2⟩ := freeze_new g' s o n (g.dom _ n)
      exact h F2 H' s2 g2 _ r2
theorem tR_tE {x : Fix} {m : ME} {σ : L2.St} {H : Hp} {Q : VK} (h : tE x m σ H Q) : tR x m σ H Q := by
  obtain ⟨cup, F, env, g, sl, w⟩ := h
  exact ⟨cup, F, env, g, sl, w.frz g⟩
theorem RepR.toH {x : Fix} {F' H' H : Hp} {v : PV} {y : V} (h : RepR x F' H' H v y) : RepH x F' H' v y := h.elim .inl fun ⟨a, e, o, _⟩ => .inr ⟨a, e, o.2⟩
/-- a result may be looked at -/
theorem tR_tP {x : Fix} {m : ME} {σ : L2.St} {H : Hp} {Q : VK} (h : tP x m σ H Q) : tR x m σ H Q := by
  obtain ⟨cup, F, env, g, sl, w⟩ := h
  exact ⟨cup, F, env, g, sl, w.mono fun v c F' H' _ _ q y r => q y r.toH⟩

/-! ### the operators -/
def r2 (x : Fix) (f : PV → PV → M PV) : R2 := fun y1 y2 H Q => ∃ v1 v2 cup F, Good x cup F H ∧ RepH x F H v1 y1 ∧ RepH x F H v2 y2 ∧ WP x (f v1 v2) cup F H fun v _ F' H' => ∀ y, RepR x F' H' H v y → Q y H'
def r1 (x : Fix) (f : PV → M PV) : V → Hp → VK → Prop := fun y1 H Q => ∃ v1 cup F, Good x cup F H ∧ RepH x F H v1 y1 ∧ WP x (f v1) cup F H fun v _ F' H' => ∀ y, RepR x F' H' H v y → Q y H'
def rL (x : Fix) (f : List PV → M PV) : List V → Hp → VK → Prop := fun ys H Q => ∃ vs cup F, Good x cup F H ∧ RepHs x F H vs ys ∧ WP x (f vs) cup F H fun v _ F' H' => ∀ y, RepR x F' H' H v y → Q y H'
section
variable {X : Cx} {x : Fix} {cup : Cup} {F H : Hp} {Q : VK}
theorem end_int {i : Int} (w : WP x (pure (.int i) : M PV) cup F H fun v _ F' H' => ∀ y, RepR x F' H' H v y → Q y H') (g : Good x cup F H) : Q (.int i) H := w.pure g _ (.inl (.int i))
theorem end_bl {i : Bool} (w : WP x (pure (.bl i) : M PV) cup F H fun v _ F' H' => ∀ y, RepR x F' H' H v y → Q y H') (g : Good x cup F H) : Q (.bl i) H := w.pure g _ (.inl (.bl i))
theorem end_str {i : List Nat} (w : WP x (pure (.str i) : M PV) cup F H fun v _ F' H' => ∀ y, RepR x F' H' H v y → Q y H') (g : Good x cup F H) (o : okL i) : Q (.str (toS i)) H := w.pure g _ (.inl (.str i o))
theorem end_lst {l : List PV} {vs : List V} (w : WP x (pure (.lst l) : M PV) cup F H fun v _ F' H' => ∀ y, RepR x F' H' H v y → Q y H') (g : Good x cup F H) (z : vs.length ≤ LINE) (r : RepVs x.K F x.C l vs) (p : Addr) (hp : H p = none) : Q (.ref p) (upd H p (.lst vs)) :=
  w.pureS (Step.own g hp) (g.own hp) _ (.inr ⟨p, rfl, ⟨⟨l, rfl⟩, g.nF hp, g.notC hp, vs, upd_same, z, r⟩, hp⟩)
theorem end_tup {l : List PV} {vs : List V} (w : WP x (pure (.tup l) : M PV) cup F H fun v _ F' H' => ∀ y, RepR x F' H' H v y → Q y H') (g : Good x cup F H) (z : vs.length ≤ LINE) (r : RepVs x.K F x.C l vs) (p : Addr) (hp : H p = none) : Q (.ref p) (upd H p (.tup vs)) :=
  w.pureS (Step.new' g hp) (g.new' hp) _ (.inl (.tup (.inl upd_same) z (r.le (le_upd (g.nF hp)))))
/-- .. that is there already -/
theorem end_old {l : PV} {y : V} (w : WP x (pure l : M PV) cup F H fun v _ F' H' => ∀ y, RepR x F' H' H v y → Q y H') (g : Good x cup F H) (r : RepV x.K F x.C l y) : Q y H := w.pure g _ (.inl r)
theorem okL_append {a b : List Nat} (ha : okL a) (hb : okL b) (h : a.length + b.length ≤ LINE) : okL (a ++ b) := ⟨fun c hc => (List.mem_append.mp hc).elim (ha.1 c) (hb.1 c), by rw [List.length_append]; exact h⟩
theorem toS_append (a b : List Nat) : toS a ++ toS b = toS (a ++ b) := by
  show Str.append (toS a) (toS b) = _
  simp [toS, Str.append]
end
section
variable {X : Cx} {x : Fix}
/-- () + t -/
theorem cat_tup0 {prog : Program} {w : World} {A : Around} {E : Value → Shared → Prop} {s : Shared} {t b : Addr} {vs ws : List Value} {Q : Value → Shared → Prop} (ht : IsTup s.heap t vs.toArray) (hb : IsTup s.heap b ws.toArray) (hv : vs = [])
    (h1 : Q (.ref b) s) : wpAny (model prog w) A (binaryOp .Add (.ref t) (.ref b)) Q E s := by
  obtain ⟨⟨cls, dd, data, sl⟩, ho, hc, n, hd⟩ := id ht
  obtain ⟨⟨cls2, dd2, data2, sl2⟩, ho2, hc2, n2, hd2⟩ := id hb
  simp only at hc hd hc2 hd2
  subst hc hd hc2 hd2
  exact PySem.concat_meets ⟨_, ho, rfl⟩ ⟨_, ho2, rfl⟩ noFill_tuple_add seq_tuple_add PySem.F.slot_tuple_add PySem.F.entry_tuple_add (PySem.F.args_tuple_add_2 _ _)
      (tuple_addW0 t b vs.toArray ws.toArray n n2 dd dd2 sl sl2 (by simp [hv])) ⟨ho, ho2, h1⟩
theorem RepVs.nil_iff {K F C} {ps : List PV} {vs : List V} (r : RepVs K F C ps vs) : vs = [] ↔ ps = [] := by
  cases r with
  | nil => simp
  | cons _ _ => simp
theorem op_addE (hK : X.K = x.K) : OpR X (binaryOp .Add) (r2 x addV) := by
  intro pins s σ H y1 y2 v u Q I rx ry ⟨v1, v2, cup, F, g, h1, h2, w⟩
  cases v1 <;> cases v2 <;> first | exact False.elim w | skip
  case int.int i j => exact op_add pins s σ H _ _ v u Q I rx ry ⟨i, j, h1.int, h2.int, end_int w g⟩
  case str.str a b =>
    obtain ⟨hz, w⟩ := WP.ite w
    obtain ⟨e1, o1⟩ := h1.str
    obtain ⟨e2, o2⟩ := h2.str
    refine op_add_str pins s σ H _ _ v u Q I rx ry ⟨toS a, toS b, e1, e2, by rw [toS_len, toS_len, line_eq]; exact hz, ?_⟩
    rw [toS_append]
    exact end_str w g (okL_append o1 o2 hz)
  case lst.lst a b =>
    obtain ⟨hz, w⟩ := WP.ite w
    obtain ⟨l, vs, e1, m1, z1, r1⟩ := h1.lst g.sub
    obtain ⟨l2, vs2, e2, m2, z2, r2⟩ := h2.lst g.sub
    have hz' : vs.length + vs2.length ≤ LINE := by rw [← r1.length, ← r2.length]; exact hz
    exact op_cat pins s σ H _ _ v u Q I rx ry ⟨l, l2, vs, vs2, e1, e2, m1, m2, by rw [line_eq]; exact hz', fun p hp => end_lst w g (by rw [List.length_append]; exact hz') (r1.append r2) p hp⟩
  case tup.tup a b =>
    obtain ⟨hz, w⟩ := WP.ite w
    obtain ⟨l, vs, e1, m1, z1, r1⟩ := h1.tup
    obtain ⟨l2, vs2, e2, m2, z2, r2⟩ := h2.tup
    have hz' : vs.length + vs2.length ≤ LINE := by rw [← r1.length, ← r2.length]; exact hz
    have m1' : SqT X.K H l vs := by rw [hK]; exact m1.sq g.sub
    have m2' : SqT X.K H l2 vs2 := by rw [hK]; exact m2.sq g.sub
    by_cases hv : vs = []
    · subst e1 e2
      cases rx
      cases ry
      obtain ⟨its, q1, p1, _⟩ := I.tuple m1'
      obtain ⟨its2, q2, p2, _⟩ := I.tuple m2'
      refine cat_tup0 p1 p2 (q1.nil_iff.mpr hv) ?_
      refine ⟨.ref l2, H, I, rfl, end_old w g ?_⟩
      have ea : a = [] := r1.nil_iff.mp hv
      subst ea
      exact .tup m2 z2 r2
    · refine op_catT pins s σ H _ _ v u Q I rx ry ⟨l, l2, vs, vs2, e1, e2, m1', m2', hv, by rw [line_eq]; exact hz', fun e => ?_, fun _ p hp => ?_⟩
      · have eb : b = [] := r2.nil_iff.mp e
        subst eb
        rw [List.append_nil] at w
        exact end_old w g (.tup m1 z1 r1)
      · exact end_tup w g (by rw [List.length_append]; exact hz') (r1.append r2) p hp
theorem op_subE : OpR X (binaryOp .Sub) (r2 x subV) := by
  intro pins s σ H y1 y2 v u Q I rx ry ⟨v1, v2, cup, F, g, h1, h2, w⟩
  cases v1 <;> cases v2 <;> first | exact False.elim w | skip
  case int.int i j => exact op_sub pins s σ H _ _ v u Q I rx ry ⟨i, j, h1.int, h2.int, end_int w g⟩
theorem small64_ok {i j : Int} (h : (small64 i || small64 j) = true) : CMul i j := by
  unfold small64 at h
  rcases Bool.or_eq_true_iff.mp h with h | h
  · obtain ⟨a, b⟩ := Bool.and_eq_true_iff.mp h
    exact .inl ⟨of_decide_eq_true a, of_decide_eq_true b⟩
  · obtain ⟨a, b⟩ := Bool.and_eq_true_iff.mp h
    exact .inr ⟨of_decide_eq_true a, of_decide_eq_true b⟩
theorem small63_ok {i : Int} (h : small63 i = true) : -(2 ^ 63) ≤ i ∧ i < 2 ^ 63 := by
  unfold small63 at h
  obtain ⟨a, b⟩ := Bool.and_eq_true_iff.mp h
  exact ⟨of_decide_eq_true a, of_decide_eq_true b⟩
theorem rep_len {α : Type} (l : List α) (k : Int) : (rep l k).length = l.length * k.toNat := by
  unfold rep
  rw [PyProof.Rows.lm_len_rep_flat, Nat.mul_comm]
theorem foldl_arr (l : List Nat) : ∀ (m : Nat) (acc : Array Nat), (List.replicate m l.toArray).foldl (· ++ ·) acc = acc ++ (List.replicate m l).flatten.toArray
  | 0, acc => by simp
  | m + 1, acc => by
    rw [List.replicate_succ, List.foldl_cons, foldl_arr l m, List.replicate_succ, List.flatten_cons]
    simp
theorem txt_mul (a : List Nat) (k : Int) : Txt.mul (toS a) k = toS (rep a k) := by
  unfold Txt.mul rep
  by_cases h1 : k < 1
  · rw [if_pos h1]
    have : k.toNat = 0 := by omega
    rw [this]
    rfl
  · rw [if_neg h1]
    by_cases h2 : (k == 1 || (toS a).length == 0) = true
    · rw [if_pos h2]
      rcases Bool.or_eq_true_iff.mp h2 with h | h
      · have : k = 1 := by simpa using h
        subst this
        simp [toS]
      · have : a = [] := by simpa [toS_len] using h
        subst this
        simp [toS]
    · rw [if_neg h2]
      have := foldl_arr a k.toNat #[]
      simp only [toS] at this ⊢
      rw [this]
      simp
theorem okL_rep {a : List Nat} {k : Int} (h : okL a) (z : a.length * k.toNat ≤ LINE) : okL (rep a k) := by
  refine ⟨fun c hc => ?_, by rw [rep_len]; exact z⟩
  unfold rep at hc
  obtain ⟨l, h1, h2⟩ := List.mem_flatten.mp hc
  exact h.1 c (List.eq_of_mem_replicate h1 ▸ h2)
theorem mulOk_rep {a : List Nat} {k : Int} (h : small63 k = true) (z : a.length * k.toNat ≤ LINE) : MulOk (toS a) k := by
  obtain ⟨h1, h2⟩ := small63_ok h
  refine ⟨?_, fun h3 _ => ?_, fun h3 _ => ?_⟩
  · rw [decide_eq_false (by omega), decide_eq_false (by omega)] <;> rfl
  · rw [toS_len]
    have hk : (k.toNat : Int) = k := Int.toNat_of_nonneg (by omega)
    have e : (a.length : Int) * k ≤ 2 ^ 63 - 1 := by
      have z' : ((a.length * k.toNat : Nat) : Int) ≤ (LINE : Int) := Int.ofNat_le.mpr z
      rw [Int.natCast_mul, hk] at z'
      have : (LINE : Int) ≤ 2 ^ 63 - 1 := by decide
      omega
    have := (Int.le_ediv_iff_mul_le (a := (a.length : Int)) (b := 2 ^ 63 - 1) (c := k) (by omega)).mpr e
    omega
  · rw [toS_len]
    unfold Builtin.Str.tooLong
    rw [line_eq]
    exact decide_eq_false (by omega)
theorem op_mulE (hK : X.K = x.K) : OpR X (binaryOp .Mult) (r2 x mulV) := by
  intro pins s σ H y1 y2 v u Q I rx ry ⟨v1, v2, cup, F, g, h1, h2, w⟩
  cases v1 <;> cases v2 <;> first | exact False.elim w | skip
  case int.int i j =>
    obtain ⟨hz, w⟩ := WP.ite w
    exact op_mul pins s σ H _ _ v u Q I rx ry ⟨i, j, h1.int, h2.int, small64_ok hz, end_int w g⟩
  case str.int a k =>
    obtain ⟨hz, w⟩ := WP.ite w
    obtain ⟨z1, z2⟩ := Bool.and_eq_true_iff.mp hz
    have z2 := of_decide_eq_true z2
    obtain ⟨e1, o1⟩ := h1.str
    have e2 := h2.int
    subst e1 e2
    obtain ⟨t, rfl⟩ := rx
    obtain ⟨t', rfl⟩ := ry
    refine SB.mul (mulOk_rep z1 z2) fun t1 k1 => ?_
    rw [txt_mul]
    exact ⟨.str (toS (rep a k)), H, I.tok _, ⟨_, rfl⟩, end_str w g (okL_rep o1 z2)⟩
  case lst.int a k =>
    obtain ⟨hz, w⟩ := WP.ite w
    obtain ⟨z1, z2⟩ := Bool.and_eq_true_iff.mp hz
    have z2 := of_decide_eq_true z2
    obtain ⟨b1, b2⟩ := small63_ok z1
    obtain ⟨l, vs, e1, m1, zz, rr⟩ := h1.lst g.sub
    have z3 : vs.length * k.toNat ≤ LINE := by rw [← rr.length]; exact z2
    refine op_rep pins s σ H _ _ v u Q I rx ry ⟨l, k, vs, e1, h2.int, m1, b1, b2, by rw [line_eq]; exact z3, fun p hp => end_lst w g ?_ (rr.rep _) p hp⟩
    have := rep_len vs k
    unfold rep at this
    rw [this]
    exact z3
  case tup.int a k =>
    obtain ⟨hz, w⟩ := WP.ite w
    obtain ⟨hz, z4⟩ := Bool.and_eq_true_iff.mp hz
    obtain ⟨z1, z3⟩ := Bool.and_eq_true_iff.mp hz
    have z1 := of_decide_eq_true z1
    have z3 := of_decide_eq_true z3
    have z4 := of_decide_eq_true z4
    obtain ⟨l, vs, e1, m1, zz, rr⟩ := h1.tup
    have hl : vs.length ≤ 1000 := by rw [← rr.length]; exact z4
    by_cases one : vs = [] ∨ k = 1
    · refine op_repS pins s σ H _ _ v u Q I rx ry ⟨l, k, vs, e1, h2.int, by rw [hK]; exact m1.sq g.sub, z1, by omega, .inl ⟨one, ?_⟩⟩
      have ea : rep a k = a := by
        rcases one with e | e
        · have := rr.nil_iff.mp e
          subst this
          unfold rep
          rw [List.flatten_eq_nil_iff]
          intro l hl
          exact (List.mem_replicate.mp hl).2
        · subst e
          unfold rep
          simp
      rw [ea] at w
      exact end_old w g (.tup m1 zz rr)
    · by_cases low : k ≤ 0
      · refine op_repS pins s σ H _ _ v u Q I rx ry ⟨l, k, vs, e1, h2.int, by rw [hK]; exact m1.sq g.sub, z1, by omega, .inr ⟨fun e => one (.inl e), low, fun p hp => ?_⟩⟩
        have ea : rep a k = [] := by
          unfold rep
          rw [show k.toNat = 0 by omega]
          rfl
        rw [ea] at w
        exact end_tup w g (Nat.zero_le _) .nil p hp
      · have hne : vs ≠ [] := fun e => one (.inl e)
        have z2 : 2 ≤ k := by
          have : k ≠ 1 := fun e => one (.inr e)
          omega
        refine op_repT pins s σ H _ _ v u Q I rx ry ⟨l, k, vs, e1, h2.int, by rw [hK]; exact m1.sq g.sub, hne, z2, z3, hl, fun p hp => end_tup w g ?_ (rr.rep _) p hp⟩
        have := rep_len vs k
        unfold rep at this
        rw [this]
        have : vs.length * k.toNat ≤ 1000 * 1000 := Nat.mul_le_mul hl (by omega)
        have : 1000 * 1000 ≤ LINE := by decide
        omega
theorem op_fdivE : OpR X (binaryOp .FloorDiv) (r2 x fdivV) := by
  intro pins s σ H y1 y2 v u Q I rx ry ⟨v1, v2, cup, F, g, h1, h2, w⟩
  cases v1 <;> cases v2 <;> first | exact False.elim w | skip
  case int.int i j =>
    obtain ⟨hz, w⟩ := WP.ite w
    obtain ⟨z1, z2⟩ := Bool.and_eq_true_iff.mp hz
    exact op_fdivN pins s σ H _ _ v u Q I rx ry ⟨i, j, h1.int, h2.int, ⟨of_decide_eq_true z1, of_decide_eq_true z2⟩, end_int w g⟩
theorem op_modE : OpR X (binaryOp .Mod) (r2 x modV) := by
  intro pins s σ H y1 y2 v u Q I rx ry ⟨v1, v2, cup, F, g, h1, h2, w⟩
  cases v1 <;> cases v2 <;> first | exact False.elim w | skip
  case int.int i j =>
    obtain ⟨hz, w⟩ := WP.ite w
    exact op_modN pins s σ H _ _ v u Q I rx ry ⟨i, j, h1.int, h2.int, hz, end_int w g⟩
theorem op_powE : OpR X (binaryOp .Pow) (r2 x powV) := by
  intro pins s σ H y1 y2 v u Q I rx ry ⟨v1, v2, cup, F, g, h1, h2, w⟩
  cases v1 <;> cases v2 <;> first | exact False.elim w | skip
  case int.int i j =>
    obtain ⟨hz, w⟩ := WP.ite w
    obtain ⟨hz, z3⟩ := Bool.and_eq_true_iff.mp hz
    obtain ⟨z1, z2⟩ := Bool.and_eq_true_iff.mp hz
    exact op_pow pins s σ H _ _ v u Q I rx ry ⟨i, j, h1.int, h2.int, ⟨of_decide_eq_true z1, of_decide_eq_true z2, of_decide_eq_true z3⟩, end_int w g⟩
def pyOp : BOp → Operator
  | .add => .Add | .sub => .Sub | .mul => .Mult | .fdiv => .FloorDiv | .mod => .Mod | .pow => .Pow
theorem trOp_ok {o : Operator} {b : BOp} (h : trOp o = some b) : o = pyOp b := by
  cases o <;> first | (cases h; rfl) | cases h
theorem op_binE (hK : X.K = x.K) (o : BOp) : OpR X (binaryOp (pyOp o)) (r2 x (binV o)) := by
  cases o
  · exact op_addE hK
  · exact op_subE
  · exact op_mulE hK
  · exact op_fdivE
  · exact op_modE
  · exact op_powE
theorem un_negE : UnR X (unaryOp .USub) (r1 x negV) := by
  intro pins s σ H y1 v Q I rx ⟨v1, cup, F, g, h1, w⟩
  cases v1 <;> first | exact False.elim w | skip
  case int i => exact un_neg pins s σ H _ v Q I rx ⟨i, h1.int, end_int w g⟩
end
end EV

set_option maxRecDepth 100000
set_option maxHeartbeats 2000000
/-! EvCmp: comparisons. -/
namespace EV
open PySem PySem.Spec PyProof.Rows L2
mutual
def toD : PV → PyData
  | .non => .none
  | .bl b => .bool b
  | .int i => .int i
  | .str s => .str (toS s)
  | .lst l => .list (toDs l)
  | .tup l => .tuple (toDs l)
  | _ => .none
def toDs : List PV → List PyData
  | [] => []
  | p :: r => toD p :: toDs r
end
mutual
theorem eqv_toD : ∀ a b : PV, plain a = true → plain b = true → PyData.eqv (toD a) (toD b) = eqv a b
  | .non, b, _, hb => by cases b <;> first | rfl | (simp [plain] at hb) | simp [toD, eqv, PyData.eqv]
  | .bl x, b, _, hb => by cases b <;> first | rfl | (simp [plain] at hb) | simp [toD, eqv, PyData.eqv, b2i]
  | .int x, b, _, hb => by cases b <;> first | rfl | (simp [plain] at hb) | simp [toD, eqv, PyData.eqv, b2i]
  | .str x, b, _, hb => by
    cases b with
    | str y =>
      simp only [toD, eqv, PyData.eqv]
      by_cases e : x = y
      · subst e; simp
      · rw [beq_eq_false_iff_ne.mpr e, beq_eq_false_iff_ne.mpr fun z => e (toS_inj z)]
    | _ => first | rfl | (simp [plain] at hb) | simp [toD, eqv, PyData.eqv]
  | .lst x, b, ha, hb => by
    cases b with
    | lst y =>
      simp only [toD, eqv, PyData.eqv]
      exact eqvs_toD x y (by simpa [plain] using ha) (by simpa [plain] using hb)
    | _ => first | rfl | (simp [plain] at hb) | simp [toD, eqv, PyData.eqv]
  | .tup x, b, ha, hb => by
    cases b with
    | tup y =>
      simp only [toD, eqv, PyData.eqv]
      exact eqvs_toD x y (by simpa [plain] using ha) (by simpa [plain] using hb)
    | _ => first | rfl | (simp [plain] at hb) | simp [toD, eqv, PyData.eqv]
  | .dict _, _, ha, _ => by simp [plain] at ha
  | .set _, _, ha, _ => by simp [plain] at ha
  | .cell, _, ha, _ => by simp [plain] at ha
  | .fn _, _, ha, _ => by simp [plain] at ha
theorem eqvs_toD : ∀ a b : List PV, plains a = true → plains b = true → PyData.eqvAll (toDs a) (toDs b) = eqvs a b
  | [], [], _, _ => by simp [toDs, eqvs, PyData.eqvAll]
  | [], _ :: _, _, _ => by simp [toDs, eqvs, PyData.eqvAll]
  | _ :: _, [], _, _ => by simp [toDs, eqvs, PyData.eqvAll]
  | x :: xs, y :: ys, ha, hb => by
    obtain ⟨a1, a2⟩ : plain x = true ∧ plains xs = true := by simpa [plains] using ha
    obtain ⟨b1, b2⟩ : plain y = true ∧ plains ys = true := by simpa [plains] using hb
    simp only [toDs, eqvs, PyData.eqvAll]
    rw [eqv_toD x y a1 b1, eqvs_toD xs ys a2 b2]
end
mutual
theorem dep_toD : ∀ a : PV, plain a = true → (toD a).depth = dep a
  | .non, _ | .bl _, _ | .int _, _ | .str _, _ => by simp [toD, dep, PyData.depth]
  | .lst l, h | .tup l, h => by
    simp only [toD, dep, PyData.depth]
    rw [deps_toD l (by simpa [plain] using h)]
  | .dict _, h => by simp [plain] at h
  | .set _, h => by simp [plain] at h
  | .cell, h => by simp [plain] at h
  | .fn _, h => by simp [plain] at h
theorem deps_toD : ∀ a : List PV, plains a = true → PyData.depthAll (toDs a) = deps a
  | [], _ => by simp [toDs, deps, PyData.depthAll]
  | x :: r, h => by
    obtain ⟨a1, a2⟩ : plain x = true ∧ plains r = true := by simpa [plains] using h
    simp only [toDs, deps, PyData.depthAll]
    rw [dep_toD x a1, deps_toD r a2]
end
theorem strOk_of {s : List Nat} (h : okL s) : PyData.strOk (toS s) = true := by
  unfold PyData.strOk toS
  simpa using h.1
section
variable {K : PySem.W.Frag} {F H : Hp} {C : Option Addr}
mutual
theorem RepV.dp (sb : Sub F H) : ∀ {p : PV} {y : V}, plain p = true → RepV K F C p y → Dp K H y (toD p)
  | _, _, _, .non => by simp only [toD]; exact .non
  | _, _, _, .bl b => by simp only [toD]; exact .bl b
  | _, _, _, .int i => by simp only [toD]; exact .int i
  | _, _, _, .str s h => by simp only [toD]; exact .str _
  | _, _, hp, .tup h z r => by simp only [toD]; exact .tup (h.sq sb) (RepVs.dp sb (by simpa [plain] using hp) r)
  | _, _, hp, .lst h z r => by simp only [toD]; exact .lst (h.sq sb) (RepVs.dp sb (by simpa [plain] using hp) r)
  | _, _, hp, .dict h z r => by simp [plain] at hp
  | _, _, hp, .cell h => by simp [plain] at hp
theorem RepVs.dp (sb : Sub F H) : ∀ {ps : List PV} {ys : List V}, plains ps = true → RepVs K F C ps ys → DpAll K H ys (toDs ps)
  | _, _, _, .nil => by simp only [toDs]; exact .nil
  | p :: ps, _, hp, .cons h t => by
    obtain ⟨a1, a2⟩ : plain p = true ∧ plains ps = true := by simpa [plains] using hp
    simp only [toDs]
    exact .cons (RepV.dp sb a1 h) (RepVs.dp sb a2 t)
end
mutual
theorem RepV.lay : ∀ {p : PV} {y : V}, plain p = true → RepV K F C p y → (toD p).canLay0 = true
  | _, _, _, .non => by simp [toD, PyData.canLay0]
  | _, _, _, .bl b => by simp [toD, PyData.canLay0]
  | _, _, _, .int i => by simp [toD, PyData.canLay0]
  | _, _, _, .str s h => by simp only [toD, PyData.canLay0]; exact strOk_of h
  | _, _, hp, .tup h z r => by simp only [toD, PyData.canLay0]; exact RepVs.lay (by simpa [plain] using hp) r
  | _, _, hp, .lst h z r => by simp only [toD, PyData.canLay0]; exact RepVs.lay (by simpa [plain] using hp) r
  | _, _, hp, .dict h z r => by simp [plain] at hp
  | _, _, hp, .cell h => by simp [plain] at hp
theorem RepVs.lay : ∀ {ps : List PV} {ys : List V}, plains ps = true → RepVs K F C ps ys → PyData.canLayAll0 (toDs ps) = true
  | _, _, _, .nil => by simp [toDs, PyData.canLayAll0]
  | p :: ps, _, hp, .cons h t => by
    obtain ⟨a1, a2⟩ : plain p = true ∧ plains ps = true := by simpa [plains] using hp
    simp only [toDs, PyData.canLayAll0, RepV.lay a1 h, RepVs.lay a2 t, Bool.and_self]
end
end
theorem RepH.dp {x : Fix} {F H : Hp} {p : PV} {y : V} (h : RepH x F H p y) (sb : Sub F H) (hp : plain p = true) : Dp x.K H y (toD p) ∧ (toD p).canLay0 = true := by
  rcases h with h | ⟨a, rfl, o1, o2, o3⟩
  · exact ⟨h.dp sb hp, h.lay hp⟩
  · cases p with
    | lst l =>
      obtain ⟨vs, e, z, r⟩ := o3
      have hp' : plains l = true := by simpa [plain] using hp
      simp only [toD]
      exact ⟨.lst (.inl (.inl e)) (r.dp sb hp'), by simp only [PyData.canLay0]; exact r.lay hp'⟩
    | dict l => simp [plain] at hp
    | _ => exact o3.elim
theorem okD_iff {p : PV} (h : okD p = true) : plain p = true ∧ dep p ≤ 64 := by
  obtain ⟨a, b⟩ := Bool.and_eq_true_iff.mp h
  exact ⟨a, of_decide_eq_true b⟩
theorem shaped_of {x : Fix} {F H : Hp} {p : PV} {y : V} (h : RepH x F H p y) (sb : Sub F H) (hp : okD p = true) : Dp x.K H y (toD p) ∧ SeqAt.shaped (toD p) = true := by
  obtain ⟨a, b⟩ := okD_iff hp
  obtain ⟨d, l⟩ := h.dp sb a
  refine ⟨d, ?_⟩
  unfold SeqAt.shaped
  rw [l, Bool.true_and]
  exact decide_eq_true (by rw [dep_toD p a]; exact b)

section
variable {X : Cx} {x : Fix}
abbrev cmpV (o : COp) (a b : PV) : M PV := do let r ← cmpM o a b; pure (.bl r)
theorem end_cmp {r : Bool} {cup F H} {Q : VK} (w : WP x ((pure r : M Bool) >>= fun r => pure (.bl r)) cup F H fun v _ F' H' => ∀ y, RepR x F' H' H v y → Q y H') (g : Good x cup F H) : Q (.bl r) H :=
  end_bl (w.bind.pure g) g
theorem op_eqE (hK : X.K = x.K) (hu : X.A.units + 64 < cLine) : OpR X (compareOp .Eq) (r2 x (cmpV .eq)) := by
  intro pins s σ H y1 y2 v u Q I rx ry ⟨v1, v2, cup, F, g, h1, h2, w⟩
  have w : WP x (eqM v1 v2 >>= fun r => pure (.bl r)) cup F H fun v _ F' H' => ∀ y, RepR x F' H' H v y → Q y H' := w
  have w := w.bind
  unfold eqM at w
  obtain ⟨hz, w⟩ := WP.ite w
  obtain ⟨a1, a2⟩ := Bool.and_eq_true_iff.mp hz
  obtain ⟨d1, s1⟩ := shaped_of h1 g.sub a1
  obtain ⟨d2, s2⟩ := shaped_of h2 g.sub a2
  rw [← hK] at d1 d2
  refine op_eqD hu pins s σ H _ _ v u Q I rx ry ⟨_, _, d1, d2, s1, s2, ?_⟩
  rw [eqv_toD _ _ (okD_iff a1).1 (okD_iff a2).1]
  exact end_bl (w.pure g) g
theorem op_neE (hK : X.K = x.K) (hu : X.A.units + 64 < cLine) : OpR X (compareOp .NotEq) (r2 x (cmpV .ne)) := by
  intro pins s σ H y1 y2 v u Q I rx ry ⟨v1, v2, cup, F, g, h1, h2, w⟩
  have w : WP x ((eqM v1 v2 >>= fun r => pure (!r)) >>= fun r => pure (.bl r)) cup F H fun v _ F' H' => ∀ y, RepR x F' H' H v y → Q y H' := w
  have w := w.bind.bind
  unfold eqM at w
  obtain ⟨hz, w⟩ := WP.ite w
  obtain ⟨a1, a2⟩ := Bool.and_eq_true_iff.mp hz
  obtain ⟨d1, s1⟩ := shaped_of h1 g.sub a1
  obtain ⟨d2, s2⟩ := shaped_of h2 g.sub a2
  rw [← hK] at d1 d2
  refine op_neD hu pins s σ H _ _ v u Q I rx ry ⟨_, _, d1, d2, s1, s2, ?_⟩
  rw [eqv_toD _ _ (okD_iff a1).1 (okD_iff a2).1]
  exact end_bl ((w.pure g).pure g) g
theorem ltS_eq : ∀ a b : List Nat, ltS a b = decide (a < b)
  | [], [] => by simp [ltS]
  | [], _ :: _ => by simp [ltS]
  | _ :: _, [] => by simp [ltS]
  | a :: as, b :: bs => by
    unfold ltS
    by_cases e : a = b
    · subst e
      rw [if_pos rfl, ltS_eq as bs]
      simp [List.cons_lt_cons_iff]
    · rw [if_neg e]
      simp [List.cons_lt_cons_iff, e]
theorem op_ltE : OpR X (compareOp .Lt) (r2 x (cmpV .lt)) := by
  intro pins s σ H y1 y2 v u Q I rx ry ⟨v1, v2, cup, F, g, h1, h2, w⟩
  cases v1 <;> cases v2 <;> first | exact False.elim w | skip
  case int.int i j => exact op_lt pins s σ H _ _ v u Q I rx ry ⟨i, j, h1.int, h2.int, end_cmp w g⟩
  case str.str i j =>
    obtain ⟨e1, o1⟩ := h1.str
    obtain ⟨e2, o2⟩ := h2.str
    refine op_lt_str pins s σ H _ _ v u Q I rx ry ⟨toS i, toS j, e1, e2, ?_⟩
    rw [toS_cps, toS_cps, ← ltS_eq]
    exact end_cmp w g
theorem op_leE : OpR X (compareOp .LtE) (r2 x (cmpV .le)) := by
  intro pins s σ H y1 y2 v u Q I rx ry ⟨v1, v2, cup, F, g, h1, h2, w⟩
  cases v1 <;> cases v2 <;> first | exact False.elim w | skip
  case int.int i j => exact op_le pins s σ H _ _ v u Q I rx ry ⟨i, j, h1.int, h2.int, end_cmp w g⟩
theorem op_gtE : OpR X (compareOp .Gt) (r2 x (cmpV .gt)) := by
  intro pins s σ H y1 y2 v u Q I rx ry ⟨v1, v2, cup, F, g, h1, h2, w⟩
  cases v1 <;> cases v2 <;> first | exact False.elim w | skip
  case int.int i j => exact op_gt pins s σ H _ _ v u Q I rx ry ⟨i, j, h1.int, h2.int, end_cmp w g⟩
theorem op_geE : OpR X (compareOp .GtE) (r2 x (cmpV .ge)) := by
  intro pins s σ H y1 y2 v u Q I rx ry ⟨v1, v2, cup, F, g, h1, h2, w⟩
  cases v1 <;> cases v2 <;> first | exact False.elim w | skip
  case int.int i j => exact op_ge pins s σ H _ _ v u Q I rx ry ⟨i, j, h1.int, h2.int, end_cmp w g⟩
/-- what `is` says of a value and None, True, False -/
def isB : PV → PV → Option Bool
  | .non, .non => some true
  | .bl _, .non | .int _, .non | .str _, .non | .tup _, .non | .lst _, .non | .dict _, .non | .cell, .non => some false
  | .bl a, .bl b => some (a == b)
  | .non, .bl _ | .int _, .bl _ | .str _, .bl _ | .tup _, .bl _ | .lst _, .bl _ | .dict _, .bl _ => some false
  | _, _ => none
theorem is_val {F H} {v1 v2 : PV} {b : Bool} (e : isB v1 v2 = some b) {y1 y2 : V} {v u : Value} (h1 : RepH x F H v1 y1) (h2 : RepH x F H v2 y2) (rx : RelV y1 v) (ry : RelV y2 u) : plainIs v u = true ∧ (v == u) = b := by
  cases v2 with
  | non =>
    have e2 := h2.non
    subst e2
    cases ry
    cases v1 with
    | non => cases e; have e1 := h1.non; subst e1; cases rx; exact ⟨rfl, rfl⟩
    | bl => cases e; have e1 := h1.bl; subst e1; cases rx; exact ⟨rfl, rfl⟩
    | int => cases e; have e1 := h1.int; subst e1; obtain ⟨t, rfl⟩ := rx; exact ⟨rfl, rfl⟩
    | str => cases e; obtain ⟨e1, _⟩ := h1.str; subst e1; obtain ⟨t, rfl⟩ := rx; exact ⟨rfl, rfl⟩
    | tup => cases e; obtain ⟨a, vs, e1, _⟩ := h1.tup; subst e1; cases rx; exact ⟨rfl, rfl⟩
    | cell => cases e; obtain ⟨a, e1, _⟩ := h1.cell; subst e1; cases rx; exact ⟨rfl, rfl⟩
    | lst =>
      cases e
      rcases h1 with h1 | ⟨a, e1, _⟩
      · cases h1; cases rx; exact ⟨rfl, rfl⟩
      · subst e1; cases rx; exact ⟨rfl, rfl⟩
    | dict =>
      cases e
      rcases h1 with h1 | ⟨a, e1, _⟩
      · cases h1; cases rx; exact ⟨rfl, rfl⟩
      · subst e1; cases rx; exact ⟨rfl, rfl⟩
    | set => cases e
    | fn => cases e
  | bl b2 =>
    have e2 := h2.bl
    subst e2
    cases ry
    cases v1 with
    | non => cases e; have e1 := h1.non; subst e1; cases rx; exact ⟨rfl, rfl⟩
    | bl b1 =>
      have e1 := h1.bl; subst e1; cases rx
      cases e
      refine ⟨rfl, ?_⟩
      cases b1 <;> cases b2 <;> rfl
    | int => cases e; have e1 := h1.int; subst e1; obtain ⟨t, rfl⟩ := rx; exact ⟨rfl, rfl⟩
    | str => cases e; obtain ⟨e1, _⟩ := h1.str; subst e1; obtain ⟨t, rfl⟩ := rx; exact ⟨rfl, rfl⟩
    | tup => cases e; obtain ⟨a, vs, e1, _⟩ := h1.tup; subst e1; cases rx; exact ⟨rfl, rfl⟩
    | cell => cases e
    | lst =>
      cases e
      rcases h1 with h1 | ⟨a, e1, _⟩
      · cases h1; cases rx; exact ⟨rfl, rfl⟩
      · subst e1; cases rx; exact ⟨rfl, rfl⟩
    | dict =>
      cases e
      rcases h1 with h1 | ⟨a, e1, _⟩
      · cases h1; cases rx; exact ⟨rfl, rfl⟩
      · subst e1; cases rx; exact ⟨rfl, rfl⟩
    | set => cases e
    | fn => cases e
  | _ => cases v1 <;> cases e
theorem isM_isB (v1 v2 : PV) : (∃ b, isB v1 v2 = some b ∧ isM v1 v2 = pure b) ∨ (∀ y F H, ¬ RepH x F H v1 y) ∨ isM v1 v2 = fail := by
  cases v2 with
  | non =>
    cases v1 with
    | set l => exact .inr (.inl fun y F H h => by rcases h with h | ⟨_, _, _, _, h⟩; cases h; exact h)
    | fn l => exact .inr (.inl fun y F H h => by rcases h with h | ⟨_, _, _, _, h⟩; cases h; exact h)
    | _ => exact .inl ⟨_, rfl, rfl⟩
  | bl b => cases v1 <;> first | exact .inl ⟨_, rfl, rfl⟩ | exact .inr (.inr rfl)
  | _ => cases v1 <;> exact .inr (.inr rfl)
theorem op_isE : OpR X (compareOp .Is) (r2 x (cmpV .is)) := by
  intro pins s σ H y1 y2 v u Q I rx ry ⟨v1, v2, cup, F, g, h1, h2, w⟩
  have w : WP x (isM v1 v2 >>= fun r => pure (.bl r)) cup F H fun v _ F' H' => ∀ y, RepR x F' H' H v y → Q y H' := w
  rcases isM_isB (x := x) v1 v2 with ⟨b, e, e2⟩ | e | e
  · rw [e2] at w
    obtain ⟨p, q⟩ := is_val e h1 h2 rx ry
    exact wpAny_is_plain p (by rw [q]; exact ⟨.bl b, H, I, rfl, end_cmp w g⟩)
  · exact absurd h1 (e _ _ _)
  · rw [e] at w; exact w.bind.elim
theorem op_isnE : OpR X (compareOp .IsNot) (r2 x (cmpV .isn)) := by
  intro pins s σ H y1 y2 v u Q I rx ry ⟨v1, v2, cup, F, g, h1, h2, w⟩
  have w : WP x ((isM v1 v2 >>= fun r => pure (!r)) >>= fun r => pure (.bl r)) cup F H fun v _ F' H' => ∀ y, RepR x F' H' H v y → Q y H' := w
  have w := w.bind.bind
  rcases isM_isB (x := x) v1 v2 with ⟨b, e, e2⟩ | e | e
  · rw [e2] at w
    obtain ⟨p, q⟩ := is_val e h1 h2 rx ry
    exact wpAny_isNot_plain p (by rw [q]; exact ⟨.bl (!b), H, I, rfl, end_bl ((w.pure g).pure g) g⟩)
  · exact absurd h1 (e _ _ _)
  · rw [e] at w; exact w.elim
end
end EV

set_option maxRecDepth 100000
set_option maxHeartbeats 2000000
/-! EvIn: in, not in, places, slices. -/
namespace EV
open PySem PySem.Spec PyProof.Rows L2
open Builtin.Str (occurrences subAt)

theorem subAt_L (a b : List Nat) (i : Nat) : subAt (toS b) (toS a) i = subL a b i := by
  rw [StrLaws.subAt_eq, toS_cps, toS_cps, toS_len]
  rfl
theorem infix_eq (a b : List Nat) : (!(occurrences (toS b) (toS a) 0 (toS b).length 1).isEmpty) = isInfix a b := by
  have h := StrLaws.found_iff (toS b) (toS a)
  have h2 : isInfix a b = true ↔ ∃ i, i + a.length ≤ b.length ∧ subL a b i = true := by
    unfold isInfix
    rw [List.any_eq_true]
    constructor
    · rintro ⟨i, hi, h⟩
      refine ⟨i, ?_, h⟩
      have hi := List.mem_range.mp hi
      have e : (b.drop i).take a.length = a := eq_of_beq h
      have := congrArg List.length e
      rw [List.length_take, List.length_drop] at this
      omega
    · rintro ⟨i, hi, h⟩
      exact ⟨i, List.mem_range.mpr (by omega), h⟩
  simp only [subAt_L, toS_len] at h
  rw [toS_len]
  cases e : isInfix a b with
  | true => exact h.mpr (h2.mp e)
  | false =>
    cases e2 : (!(occurrences (toS b) (toS a) 0 b.length 1).isEmpty) with
    | false => rfl
    | true => rw [h2.mpr (h.mp e2)] at e; cases e
/-! ### dicts -/
theorem keyV_kV {k : PV} {q : Key} (h : keyV k = some q) {K F C} {y : V} (r : RepV K F C k y) : y = kV q := by
  cases k with
  | int i => cases keyV_int h; cases r; rfl
  | str s => cases (keyV_str h).1; cases r; rfl
  | _ => cases h
theorem keyV_inj {a b : PV} {q : Key} (h1 : keyV a = some q) (h2 : keyV b = some q) : a = b := by
  cases a with
  | int i => cases b with
    | int j => cases keyV_int h1; cases keyV_int h2; rfl
    | str j => cases keyV_int h1; cases (keyV_str h2).1
    | _ => cases h2
  | str i => cases b with
    | int j => cases keyV_int h2; cases (keyV_str h1).1
    | str j =>
      cases (keyV_str h1).1
      have h2 := (keyV_str h2).1
      injection h2 with h2
      rw [toS_inj h2]
    | _ => cases h2
  | _ => cases h1
theorem beq_key {a b : PV} {p q : Key} (h1 : keyV a = some p) (h2 : keyV b = some q) : PV.beq a b = decide (p = q) := by
  cases a with
  | int i => cases b with
    | int j => cases keyV_int h1; cases keyV_int h2; rw [key_ll]; simp [PV.beq]
    | str j => cases keyV_int h1; cases (keyV_str h2).1; rw [key_lr]; simp [PV.beq]
    | _ => cases h2
  | str s => cases b with
    | int j => cases (keyV_str h1).1; cases keyV_int h2; rw [key_rl]; simp [PV.beq]
    | str t =>
      cases (keyV_str h1).1
      cases (keyV_str h2).1
      rw [key_rr]
      simp only [PV.beq]
      by_cases e : s = t
      · subst e; simp
      · rw [beq_eq_false_iff_ne.mpr e, decide_eq_false fun z => e (toS_inj z)]
    | _ => cases h2
  | _ => cases h1
theorem RepKs.look {K F C} {k : PV} {q : Key} (h : keyV k = some q) : ∀ {ps : List (PV × PV)} {ks : List (Key × V)}, RepKs K F C ps ks →
    (lookD k ps = none ∧ valV ks q = none) ∨ ∃ p v, lookD k ps = some p ∧ valV ks q = some v ∧ RepV K F C p v
  | _, _, .nil => .inl ⟨rfl, rfl⟩
  | (a, b) :: r, (q', v) :: ks, .cons hk hv t => by
    have e := beq_key h hk
    unfold lookD
    by_cases c : q = q'
    · rw [decide_eq_true c] at e
      rw [e, if_pos rfl, valV_pos c.symm]
      exact .inr ⟨_, _, rfl, rfl, hv⟩
    · rw [decide_eq_false c] at e
      rw [e, if_neg (by decide), valV_neg (fun z => c z.symm)]
      exact RepKs.look h t
theorem isKey_keyV {k : PV} (h : isKey k = true) {x : Fix} {F H : Hp} {y : V} (r : RepH x F H k y) : ∃ q, keyV k = some q ∧ y = kV q := by
  cases k with
  | int i => exact ⟨_, rfl, r.int⟩
  | str s => exact ⟨_, keyV_str_of r.str.2, r.str.1⟩
  | _ => cases h
section
variable {X : Cx} {x : Fix}
theorem in_dataE (hK : X.K = x.K) (hu : X.A.units + 66 < cLine) (neg : Bool) {pins s σ H y1 y2 v u Q F v1 l b cup} (I : Inv X pins σ H s) (rx : RelV y1 v) (ry : RelV y2 u) (g : Good x cup F H) (h1 : RepH x F H v1 y1) (h2 : RepH x F H b y2)
    (hz : (okD v1 && plains l) = true) (hb : b = .lst l ∨ b = .tup l) (q : Q (.bl (if neg then !isInV v1 l else isInV v1 l)) H) :
    wpAny (model X.prog X.w) X.A (compareOp (if neg then .NotIn else .In) v u) (EP X pins σ Q) X.xe s := by
  obtain ⟨a1, a2⟩ := Bool.and_eq_true_iff.mp hz
  obtain ⟨d1, s1⟩ := shaped_of h1 g.sub a1
  have hp : plain b = true := by rcases hb with rfl | rfl <;> simpa [plain] using a2
  obtain ⟨d2, s2⟩ := h2.dp g.sub hp
  rw [← hK] at d1 d2
  obtain ⟨as, r1⟩ := Dp.reads I _ _ _ d1 rx
  obtain ⟨bs, r2⟩ := Dp.reads I _ _ _ d2 ry
  have e : ((toDs l).any fun y => PyData.eqv y (toD v1)) = isInV v1 l := by
    unfold isInV
    have : ∀ l : List PV, plains l = true → ((toDs l).any fun y => PyData.eqv y (toD v1)) = l.any fun y => eqv y v1 := by
      intro l
      induction l with
      | nil => intro _; rfl
      | cons a r ih =>
        intro h
        obtain ⟨b1, b2⟩ : plain a = true ∧ plains r = true := by simpa [plains] using h
        simp only [toDs, List.any_cons]
        rw [eqv_toD _ _ b1 (okD_iff a1).1, ih b2]
    exact this l a2
  have hr : ∀ n, X.A.units + 1 + min n (toD v1).depth < cLine := fun n => by
    have := (okD_iff a1).2
    rw [← dep_toD v1 (okD_iff a1).1] at this
    have := Nat.min_le_right n (toD v1).depth
    omega
  have hc1 : (toD v1).canLay0 = true := SeqAt.canLay_of_shaped s1
  cases neg with
  | false =>
    simp only [Bool.false_eq_true, if_false] at q ⊢
    rcases hb with rfl | rfl
    · simp only [toD] at r2
      simp only [toD, PyData.canLay0] at s2
      exact SeqAt.in_list_reads r2 r1 s2 hc1 (hr _) (by rw [e]; exact ⟨.bl _, H, I, rfl, q⟩)
    · simp only [toD] at r2
      simp only [toD, PyData.canLay0] at s2
      exact SeqAt.in_tuple_reads r2 r1 s2 hc1 (hr _) (by rw [e]; exact ⟨.bl _, H, I, rfl, q⟩)
  | true =>
    simp only [if_true] at q ⊢
    rcases hb with rfl | rfl
    · simp only [toD] at r2
      simp only [toD, PyData.canLay0] at s2
      exact SeqAt.notIn_list_reads r2 r1 s2 hc1 (hr _) (by rw [e]; exact ⟨.bl _, H, I, rfl, q⟩)
    · simp only [toD] at r2
      simp only [toD, PyData.canLay0] at s2
      exact SeqAt.notIn_tuple_reads r2 r1 s2 hc1 (hr _) (by rw [e]; exact ⟨.bl _, H, I, rfl, q⟩)
theorem dget_of {F H : Hp} {v : PV} {l : List (PV × PV)} {y1 y2 : V} (h1 : RepH x F H v y1) (h2 : RepH x F H (.dict l) y2) (sb : Sub F H) (hk : isKey v = true) : ∃ a o, y2 = .ref a ∧ DGet H a y1 o ∧
    ((lookD v l = none ∧ o = none) ∨ ∃ p w, lookD v l = some p ∧ o = some w ∧ RepV x.K F x.C p w) := by
  obtain ⟨q, e1, e2⟩ := isKey_keyV hk h1
  obtain ⟨a, ks, e3, rd, z, r⟩ := h2.dict sb
  exact ⟨a, valV ks q, e3, .inl ⟨ks, q, rd, e2, rfl⟩, r.look e1⟩
theorem op_inE (hK : X.K = x.K) (hu : X.A.units + 66 < cLine) : OpR X (compareOp .In) (r2 x (cmpV .isin)) := by
  intro pins s σ H y1 y2 v u Q I rx ry ⟨v1, v2, cup, F, g, h1, h2, w⟩
  have w : WP x (inM v1 v2 >>= fun r => pure (.bl r)) cup F H fun v _ F' H' => ∀ y, RepR x F' H' H v y → Q y H' := w
  cases v2 with
  | str b => cases v1 with
    | str a =>
      obtain ⟨e1, o1⟩ := h1.str
      obtain ⟨e2, o2⟩ := h2.str
      refine op_in_str pins s σ H _ _ v u Q I rx ry ⟨toS a, toS b, e1, e2, ?_⟩
      rw [infix_eq]
      exact end_cmp w g
    | _ => exact w.bind.elim
  | lst l =>
    have w : WP x ((if (okD v1 && plains l) = true then pure (isInV v1 l) else fail) >>= fun r => pure (.bl r)) cup F H fun v _ F' H' => ∀ y, RepR x F' H' H v y → Q y H' := by cases v1 <;> exact w
    obtain ⟨hz, w⟩ := WP.ite w.bind
    exact in_dataE hK hu false I rx ry g h1 h2 hz (.inl rfl) (end_bl (w.pure g) g)
  | tup l =>
    have w : WP x ((if (okD v1 && plains l) = true then pure (isInV v1 l) else fail) >>= fun r => pure (.bl r)) cup F H fun v _ F' H' => ∀ y, RepR x F' H' H v y → Q y H' := by cases v1 <;> exact w
    obtain ⟨hz, w⟩ := WP.ite w.bind
    exact in_dataE hK hu false I rx ry g h1 h2 hz (.inr rfl) (end_bl (w.pure g) g)
  | dict l =>
    have w : WP x ((if isKey v1 = true then pure (lookD v1 l).isSome else fail) >>= fun r => pure (.bl r)) cup F H fun v _ F' H' => ∀ y, RepR x F' H' H v y → Q y H' := by cases v1 <;> exact w
    obtain ⟨hz, w⟩ := WP.ite w.bind
    obtain ⟨a, o, e, d, lk⟩ := dget_of h1 h2 g.sub hz
    subst e
    cases ry
    refine d_in (by omega) I d rx fun s' I' => ⟨.bl o.isSome, H, I', rfl, ?_⟩
    have eo : o.isSome = (lookD v1 l).isSome := by
      rcases lk with ⟨l1, l2⟩ | ⟨p, w', l1, l2, _⟩ <;> rw [l1, l2] <;> rfl
    rw [eo]
    exact end_bl (w.pure g) g
  | _ => cases v1 <;> exact w.bind.elim
theorem op_notinE (hK : X.K = x.K) (hu : X.A.units + 66 < cLine) : OpR X (compareOp .NotIn) (r2 x (cmpV .notin)) := by
  intro pins s σ H y1 y2 v u Q I rx ry ⟨v1, v2, cup, F, g, h1, h2, w⟩
  have w : WP x ((inM v1 v2 >>= fun r => pure (!r)) >>= fun r => pure (.bl r)) cup F H fun v _ F' H' => ∀ y, RepR x F' H' H v y → Q y H' := w
  have w := w.bind.bind
  cases v2 with
  | str b => cases v1 with
    | str a =>
      obtain ⟨e1, o1⟩ := h1.str
      obtain ⟨e2, o2⟩ := h2.str
      refine op_notin_str pins s σ H _ _ v u Q I rx ry ⟨toS a, toS b, e1, e2, ?_⟩
      rw [infix_eq]
      exact end_bl ((WP.pure w g).pure g) g
    | _ => exact w.elim
  | lst l =>
    have w : WP x (if (okD v1 && plains l) = true then pure (isInV v1 l) else fail) cup F H fun v c' F' H' => WP x (pure (!v)) c' F' H' fun v c'' F'' H'' => WP x (pure (PV.bl v)) c'' F'' H'' fun v _ F' H' => ∀ y, RepR x F' H' H v y → Q y H' := by cases v1 <;> exact w
    obtain ⟨hz, w⟩ := WP.ite w
    exact in_dataE hK hu true I rx ry g h1 h2 hz (.inl rfl) (end_bl ((w.pure g).pure g) g)
  | tup l =>
    have w : WP x (if (okD v1 && plains l) = true then pure (isInV v1 l) else fail) cup F H fun v c' F' H' => WP x (pure (!v)) c' F' H' fun v c'' F'' H'' => WP x (pure (PV.bl v)) c'' F'' H'' fun v _ F' H' => ∀ y, RepR x F' H' H v y → Q y H' := by cases v1 <;> exact w
    obtain ⟨hz, w⟩ := WP.ite w
    exact in_dataE hK hu true I rx ry g h1 h2 hz (.inr rfl) (end_bl ((w.pure g).pure g) g)
  | dict l =>
    have w : WP x (if isKey v1 = true then pure (lookD v1 l).isSome else fail) cup F H fun v c' F' H' => WP x (pure (!v)) c' F' H' fun v c'' F'' H'' => WP x (pure (PV.bl v)) c'' F'' H'' fun v _ F' H' => ∀ y, RepR x F' H' H v y → Q y H' := by cases v1 <;> exact w
    obtain ⟨hz, w⟩ := WP.ite w
    obtain ⟨a, o, e, d, lk⟩ := dget_of h1 h2 g.sub hz
    subst e
    cases ry
    refine d_notIn (by omega) I d rx fun s' I' => ⟨.bl (!o.isSome), H, I', rfl, ?_⟩
    have eo : o.isSome = (lookD v1 l).isSome := by
      rcases lk with ⟨l1, l2⟩ | ⟨p, w', l1, l2, _⟩ <;> rw [l1, l2] <;> rfl
    rw [eo]
    exact end_bl ((w.pure g).pure g) g
  | _ => cases v1 <;> exact w.elim
def pyCmp : COp → CmpOp
  | .eq => .Eq | .ne => .NotEq | .lt => .Lt | .le => .LtE | .gt => .Gt | .ge => .GtE | .is => .Is | .isn => .IsNot | .isin => .In | .notin => .NotIn
theorem pyCmp_tr (o : CmpOp) : pyCmp (trCmp o) = o := by cases o <;> rfl
theorem op_cmpE (hK : X.K = x.K) (hu : X.A.units + 66 < cLine) (o : COp) : OpR X (compareOp (pyCmp o)) (r2 x (cmpV o)) := by
  cases o
  · exact op_eqE hK (by omega)
  · exact op_neE hK (by omega)
  · exact op_ltE
  · exact op_leE
  · exact op_gtE
  · exact op_geE
  · exact op_isE
  · exact op_isnE
  · exact op_inE hK hu
  · exact op_notinE hK hu

/-! ### places -/
theorem ixOf_eq (n : Nat) (i : Int) : ixOf n i = ixN n i := rfl
theorem atO_eq {α} (l : List α) (i : Int) : atO l i = atI l i := rfl
theorem atO_rep {K F C} {ps : List PV} {vs : List V} (r : RepVs K F C ps vs) {i : Int} {p : PV} (h : atO ps i = some p) : ∃ v, atI vs i = some v ∧ RepV K F C p v := by
  rw [atO_eq] at h
  unfold atI at h ⊢
  rw [r.length] at h
  obtain ⟨j, hj, hp⟩ := Option.bind_eq_some_iff.mp h
  obtain ⟨v, hv, rv⟩ := r.get hp
  exact ⟨v, by rw [hj]; exact hv, rv⟩
theorem ix_E (hK : X.K = x.K) (hu : X.A.units + 1 < cLine) : IxR X (r2 x idxV) := by
  intro value slice pins s σ H y1 y2 v u Q I rx ry ⟨v1, v2, cup, F, g, h1, h2, w⟩ hs
  cases v1 with
  | lst l => cases v2 with
    | int i =>
      obtain ⟨p, hp, w⟩ := WP.opt w g
      obtain ⟨a, vs, e1, m1, z1, r1⟩ := h1.lst g.sub
      obtain ⟨y, hy, ry'⟩ := atO_rep r1 hp
      exact ix_list value slice pins s σ H _ _ v u Q I rx ry ⟨a, vs, i, y, e1, h2.int, .inl (.inl m1), hy, w _ (.inl ry')⟩ hs
    | _ => exact w.elim
  | tup l => cases v2 with
    | int i =>
      obtain ⟨p, hp, w⟩ := WP.opt w g
      obtain ⟨a, vs, e1, m1, z1, r1⟩ := h1.tup
      obtain ⟨y, hy, ry'⟩ := atO_rep r1 hp
      exact ix_tup value slice pins s σ H _ _ v u Q I rx ry ⟨a, vs, i, y, e1, h2.int, by rw [hK]; exact m1.sq g.sub, hy, w _ (.inl ry')⟩ hs
    | _ => exact w.elim
  | str l => cases v2 with
    | int i =>
      obtain ⟨c, hc, w⟩ := WP.opt w.bind g
      obtain ⟨e1, o1⟩ := h1.str
      refine ix_str value slice pins s σ H _ _ v u Q I rx ry ⟨toS l, i, c, e1, h2.int, by rw [toS_len, line_eq]; exact o1.2, by rw [toS_cps]; exact hc, ?_⟩ hs
      have hm : c ∈ l := by
        unfold atO at hc
        obtain ⟨j, _, hj⟩ := Option.bind_eq_some_iff.mp hc
        exact List.mem_of_getElem? hj
      exact end_str w g ⟨fun d hd => by rw [List.mem_singleton.mp hd]; exact o1.1 c hm, by show 1 ≤ LINE; decide⟩
    | _ => exact w.elim
  | cell => cases v2 with
    | int i =>
      have w : WP x (EV.get >>= fun c => optM (atO c i)) cup F H fun v _ F' H' => ∀ y, RepR x F' H' H v y → Q y H' := w
      have w : WP x (optM (atO cup i)) cup F H fun v _ F' H' => ∀ y, RepR x F' H' H v y → Q y H' := w.bind F H (Step.refl _ _ _) g
      obtain ⟨p, hp, w⟩ := WP.opt w g
      obtain ⟨a, e1, e2⟩ := h1.cell
      obtain ⟨_, vs, m1, r1⟩ := g.cell a e2
      obtain ⟨y, hy, ry'⟩ := atO_rep r1 hp
      exact ix_list value slice pins s σ H _ _ v u Q I rx ry ⟨a, vs, i, y, e1, h2.int, .inl (.inl m1), hy, w _ (.inl ry')⟩ hs
    | _ => exact w.elim
  | dict l =>
    obtain ⟨hz, w⟩ := WP.ite w
    obtain ⟨p, hp, w⟩ := WP.opt w g
    obtain ⟨a, o, e, d, lk⟩ := dget_of h2 h1 g.sub hz
    rcases lk with ⟨l1, _⟩ | ⟨p', w', l1, l2, rp⟩
    · rw [hp] at l1; cases l1
    · rw [hp] at l1
      cases l1
      subst e l2
      cases rx
      exact PyProof.Rows.tail_any (dict_typeIs I d) PySem.F.slot_dict_getitem.lookup (d_getItem hu I d ry fun w1 s' I' r' => ⟨w', H, I', r', w _ (.inl rp)⟩) hs
  | _ => exact w.elim
end
end EV

set_option maxRecDepth 100000
set_option maxHeartbeats 2000000
/-! EvEn: enumerate over a tuple; the sum of a tuple. -/
namespace EV
open PySem PySem.Spec PyProof.Rows L2
open AutoSeq1 (wpAny_loadPart')
/-- enumerate(t) of a tuple: a new one -/
def enmHeap (h : Heap) (t : Addr) : Heap := (h.push { cls := .type "tuple_iterator", data := .fields #[.ref t, .int 0 0] }).push { cls := .type "enumerate", data := .fields #[.none, .bool false, .ref h.objs.size, rawInt 0, .none, .none] }
theorem meets_enumT (t : Addr) (vs : Array Value) (m : Nat) (dd : Option Addr) (sl : Array (Option Value)) :
    Meets (Builtin.«enumerate.__new__» ⟨[.type "enumerate", .ref t], []⟩) (fun _ R s => s.heap.get? t = some { cls := .type "tuple", dict := dd, data := .seq vs m, slots := sl } ∧
      R (.ok (.ret (.ref (s.heap.push { cls := .type "tuple_iterator", data := .fields #[.ref t, .int 0 0] }).objs.size))) { s with heap := enmHeap s.heap t }) := by
  refine .of_wp fun P w A R s q => ?_
  obtain ⟨hp, gl, dr, tk, os⟩ := s
  obtain ⟨there, fin⟩ := q
  have itself := sub_enumerate
  have isT : Heap.IsTuple (Shared.heap ⟨hp, gl, dr, tk, os⟩) t vs := ⟨_, there, rfl, m, rfl⟩
  unfold enmHeap at fin
  wp_walk using wpAny_loadPart' there
  refine wpAny_stack_any fun top => wpAny_pure ?_
  split
  · rename_i cl _ _ _ _ _
    cases (cl == Value.type "enumerate") <;> (wp_walk using wpAny_loadPart' there, wpAny_pyIter_tuple isT; exact ⟨_, rfl, fin⟩)
  · wp_walk using wpAny_loadPart' there, wpAny_pyIter_tuple isT
    exact ⟨_, rfl, fin⟩
theorem call_enumT {P : Program} {w : World} {A : Around} {E : Value → Shared → Prop} {s : Shared} {t : Addr} {vs : Array Value} {R : Value → Shared → Prop} (isT : s.heap.IsTuple t vs)
    (fin : ∀ h', IsEnum h' (s.heap.objs.size + 1) s.heap.objs.size 0 .none → h'.IsTupleIter s.heap.objs.size t 0 → (∀ b ob, s.heap.get? b = some ob → h'.get? b = some ob) → R (.ref (s.heap.objs.size + 1)) { s with heap := h' }) :
    wpAny (model P w) A (call (.type "enumerate") [.ref t]) R E s := by
  obtain ⟨⟨cl, dd, dt, sl⟩, there, e1, m, e2⟩ := isT
  replace e1 : cl = .type "tuple" := e1
  replace e2 : dt = .seq vs m := e2
  subst e1 e2
  have size1 : (s.heap.push { cls := .type "tuple_iterator", data := .fields #[.ref t, .int 0 0] }).objs.size = s.heap.objs.size + 1 := Heap.size_push ..
  have fits := meets_enumT t vs m dd sl
  have entry := F.entry_enumerate_new
  refine callType_new F.called_enumerate (by decide) (F.typeCall_enumerate_1 _) (F.newCall_enumerate_1 _) (fun ob => F.args_object_init_2 ob _) entry fits ⟨there, ?_⟩
  have got := Heap.get?_push_size (s.heap.push { cls := .type "tuple_iterator", data := .fields #[.ref t, .int 0 0] }) (o := { cls := .type "enumerate", data := .fields #[.none, .bool false, .ref s.heap.objs.size, rawInt 0, .none, .none] }) rfl
  show _ ∧ _
  rw [size1] at got ⊢
  exact ⟨⟨_, got, rfl⟩, fin _ got ⟨_, Heap.get?_push_of_some _ (Heap.get?_push_size _ rfl), rfl, rfl⟩ fun b ob q => Heap.get?_push_of_some _ (Heap.get?_push_of_some _ q)⟩
/-- a tuple's items, each in a new pair with its number -/
def IteT (K : PySem.W.Frag) (a : Addr) : It where
  go := fun i H => ∃ xs x, SqT K H a xs ∧ xs[i]? = some x
  yld := fun i H v H' => ∃ T x, v = .ref T ∧ H T = none ∧ H' = upd H T (.tup [.int (i : Nat), x]) ∧ ∀ xs, SqT K H a xs → xs[i]? = some x
  stop := fun i H => ∃ xs : List V, SqT K H a xs ∧ xs.length ≤ i
theorem turn_enumT {P : Program} {w : World} {K : PySem.W.Frag} {elts : List Expr} {kk : Nat} {tpos : Pos} (a e j : Addr) :
    Turn P w K (.Tuple elts kk tpos) (IteT K a) [e, j] e (fun i h => (∃ last, IsEnum h e j ((i : Nat) : Int) last) ∧ h.IsTupleIter j a i ∧ e ≠ j ∧ a ≠ j ∧ a ≠ e) where
  mem := by simp
  obj := fun i h z b hb => by
    obtain ⟨⟨last, at_e⟩, ⟨ob, there, _, fields⟩, _⟩ := z
    rcases (show b = e ∨ b = j by simpa using hb) with rfl | rfl
    · exact ⟨_, at_e, fun v q => nomatch q⟩
    · exact ⟨ob, there, fun v q => by rw [fields] at q; cases q⟩
  keep := fun i h h' z kept => by
    obtain ⟨⟨last, at_e⟩, at_j, r⟩ := z
    exact ⟨⟨last, kept e (by simp) _ at_e⟩, at_j.at fun ob q => kept j (by simp) ob q, r⟩
  item := by
    intro X e1 e2 e3 hc i pins s σ H E I foot z hg
    subst e1 e2 e3
    obtain ⟨⟨last, at_e⟩, at_j, ne1, ne2, ne3⟩ := z
    obtain ⟨xs, x, isq, hx⟩ := hg
    obtain ⟨its, vals, isT, _⟩ := I.tuple isq
    obtain ⟨u, hu, rel⟩ := vals.get hx
    have lt_e : e < s.heap.objs.size := Heap.lt_size at_e
    have lt_j : j < s.heap.objs.size := by obtain ⟨_, q, _⟩ := at_j; exact Heap.lt_size q
    have lt_i : i < its.toArray.size := by
      have := (List.getElem?_eq_some_iff.mp hu).1
      simpa using this
    have notin : e ∉ [j, a] := fun m => by
      rcases (show e = j ∨ e = a by simpa using m) with q | q
      · exact ne1 q
      · exact ne3 q.symm
    refine wpAny_pyNext_enum_itemD (Draws.tuple (A := X.A.in1) (I.ok.hd hc) j a ne2 its.toArray) at_e ⟨at_j, isT⟩ lt_i ne1 notin fun y h' tk hy out z' new size' old => ?_
    have ey : y = u := by
      have : its.toArray[i]? = some u := by simpa using hu
      rw [this] at hy
      exact (Option.some.inj hy).symm
    subst ey
    refine ⟨_, rfl, wpAny_letOwnedTupleGo_enum (s := { s with heap := h', toks := tk + 1 }) out fun h2 at_e2 same => ?_⟩
    have new2 : h2.get? s.heap.objs.size = some { cls := .type "tuple", data := .seq #[.int i tk, y] } := (same.2 _ (Nat.ne_of_gt lt_e)).trans new
    have I1 : Inv X pins σ (upd H s.heap.objs.size (.tup [.int (i : Nat), x])) { s with heap := h2, toks := tk + 1 } := by
      refine I.turnedNew (ch := [e, j]) (fun b ob hb q => ?_) foot (Nat.le_refl _) ⟨by show 2 ≤ sizeLine; decide, [.int i tk, y], .cons ⟨_, rfl⟩ (.cons rel .nil), ⟨_, new2, rfl, _, rfl⟩⟩
      have n1 : b ≠ e := fun z => hb (by simp [z])
      have n2 : b ≠ j := fun z => hb (by simp [z])
      exact (same.2 b n1).trans (old b ob n1 n2 q)
    refine ⟨.ref s.heap.objs.size, _, I1, rfl, ⟨_, x, rfl, I.hok.fresh (Nat.le_refl _), rfl, fun ys hy => by rw [I.tuple_inj hy isq]; exact hx⟩, ⟨⟨y, ?_⟩, z'.1.at fun ob q => (same.2 j (Ne.symm ne1)).trans q, ne1, ne2, ne3⟩, fun b hb => ?_⟩
    · rw [show ((i + 1 : Nat) : Int) = (i : Int) + 1 by omega]
      exact at_e2
    · have lt_b : b < s.heap.objs.size := by
        rcases (show b = e ∨ b = j by simpa using hb) with rfl | rfl
        · exact lt_e
        · exact lt_j
      rw [upd_ne (Nat.ne_of_lt lt_b)]
      exact (foot b hb).1
  done := by
    intro X e1 e2 e3 hc i pins s σ H E I foot z hg
    subst e1 e2 e3
    obtain ⟨⟨last, at_e⟩, at_j, ne1, ne2, ne3⟩ := z
    obtain ⟨xs, isq, hx⟩ := hg
    obtain ⟨its, vals, isT, _⟩ := I.tuple isq
    have len := vals.length
    have over : its.toArray[i]? = none := by
      rw [List.getElem?_toArray, List.getElem?_eq_none_iff]
      omega
    have D : Draws X.prog X.w X.A.in1 j [j, a] i (fun _ _ => False) (fun k h => k = i ∧ h.IsTupleIter j a i ∧ h.IsTuple a its.toArray) := {
      live := fun _ _ z => ⟨z.2.1.choose, z.2.1.choose_spec.1⟩
      frame := fun _ _ _ z kept => ⟨z.1, z.2.1.at fun ob q => kept j (by simp) ob q, let ⟨ob, q, r⟩ := z.2.2; ⟨ob, kept a (by simp) ob q, r⟩⟩
      item := fun k s R E lt z => absurd z.1 (Nat.ne_of_lt lt)
      done := fun s R E z fin => wpAny_nextOf_tuple_end (I.ok.hd hc) z.2.1 z.2.2 over fin }
    exact wpAny_pyNext_enum_endD D at_e ⟨rfl, at_j, isT⟩ fun h' same => ⟨rfl, I.turnedL (t' := s.toks) (ch := [e, j]) (fun b ob hb q => same b ob (fun z => hb (by simp [z])) q) foot⟩
  self := fun A i s Q E z fin => by
    obtain ⟨⟨_, at_e⟩, _⟩ := z
    exact wpAny_pyIter_enum at_e fin
def iEnumT (K : PySem.W.Frag) (ta : TA) : TI := fun σ H R => ta σ H fun vs H1 => ∃ a xs, vs = [.ref a] ∧ ((SqL K H1 a xs ∧ R (Ite K a) H1) ∨ (SqT K H1 a xs ∧ R (IteT K a) H1))
theorem pi_enumA {X : Cx} {e : Expr} {ta : TA} {p pos tpos : Pos} {elts : List Expr} {kk : Nat} (hg : Gl X "enumerate") (hm : X.mg "enumerate" = none) (ha : PA X [e] ta) (hs : starEach [e] X.env = [(false, eval e X.env)]) :
    PI X (.Tuple elts kk tpos) (.Call (.Name "enumerate" p) [e] [] pos) (iEnumT X.K ta) := by
  refine ⟨fun pins s σ H R I h => ?_⟩
  refine Call_ (ld_blt I hg hm boot_enumerate (PyProof.Rows.callWith_type1 (thn (ha.run pos pins s σ H _ I h) fun us s1 q1 => ?_) hs rfl))
  obtain ⟨vs, H1, I1, r1, a, xs, ex, q⟩ := q1
  subst ex
  obtain ⟨v, rfl, rv⟩ := vals1 r1
  cases rv
  have young : ∀ b, b ∈ [s1.heap.objs.size + 1, s1.heap.objs.size] → FpOk X pins H1 b := fun b hb => by
    have le_b : s1.heap.objs.size ≤ b := by
      rcases (show b = s1.heap.objs.size + 1 ∨ b = s1.heap.objs.size by simpa using hb) with rfl | rfl <;> omega
    exact I1.fpOk le_b (I1.hok.fresh le_b)
  rcases q with ⟨isq, q⟩ | ⟨isq, q⟩
  · obtain ⟨its, _, isL, _⟩ := I1.list isq
    refine call_enumerate_list isL.isList fun h' at_e at_j _ kept => wpAny_pyIter_enum at_e ?_
    exact ⟨s1.heap.objs.size + 1, _, _, _, H1, rfl, I1.kept (t' := s1.toks) kept, turn_enum a (s1.heap.objs.size + 1) s1.heap.objs.size, ⟨⟨.none, at_e⟩, at_j, Nat.succ_ne_self _⟩, young, q⟩
  · obtain ⟨its, _, isT, _⟩ := I1.tuple isq
    have lt_a : a < s1.heap.objs.size := by obtain ⟨_, there, _⟩ := isT; exact Heap.lt_size there
    refine call_enumT isT fun h' at_e at_j kept => wpAny_pyIter_enum at_e ?_
    exact ⟨s1.heap.objs.size + 1, _, _, _, H1, rfl, I1.kept (t' := s1.toks) kept, turn_enumT a (s1.heap.objs.size + 1) s1.heap.objs.size, ⟨⟨.none, at_e⟩, at_j, Nat.succ_ne_self _, Nat.ne_of_lt lt_a, Nat.ne_of_lt (Nat.lt_succ_of_lt lt_a)⟩, young, q⟩
/-! ### sum(t) -/
theorem sum_tupleR {P : Program} {w : World} {A : Around} {E : Value → Shared → Prop} {s : Shared} {t : Addr} {vs : List Value} {ns : List Int} {R : Value → Shared → Prop} (quiet : A.handled = none) (isT : s.heap.IsTuple t vs.toArray) (are : IntsAre vs ns)
    (fin : ∀ h' tk u, (∀ b ob, s.heap.get? b = some ob → h'.get? b = some ob) → R (.int ns.sum u) { s with heap := h', toks := tk }) : wpAny (model P w) A (call (.builtin "sum") [.ref t]) R E s := by
  obtain ⟨xs, ex⟩ := are.allInts.items
  have nums : numsOf (intItems xs).toList = ns := by rw [← ex]; exact are.numsOf
  rw [nums_intItems] at nums
  rw [ex] at isT
  have lt_t : t < s.heap.objs.size := by obtain ⟨_, there, _⟩ := isT; exact Heap.lt_size there
  refine call_sum_walkG (wpAny_pyIter_tuple isT ?_)
  refine ⟨s.heap.objs.size, _, _, _, _, _, numAt xs, rfl, Walks.tuple (A := A.in1) quiet s.heap.objs.size t (Nat.ne_of_lt lt_t) (intItems xs), ⟨⟨_, Heap.get?_push_size _ rfl, rfl, rfl⟩, isT.push _⟩, fun b hb => ?_, fun _ _ => intItems_at, fun h' tk u kept => ?_⟩
  · show b < (s.heap.push _).objs.size
    rw [Heap.size_push]
    rcases (show b = s.heap.objs.size ∨ b = t by simpa using hb) with q | q
    · rw [q]; exact Nat.lt_succ_self _
    · rw [q]; exact Nat.lt_succ_of_lt lt_t
  · have := fin h' tk u fun b ob q => kept b ob (fun z => Nat.lt_irrefl b (by
      have lt_b := Heap.lt_size q
      rw [List.mem_singleton.mp z] at lt_b ⊢
      exact lt_b)) (Heap.get?_push_of_some _ q)
    rw [show (intItems xs).size = xs.size by simp [intItems], preSum_eq, List.take_of_length_le (by simp)]
    rw [nums] at *
    exact this
end EV

set_option maxRecDepth 100000
set_option maxHeartbeats 2000000
/-! EvBlt: slices, truth, built-in functions, methods. -/
namespace EV
open PySem PySem.Spec PyProof.Rows L2

/-! ### slices -/
theorem clip_sIx (n d : Nat) (o : Option Int) : clip n d o = HT.sIx n d o := rfl
theorem cut_cutV (xs : List V) (lo hi : Option Int) : cut xs lo hi = cutV xs lo hi := rfl
theorem cut_rep {K F C} {ps : List PV} {vs : List V} (r : RepVs K F C ps vs) (lo hi : Option Int) : RepVs K F C (cut ps lo hi) (cutV vs lo hi) := by
  unfold cut cutV
  rw [r.length]
  exact (r.drop _).take _
theorem cut_str (l : List Nat) (lo hi : Option Int) : cutS (toS l) lo hi = toS (cut l lo hi) := by
  unfold cutS cut toS
  rfl
theorem okL_cut {l : List Nat} (h : okL l) (lo hi : Option Int) : okL (cut l lo hi) := by
  unfold cut
  refine ⟨fun c hc => h.1 c (List.mem_of_mem_drop (List.mem_of_mem_take hc)), ?_⟩
  rw [List.length_take, List.length_drop]
  have := h.2
  omega
def r3 (x : Fix) (f : PV → Option Int → Option Int → M PV) : V → Option Int → Option Int → Hp → VK → Prop := fun y1 lo hi H Q => ∃ v1 cup F, Good x cup F H ∧ RepH x F H v1 y1 ∧ WP x (f v1 lo hi) cup F H fun v _ F' H' => ∀ y, RepR x F' H' H v y → Q y H'
section
variable {X : Cx} {x : Fix}
theorem sl_E (hK : X.K = x.K) : SlR X (r3 x slcV) := by
  intro pins s σ H y1 v vl vu lo hi sl Q I rx hs pl pu ⟨v1, cup, F, g, h1, w⟩
  cases v1 with
  | lst l =>
    obtain ⟨a, vs, e1, m1, z1, r1⟩ := h1.lst g.sub
    refine sl_list pins s σ H _ v vl vu lo hi sl Q I rx hs pl pu ⟨a, vs, e1, .inl (.inl m1), fun p hp => end_lst w g ?_ (cut_rep r1 lo hi) p hp⟩
    exact Nat.le_trans (cutV_length vs lo hi) z1
  | tup l =>
    obtain ⟨a, vs, e1, m1, z1, r1⟩ := h1.tup
    refine sl_tupA pins s σ H _ v vl vu lo hi sl Q I rx hs pl pu ⟨a, vs, e1, by rw [hK]; exact m1.sq g.sub, fun hw => ?_, fun _ p hp => end_tup w g ?_ (cut_rep r1 lo hi) p hp⟩
    · have e : cut l lo hi = l := by
        unfold cut
        rw [clip_sIx, clip_sIx, r1.length, hw.1, hw.2, List.drop_zero, Nat.sub_zero, ← r1.length]
        exact List.take_length
      have w : WP x (pure (.tup (cut l lo hi)) : M PV) cup F H fun v _ F' H' => ∀ y, RepR x F' H' H v y → Q y H' := w
      rw [e] at w
      exact end_old w g (.tup m1 z1 r1)
    · exact Nat.le_trans (cutV_length vs lo hi) z1
  | str l =>
    obtain ⟨e1, o1⟩ := h1.str
    refine sl_str pins s σ H _ v vl vu lo hi sl Q I rx hs pl pu ⟨toS l, e1, by rw [toS_len, line_eq]; exact o1.2, ?_⟩
    rw [cut_str]
    exact end_str w g (okL_cut o1 lo hi)
  | _ => exact w.elim
theorem tru_E (hK : X.K = x.K) {pins s σ H y v cup F b} {Q : Bool → Hp → Prop} (I : Inv X pins σ H s) (rx : RelV y v) (g : Good x cup F H) (h : RepH x F H b y) (w : WP x (truM b) cup F H fun r _ F' H' => Q r H') :
    wpAny (model X.prog X.w) X.A (truthy v) (TP X pins σ Q) X.xe s := by
  cases b with
  | non => exact tru_ok pins s σ H y v Q I rx ⟨false, by rw [h.non]; rfl, w.pure g⟩
  | bl b => exact tru_ok pins s σ H y v Q I rx ⟨b, by rw [h.bl]; rfl, w.pure g⟩
  | int i => exact tru_ok pins s σ H y v Q I rx ⟨i != 0, by rw [h.int]; rfl, w.pure g⟩
  | str l =>
    obtain ⟨e, o⟩ := h.str
    refine tru_ok pins s σ H y v Q I rx ⟨!l.isEmpty, ?_, w.pure g⟩
    rw [e]
    refine ⟨by rw [toS_len, line_eq]; exact o.2, ?_⟩
    rw [toS_len]
    cases l with
    | nil => rfl
    | cons a r =>
      show true = _
      simp
      omega
  | lst l =>
    obtain ⟨a, vs, e, m, z, r⟩ := h.lst g.sub
    refine tru_ok pins s σ H y v Q I rx ⟨!l.isEmpty, ?_, w.pure g⟩
    rw [e]
    exact .inl ⟨vs, .inl (.inl m), by cases r <;> rfl⟩
  | tup l =>
    obtain ⟨a, vs, e, m, z, r⟩ := h.tup
    refine tru_ok pins s σ H y v Q I rx ⟨!l.isEmpty, ?_, w.pure g⟩
    rw [e]
    exact .inr (.inl ⟨vs, by rw [hK]; exact m.sq g.sub, by cases r <;> rfl⟩)
  | dict l =>
    obtain ⟨a, ks, e, m, z, r⟩ := h.dict g.sub
    subst e
    cases rx
    refine d_truth I m fun s' I' => ?_
    have e : (!ks.isEmpty) = !l.isEmpty := by cases r <;> rfl
    rw [e]
    exact ⟨H, I', w.pure g⟩
  | _ => exact w.elim

/-! ### built-in functions -/
theorem one_of {F H} {l : List PV} {ys : List V} {p : PV} (h : RepHs x F H l ys) (e : l = [p]) : ∃ y, ys = [y] ∧ RepH x F H p y := by
  subst e
  cases h with
  | cons h t => cases t; exact ⟨_, rfl, h⟩
theorem RepHs.one {F H} {ys : List V} {p : PV} (h : RepHs x F H [p] ys) : ∃ y, ys = [y] ∧ RepH x F H p y := by
  cases h with
  | cons h t => cases t; exact ⟨_, rfl, h⟩
theorem RepHs.two {F H} {ys : List V} {p q : PV} (h : RepHs x F H [p, q] ys) : ∃ y z, ys = [y, z] ∧ RepH x F H p y ∧ RepH x F H q z := by
  cases h with
  | cons h t => cases t with
    | cons h2 t => cases t; exact ⟨_, _, rfl, h, h2⟩
theorem bools_rep {K F C} : ∀ {l : List PV} {bs : List Bool} {vs : List V}, boolsOf l = some bs → RepVs K F C l vs → vs = bs.map V.bl
  | [], bs, _, h, .nil => by cases h; rfl
  | p :: l, bs, _, h, .cons hp t => by
    cases p with
    | bl b =>
      obtain ⟨bs', h1, h2⟩ := Option.map_eq_some_iff.mp (show (boolsOf l).map (b :: ·) = some bs from h)
      subst h2
      cases hp
      rw [bools_rep h1 t]
      rfl
    | _ => cases h
theorem ints_rep {K F C} : ∀ {l : List PV} {bs : List Int} {vs : List V}, intsOf l = some bs → RepVs K F C l vs → vs = bs.map V.int
  | [], bs, _, h, .nil => by cases h; rfl
  | p :: l, bs, _, h, .cons hp t => by
    cases p with
    | int b =>
      obtain ⟨bs', h1, h2⟩ := Option.map_eq_some_iff.mp (show (intsOf l).map (b :: ·) = some bs from h)
      subst h2
      cases hp
      rw [ints_rep h1 t]
      rfl
    | _ => cases h
theorem strs_rep {K F C} : ∀ {l : List PV} {bs : List (List Nat)} {vs : List V}, strsOf l = some bs → RepVs K F C l vs → vs = (bs.map toS).map V.str ∧ ∀ b ∈ bs, okL b
  | [], bs, _, h, .nil => by cases h; exact ⟨rfl, fun _ z => nomatch z⟩
  | p :: l, bs, _, h, .cons hp t => by
    cases p with
    | str b =>
      obtain ⟨bs', h1, h2⟩ := Option.map_eq_some_iff.mp (show (strsOf l).map (b :: ·) = some bs from h)
      subst h2
      cases hp with
      | str _ ho =>
        obtain ⟨e, o⟩ := strs_rep h1 t
        rw [e]
        refine ⟨rfl, fun c hc => ?_⟩
        rcases List.mem_cons.mp hc with rfl | hc
        · exact ho
        · exact o c hc
    | _ => cases h
/-- a function of one value, as a call's rule -/
def rC1 (x : Fix) (f : PV → M PV) : List V → Hp → VK → Prop := fun ys H Q => ∃ y, ys = [y] ∧ r1 x f y H Q
def rC2 (x : Fix) (f : PV → PV → M PV) : List V → Hp → VK → Prop := fun ys H Q => ∃ y z, ys = [y, z] ∧ r2 x f y z H Q
theorem call_lenE (hK : X.K = x.K) : CallR X (.builtin "len") (rC1 x lenV) := by
  intro pins s σ H ys us Q I r ⟨y, e, p, cup, F, g, h, w⟩
  subst e
  cases p with
  | lst l =>
    obtain ⟨a, vs, e, m, z, r1⟩ := h.lst g.sub
    refine call_len_seq pins s σ H _ us Q I r ⟨a, vs, by rw [e], .inl (.inl (.inl m)), ?_⟩
    rw [← r1.length]
    exact end_int w g
  | tup l =>
    obtain ⟨a, vs, e, m, z, r1⟩ := h.tup
    refine call_len_seq pins s σ H _ us Q I r ⟨a, vs, by rw [e], .inr (by rw [hK]; exact m.sq g.sub), ?_⟩
    rw [← r1.length]
    exact end_int w g
  | str l =>
    obtain ⟨e, o⟩ := h.str
    refine call_len_str pins s σ H _ us Q I r ⟨toS l, by rw [e], by rw [toS_len, line_eq]; exact o.2, ?_⟩
    rw [toS_len]
    exact end_int w g
  | dict l =>
    obtain ⟨a, ks, e, m, z, r1⟩ := h.dict g.sub
    subst e
    obtain ⟨u, rfl, ru⟩ := vals1 r
    cases ru
    refine d_len I m fun t s' I' => ⟨.int ks.length, H, I', ⟨t, rfl⟩, ?_⟩
    rw [← r1.length]
    exact end_int w g
  | _ => exact w.elim
theorem call_allE (hc : X.calm = true) : CallR X (.builtin "all") (rC1 x allV) := by
  intro pins s σ H ys us Q I r ⟨y, e, p, cup, F, g, h, w⟩
  subst e
  cases p with
  | lst l =>
    obtain ⟨bs, hb, w⟩ := WP.opt (WP.bind w) g
    obtain ⟨a, vs, e, m, z, r1⟩ := h.lst g.sub
    have ev := bools_rep hb r1
    subst ev
    exact cr_all hc pins s σ H _ us Q I r ⟨a, bs, by rw [e], .inl (.inl m), end_bl w g⟩
  | _ => exact w.elim
theorem call_anyE (hc : X.calm = true) : CallR X (.builtin "any") (rC1 x anyV) := by
  intro pins s σ H ys us Q I r ⟨y, e, p, cup, F, g, h, w⟩
  subst e
  cases p with
  | lst l =>
    obtain ⟨bs, hb, w⟩ := WP.opt (WP.bind w) g
    obtain ⟨a, vs, e, m, z, r1⟩ := h.lst g.sub
    have ev := bools_rep hb r1
    subst ev
    exact cr_any hc pins s σ H _ us Q I r ⟨a, bs, by rw [e], .inl (.inl m), end_bl w g⟩
  | _ => exact w.elim
theorem call_sumE (hK : X.K = x.K) (hc : X.calm = true) : CallR X (.builtin "sum") (rC1 x sumV) := by
  intro pins s σ H ys us Q I r ⟨y, e, p, cup, F, g, h, w⟩
  subst e
  cases p with
  | tup l =>
    obtain ⟨bs, hb, w⟩ := WP.opt (WP.bind w) g
    obtain ⟨a, vs, e, m, z, r1⟩ := h.tup
    have ev := ints_rep hb r1
    subst e ev
    obtain ⟨u, rfl, ru⟩ := vals1 r
    cases ru
    obtain ⟨its, rv, isT, _⟩ := I.tuple (show SqT X.K H a (bs.map V.int) by rw [hK]; exact m.sq g.sub)
    exact sum_tupleR (I.ok.hd hc) isT rv.ints fun h' tk u kept => ⟨.int _, H, I.kept kept, ⟨_, rfl⟩, end_int w g⟩
  | lst l =>
    obtain ⟨bs, hb, w⟩ := WP.opt (WP.bind w) g
    obtain ⟨a, vs, e, m, z, r1⟩ := h.lst g.sub
    have ev := ints_rep hb r1
    subst ev
    exact cr_sum hc pins s σ H _ us Q I r ⟨a, bs, by rw [e], .inl (.inl m), end_int w g⟩
  | _ => exact w.elim
theorem call_intE : CallR X (.type "int") (rC1 x intV) := by
  intro pins s σ H ys us Q I r ⟨y, e, p, cup, F, g, h, w⟩
  subst e
  cases p with
  | int i => exact call_int1 pins s σ H _ us Q I r (.inl ⟨i, by rw [h.int], end_int w g⟩)
  | bl b =>
    refine call_int1 pins s σ H _ us Q I r (.inr ⟨b, by rw [h.bl], ?_⟩)
    exact end_int w g
  | _ => exact w.elim
theorem okL_num (i : Int) (h : i.natAbs.log2 < 1920) : True := trivial
theorem call_absE : CallR X (.builtin "abs") (rC1 x absV) := by
  intro pins s σ H ys us Q I r ⟨y, e, p, cup, F, g, h, w⟩
  subst e
  cases p with
  | int i => exact call_abs pins s σ H _ us Q I r ⟨i, by rw [h.int], end_int w g⟩
  | _ => exact w.elim
theorem call_tupE (hK : X.K = x.K) : CallR X (.type "tuple") (rC1 x tupV) := by
  intro pins s σ H ys us Q I r ⟨y, e, p, cup, F, g, h, w⟩
  subst e
  cases p with
  | lst l =>
    obtain ⟨a, vs, e, m, z, r1⟩ := h.lst g.sub
    exact call_tuple_of pins s σ H _ us Q I r ⟨a, vs, by rw [e], .inl ⟨.inl (.inl m), fun p hp => end_tup w g z r1 p hp⟩⟩
  | tup l =>
    obtain ⟨a, vs, e, m, z, r1⟩ := h.tup
    refine call_tuple_of pins s σ H _ us Q I r ⟨a, vs, by rw [e], .inr ⟨by rw [hK]; exact m.sq g.sub, ?_⟩⟩
    exact end_old w g (.tup m z r1)
  | _ => exact w.elim
theorem signs_rep {K F C} {l : List Nat} (h : okL l) : RepVs K F C (l.map fun c => PV.str [c]) (l.map fun c => V.str (toS [c])) := by
  have : ∀ l : List Nat, (∀ c ∈ l, c < 0x110000) → RepVs K F C (l.map fun c => PV.str [c]) (l.map fun c => V.str (toS [c])) := by
    intro l
    induction l with
    | nil => intro _; exact .nil
    | cons c r ih =>
      intro h
      refine .cons (.str _ ⟨fun d hd => by rw [List.mem_singleton.mp hd]; exact h c List.mem_cons_self, by show 1 ≤ LINE; decide⟩) (ih fun d hd => h d (List.mem_cons_of_mem _ hd))
  exact this l h.1
/-- .. whose result is a new list -/
def rC1n (x : Fix) (f : PV → M PV) : List V → Hp → VK → Prop := fun ys H Q => ∃ y v1 cup F, ys = [y] ∧ Good x cup F H ∧ RepH x F H v1 y ∧ WP x (f v1) cup F H fun v _ F' H' => ∀ a, Own x F' H' v a → H a = none → Q (.ref a) H'
def r2n (x : Fix) (f : PV → PV → M PV) : R2 := fun y1 y2 H Q => ∃ l v2 cup F, Good x cup F H ∧ RepH x F H (.lst l) y1 ∧ RepH x F H v2 y2 ∧ WP x (f (.lst l) v2) cup F H fun v _ F' H' => ∀ a, Own x F' H' v a → H a = none → Q (.ref a) H'
theorem end_lstN {x : Fix} {cup : Cup} {F H : Hp} {Q : VK} {l : List PV} {vs : List V} (w : WP x (pure (.lst l) : M PV) cup F H fun v _ F' H' => ∀ a, Own x F' H' v a → H a = none → Q (.ref a) H') (g : Good x cup F H) (z : vs.length ≤ LINE) (r : RepVs x.K F x.C l vs) (p : Addr) (hp : H p = none) : Q (.ref p) (upd H p (.lst vs)) :=
  w.pureS (Step.own g hp) (g.own hp) p ⟨g.nF hp, g.notC hp, vs, upd_same, z, r⟩ hp
theorem call_listN (hK : X.K = x.K) (hc : X.calm = true) : CallR X (.type "list") (rC1n x listV) := by
  intro pins s σ H ys us Q I r ⟨y, p, cup, F, e, g, h, w⟩
  subst e
  cases p with
  | lst l =>
    obtain ⟨a, vs, e, m, z, r1⟩ := h.lst g.sub
    exact call_list_of pins s σ H _ us Q I r ⟨a, vs, by rw [e], .inl (.inl (.inl m)), fun p hp => end_lstN w g z r1 p hp⟩
  | tup l =>
    obtain ⟨a, vs, e, m, z, r1⟩ := h.tup
    exact call_list_of pins s σ H _ us Q I r ⟨a, vs, by rw [e], .inr (by rw [hK]; exact m.sq g.sub), fun p hp => end_lstN w g z r1 p hp⟩
  | str l =>
    obtain ⟨e, o⟩ := h.str
    obtain ⟨u, rfl, ru⟩ := vals1 r
    rw [e] at ru
    obtain ⟨t, rfl⟩ := ru
    have hsz : (toS l).cps.size ≤ sizeLine := by
      have := toS_len l
      unfold Str.length at this
      rw [this, line_eq]; exact o.2
    refine call_list_str (hn := hsz) (I.ok.hd hc) (toS l) t fun h' tk acc c' hk hS hacc => ?_
    have hv : Vals (l.map fun c => V.str (toS [c])) acc.toList := by
      have hlen : acc.toList.length = l.length := by
        have := hacc.1
        have e2 := toS_len l
        unfold Str.length at e2
        rw [Array.length_toList, this, e2]
      have hget : ∀ (j : Nat) (c : Nat), l[j]? = some c → ∃ u, acc.toList[j]? = some (Value.str (toS [c]) u) := fun j c hj => by
        have hj2 : j < acc.toList.length := by
          rw [hlen]; exact (List.getElem?_eq_some_iff.mp hj).1
        obtain ⟨v, hv⟩ : ∃ v, acc.toList[j]? = some v := ⟨_, List.getElem?_eq_getElem hj2⟩
        obtain ⟨d, u, hd, e3⟩ := hacc.2 j v (by simpa using hv)
        have hd2 : l[j]? = some d := by
          have : (toS l).cps[j]? = l[j]? := by simp [toS]
          rw [← this]; exact hd
        rw [hj] at hd2
        cases hd2
        exact ⟨u, by rw [hv, e3]; rfl⟩
      have key : ∀ (l : List Nat) (us : List Value), us.length = l.length → (∀ (j : Nat) (c : Nat), l[j]? = some c → ∃ u, us[j]? = some (Value.str (toS [c]) u)) → Vals (l.map fun c => V.str (toS [c])) us := by
        intro l
        induction l with
        | nil =>
          intro us h1 _
          have : us = [] := List.eq_nil_of_length_eq_zero h1
          subst this
          exact .nil
        | cons c r ih =>
          intro us h1 h2
          cases us with
          | nil => cases h1
          | cons u us =>
            obtain ⟨t, ht⟩ := h2 0 c rfl
            have e : u = Value.str (toS [c]) t := Option.some.inj ht
            refine .cons ⟨t, e⟩ (ih us (by simpa using h1) fun j d hj => ?_)
            obtain ⟨t2, h3⟩ := h2 (j + 1) d (by simpa using hj)
            exact ⟨t2, by simpa using h3⟩
      exact key l acc.toList hlen hget
    have hz : (l.map fun c => V.str (toS [c])).length ≤ LINE := by rw [List.length_map]; exact o.2
    have hnew : ObjOk X.prog X.w (upd H s.heap.objs.size (.lst (l.map fun c => V.str (toS [c])))) h' s.heap.objs.size (.lst (l.map fun c => V.str (toS [c]))) := by
      refine ⟨by rw [line_eq]; exact hz, acc.toList, c', hv, ?_⟩
      rw [hS]
    exact ⟨.ref s.heap.objs.size, _, I.laid (t' := tk) hk (Nat.le_refl _) hnew, rfl, end_lstN w g hz (signs_rep o) _ (I.hok.fresh (Nat.le_refl _))⟩
  | _ => exact w.elim
theorem op_addN : OpR X (binaryOp .Add) (fun y1 y2 H Q => ∃ v1 l2 cup F, Good x cup F H ∧ RepH x F H v1 y1 ∧ RepH x F H (.lst l2) y2 ∧ WP x (addV v1 (.lst l2)) cup F H fun v _ F' H' => ∀ a, Own x F' H' v a → H a = none → Q (.ref a) H') := by
  intro pins s σ H y1 y2 v u Q J rx ry ⟨v1, l2, cup, F, g, h1, h2, w⟩
  cases v1 with
  | lst l1 =>
    obtain ⟨hz, w⟩ := WP.ite w
    obtain ⟨a, vs, e1, m1, z1, r1⟩ := h1.lst g.sub
    obtain ⟨b, ws, e2, m2, z2, r2⟩ := h2.lst g.sub
    have hz' : vs.length + ws.length ≤ LINE := by rw [← r1.length, ← r2.length]; exact hz
    exact op_cat pins s σ H _ _ v u Q J rx ry ⟨a, b, vs, ws, e1, e2, m1, m2, by rw [line_eq]; exact hz', fun p hp => end_lstN w g (by rw [List.length_append]; exact hz') (r1.append r2) p hp⟩
  | _ => exact w.elim
theorem op_mulN : OpR X (binaryOp .Mult) (r2n x mulV) := by
  intro pins s σ H y1 y2 v u Q I rx ry ⟨a, v2, cup, F, g, h1, h2, w⟩
  cases v2 with
  | int k =>
    obtain ⟨hz, w⟩ := WP.ite w
    obtain ⟨z1, z2⟩ := Bool.and_eq_true_iff.mp hz
    have z2 := of_decide_eq_true z2
    obtain ⟨b1, b2⟩ := small63_ok z1
    obtain ⟨l, vs, e1, m1, zz, rr⟩ := h1.lst g.sub
    have z3 : vs.length * k.toNat ≤ LINE := by rw [← rr.length]; exact z2
    refine op_rep pins s σ H _ _ v u Q I rx ry ⟨l, k, vs, e1, h2.int, m1, b1, b2, by rw [line_eq]; exact z3, fun p hp => end_lstN w g ?_ (rr.rep _) p hp⟩
    have := rep_len vs k
    unfold rep at this
    rw [this]
    exact z3
  | _ => exact False.elim w
theorem call_strE : CallR X (.type "str") (rC1 x strV) := by
  intro pins s σ H ys us Q I r ⟨y, e, p, cup, F, g, h, w⟩
  subst e
  cases p with
  | str l =>
    obtain ⟨e, o⟩ := h.str
    refine SkE.call_str_str pins s σ H _ us Q I r ⟨toS l, by rw [e], ?_⟩
    exact end_str w g o
  | int i =>
    obtain ⟨hz, w⟩ := WP.ite w
    obtain ⟨z1, z2⟩ := Bool.and_eq_true_iff.mp hz
    have z2 := of_decide_eq_true z2
    refine call_str_int pins s σ H _ us Q I r ⟨i, by rw [h.int], of_decide_eq_true z1, ?_⟩
    have e : (Str.ofString (toString i)) = toS (showInt i) := by
      unfold Str.ofString toS showInt
      rw [cpsOfBytes_string]
    show Q (.str (Str.ofString (toString i))) H
    rw [e]
    refine end_str w g ⟨fun c hc => ?_, z2⟩
    obtain ⟨d, _, rfl⟩ := List.mem_map.mp hc
    have := d.valid
    simp only [UInt32.isValidChar, Nat.isValidChar] at this
    show d.val.toNat < _
    omega
  | _ => exact w.elim
theorem maxL_spec : ∀ (r : List Int) (a : Int), (maxL a r = a ∨ maxL a r ∈ r) ∧ a ≤ maxL a r ∧ ∀ y ∈ r, y ≤ maxL a r
  | [], a => ⟨.inl rfl, Int.le_refl _, fun _ h => nomatch h⟩
  | b :: r, a => by
    obtain ⟨h1, h2, h3⟩ := maxL_spec r (if a < b then b else a)
    have ha : a ≤ (if a < b then b else a) := by split <;> omega
    have hb : b ≤ (if a < b then b else a) := by split <;> omega
    unfold maxL
    refine ⟨?_, Int.le_trans ha h2, fun y hy => ?_⟩
    · rcases h1 with h1 | h1
      · rw [h1]
        by_cases hc : a < b
        · rw [if_pos hc]; exact .inr List.mem_cons_self
        · rw [if_neg hc]; exact .inl rfl
      · exact .inr (List.mem_cons_of_mem _ h1)
    · rcases List.mem_cons.mp hy with rfl | hy
      · exact Int.le_trans hb h2
      · exact h3 y hy
theorem minL_spec : ∀ (r : List Int) (a : Int), (minL a r = a ∨ minL a r ∈ r) ∧ minL a r ≤ a ∧ ∀ y ∈ r, minL a r ≤ y
  | [], a => ⟨.inl rfl, Int.le_refl _, fun _ h => nomatch h⟩
  | b :: r, a => by
    obtain ⟨h1, h2, h3⟩ := minL_spec r (if b < a then b else a)
    have ha : (if b < a then b else a) ≤ a := by split <;> omega
    have hb : (if b < a then b else a) ≤ b := by split <;> omega
    unfold minL
    refine ⟨?_, Int.le_trans h2 ha, fun y hy => ?_⟩
    · rcases h1 with h1 | h1
      · rw [h1]
        by_cases hc : b < a
        · rw [if_pos hc]; exact .inr List.mem_cons_self
        · rw [if_neg hc]; exact .inl rfl
      · exact .inr (List.mem_cons_of_mem _ h1)
    · rcases List.mem_cons.mp hy with rfl | hy
      · exact Int.le_trans h2 hb
      · exact h3 y hy
theorem call_max2E (hc : X.calm = true) : CallR X (.builtin "max") (rC2 x max2) := by
  intro pins s σ H ys us Q I r ⟨y, z, e, p, q, cup, F, g, h1, h2, w⟩
  subst e
  cases p <;> cases q <;> first | exact False.elim w | skip
  case int.int i j => exact call_max2 hc pins s σ H _ us Q I r ⟨i, j, by rw [h1.int, h2.int], end_int w g⟩
theorem call_min2E (hc : X.calm = true) : CallR X (.builtin "min") (rC2 x min2) := by
  intro pins s σ H ys us Q I r ⟨y, z, e, p, q, cup, F, g, h1, h2, w⟩
  subst e
  cases p <;> cases q <;> first | exact False.elim w | skip
  case int.int i j => exact call_min2 hc pins s σ H _ us Q I r ⟨i, j, by rw [h1.int, h2.int], end_int w g⟩
end
end EV

set_option maxRecDepth 100000
set_option maxHeartbeats 2000000
/-! EvMth: methods, isinstance. -/
namespace EV
open PySem PySem.Spec PyProof.Rows L2

theorem guard_ok {x : Fix} {b : Bool} {cup : Cup} {F H : Hp} {P : Unit → Cup → Hp → Hp → Prop} (w : WP x (guardM b) cup F H P) (g : Good x cup F H) : b = true ∧ P () cup F H := by
  cases b with
  | true => exact ⟨rfl, WP.pure w g⟩
  | false => exact (WP.fail w).elim
section
variable {X : Cx} {x : Fix}
/-- sep.join(texts) -/
theorem join_cps (sep : List Nat) : ∀ l : List (List Nat), (Str.join (toS sep) (l.map toS)) = toS (joinS sep l)
  | [] => rfl
  | [a] => rfl
  | a :: b :: r => by
    have ih := join_cps sep (b :: r)
    show Str.join (toS sep) (toS a :: toS b :: r.map toS) = _
    unfold joinS
    have e : Str.join (toS sep) (toS a :: toS b :: r.map toS) = toS a ++ toS sep ++ Str.join (toS sep) (toS b :: r.map toS) := rfl
    rw [e]
    have ih' : Str.join (toS sep) (toS b :: r.map toS) = toS (joinS sep (b :: r)) := ih
    rw [ih', toS_append, toS_append]
theorem joinS_len (sep : List Nat) : ∀ l : List (List Nat), (joinS sep l).length ≤ (l.map (·.length)).sum + l.length * sep.length
  | [] => Nat.zero_le _
  | [a] => by
    show a.length ≤ a.length + 0 + 1 * sep.length
    omega
  | a :: b :: r => by
    have ih := joinS_len sep (b :: r)
    unfold joinS
    rw [List.length_append, List.length_append, List.map_cons, List.sum_cons]
    have : (a :: b :: r).length * sep.length = (b :: r).length * sep.length + sep.length := by
      rw [List.length_cons, Nat.succ_mul]
    omega
theorem joinS_ok (sep : List Nat) (hs : ∀ c ∈ sep, c < 0x110000) : ∀ l : List (List Nat), (∀ b ∈ l, okL b) → ∀ c ∈ joinS sep l, c < 0x110000
  | [], _, c, hc => nomatch hc
  | [a], h, c, hc => (h a List.mem_cons_self).1 c hc
  | a :: b :: r, h, c, hc => by
    unfold joinS at hc
    rcases List.mem_append.mp hc with hc | hc
    · rcases List.mem_append.mp hc with hc | hc
      · exact (h a List.mem_cons_self).1 c hc
      · exact hs c hc
    · exact joinS_ok sep hs (b :: r) (fun d hd => h d (List.mem_cons_of_mem _ hd)) c hc
def rM1 (x : Fix) (f : PV → PV → M PV) : V → List V → Hp → VK → Prop := fun o ys H Q => ∃ y, ys = [y] ∧ r2 x f o y H Q
def rM2 (x : Fix) (f : PV → PV → PV → M PV) : V → List V → Hp → VK → Prop := fun o ys H Q => ∃ y z v1 v2 v3 cup F, ys = [y, z] ∧ Good x cup F H ∧ RepH x F H v1 o ∧ RepH x F H v2 y ∧ RepV x.K F x.C v3 z ∧ WP x (f v1 v2 v3) cup F H fun v _ F' H' => ∀ y, RepR x F' H' H v y → Q y H'
theorem mt_joinE : MtR X "str.join" (rM1 x joinV) := by
  intro pins s σ H o ys v us Q I rx rs ⟨y, e, p, q, cup, F, g, h1, h2, w⟩
  subst e
  cases p with
  | str sep => cases q with
    | lst l =>
      obtain ⟨ss, hss, w⟩ := WP.opt (WP.bind w) g
      obtain ⟨hz, w⟩ := WP.ite w
      obtain ⟨e1, o1⟩ := h1.str
      obtain ⟨a, vs, e2, m, z, r⟩ := h2.lst g.sub
      obtain ⟨ev, os⟩ := strs_rep hss r
      subst ev
      refine mt_join pins s σ H _ _ v us Q I rx rs ⟨toS sep, a, ss.map toS, e1, by rw [e2], .inl (.inl (.inl m)), ?_, ?_⟩
      · rw [List.map_map, List.length_map, toS_len]
        have : ((fun s : Str => s.length) ∘ toS) = fun s : List Nat => s.length := funext fun s => toS_len s
        rw [this]
        exact hz
      · rw [show Txt.join (toS sep) (ss.map toS) = Str.join (toS sep) (ss.map toS) from StrLaws.glued_eq_join _ _, join_cps]
        exact end_str w g ⟨joinS_ok sep o1.1 ss os, Nat.le_trans (joinS_len sep ss) hz⟩
    | _ => exact w.elim
  | _ => cases q <;> exact w.elim
theorem starts_eq (a b : List Nat) : Txt.startswith (toS a) (toS b) = (a.take b.length == b) := by
  unfold Txt.startswith
  have e : Builtin.Str.subAt (toS a) (toS b) 0 = (a.take b.length == b) := subAt_L b a 0
  rw [toS_len, toS_len, e]
  by_cases h : b.length ≤ a.length
  · have : decide (0 + b.length ≤ a.length) = true := decide_eq_true (by omega)
    rw [this, Bool.true_and]
  · have h1 : decide (0 + b.length ≤ a.length) = false := decide_eq_false (by omega)
    rw [h1, Bool.false_and]
    symm
    refine beq_eq_false_iff_ne.mpr fun q => h ?_
    have := congrArg List.length q
    rw [List.length_take] at this
    omega
theorem ends_eq (a b : List Nat) : Txt.endswith (toS a) (toS b) = (decide (b.length ≤ a.length) && (a.drop (a.length - b.length) == b)) := by
  unfold Txt.endswith
  rw [toS_len, toS_len, subAt_L]
  have e1 : decide (0 + b.length ≤ a.length) = decide (b.length ≤ a.length) := by rw [Nat.zero_add]
  rw [e1]
  by_cases h : b.length ≤ a.length
  · congr 1
    unfold subL
    have : (a.drop (a.length - b.length)).take b.length = a.drop (a.length - b.length) := List.take_of_length_le (by rw [List.length_drop]; omega)
    rw [this]
  · rw [decide_eq_false h, Bool.false_and, Bool.false_and]
theorem mt_startsE : MtR X "str.startswith" (rM1 x startsV) := by
  intro pins s σ H o ys v us Q I rx rs ⟨y, e, p, q, cup, F, g, h1, h2, w⟩
  subst e
  cases p <;> cases q <;> first | exact False.elim w | skip
  case str.str a b =>
    refine mt_startswith pins s σ H _ _ v us Q I rx rs ⟨toS a, toS b, h1.str.1, by rw [h2.str.1], ?_⟩
    rw [starts_eq]
    exact end_bl w g
theorem mt_endsE : MtR X "str.endswith" (rM1 x endsV) := by
  intro pins s σ H o ys v us Q I rx rs ⟨y, e, p, q, cup, F, g, h1, h2, w⟩
  subst e
  cases p <;> cases q <;> first | exact False.elim w | skip
  case str.str a b =>
    refine mt_endswith pins s σ H _ _ v us Q I rx rs ⟨toS a, toS b, h1.str.1, by rw [h2.str.1], ?_⟩
    rw [ends_eq]
    exact end_bl w g
theorem countIn_signs (c : Nat) : ∀ l : List Nat, PySem.Spec.countIn (.str ⟨#[c]⟩) (l.map fun n => PyData.str ⟨#[n]⟩) = ((l.count c : Nat) : Int)
  | [] => rfl
  | n :: r => by
    rw [List.map_cons, PySem.Spec.countIn, countIn_signs c r, List.count_cons]
    by_cases h : n = c
    · subst h; simp [PySem.Spec.same]; omega
    · have h' : (n == c) = false := by simpa using h
      have h2 : ((⟨#[n]⟩ : Str) == ⟨#[c]⟩) = false := beq_eq_false_iff_ne.mpr fun z => h (by
        have := congrArg (fun s : Str => s.cps.toList) z
        simpa using this)
      simp [PySem.Spec.same, h', h2]
theorem count_eq (a : List Nat) (c : Nat) : Txt.count (toS a) (toS [c]) = ((a.count c : Nat) : Int) := by
  have e : toS [c] = ⟨#[c]⟩ := rfl
  rw [e, PyProof.Rows.count_is, toS_cps, countIn_signs]
theorem mt_countE : MtR X "str.count" (rM1 x countV) := by
  intro pins s σ H o ys v us Q I rx rs ⟨y, e, p, q, cup, F, g, h1, h2, w⟩
  subst e
  cases p <;> cases q <;> first | exact False.elim w | skip
  case str.str a b =>
    match b, h2, w with
    | [], _, w => exact w.elim
    | _ :: _ :: _, _, w => exact w.elim
    | [c], h2, w =>
      refine mt_count pins s σ H _ _ v us Q I rx rs ⟨toS a, toS [c], h1.str.1, by rw [h2.str.1], ?_⟩
      rw [count_eq]
      exact end_int w g
/-- the first place of a text in another one -/
theorem occ_first (s sub : Str) (hi : Nat) : ∀ (l : List Nat) (free : Nat), (∀ i ∈ l, free ≤ i) →
    ∀ k, l.find? (fun i => decide (i + sub.length ≤ hi) && Builtin.Str.subAt s sub i) = some k → ∃ rest, (forIn l ((#[] : Array Nat), free) (StrLaws.occBody s sub hi 1)).run.fst.toList = k :: rest
  | [], free, _, k, h => nomatch h
  | a :: l, free, hf, k, h => by
    rw [List.forIn_cons]
    unfold StrLaws.occBody
    have ha : free ≤ a := hf a List.mem_cons_self
    by_cases hc : a + sub.length ≤ hi ∧ Builtin.Str.subAt s sub a = true
    · have c1 : (((#[] : Array Nat), free).fst.size < 1 ∧ ((#[] : Array Nat), free).snd ≤ a) ∧ a + sub.length ≤ hi := ⟨⟨by simp, ha⟩, hc.1⟩
      rw [if_pos ⟨c1, hc.2⟩]
      rw [List.find?_cons_of_pos (by rw [decide_eq_true hc.1, hc.2]; rfl)] at h
      cases h
      have stay : ∀ (l : List Nat) (acc : Array Nat) (fr : Nat), acc.size = 1 → (forIn l (acc, fr) (StrLaws.occBody s sub hi 1)).run.fst = acc := by
        intro l
        induction l with
        | nil => intro acc fr _; rfl
        | cons b l ih =>
          intro acc fr h1
          rw [List.forIn_cons]
          unfold StrLaws.occBody
          rw [if_neg (fun z => by have := z.1.1.1; simp only at this; omega)]
          exact ih acc fr h1
      refine ⟨[], ?_⟩
      have e := stay l ((#[] : Array Nat).push a) (a + sub.length) (by simp)
      show (forIn l (((#[] : Array Nat).push a), a + sub.length) (StrLaws.occBody s sub hi 1)).run.fst.toList = _
      rw [e]
      rfl
    · have c2 : ¬ (((((#[] : Array Nat), free).fst.size < 1 ∧ ((#[] : Array Nat), free).snd ≤ a) ∧ a + sub.length ≤ hi) ∧ Builtin.Str.subAt s sub a = true) := fun h => hc ⟨h.1.2, h.2⟩
      rw [if_neg c2]
      rw [List.find?_cons_of_neg (by
        intro z
        obtain ⟨z1, z2⟩ := Bool.and_eq_true_iff.mp z
        exact hc ⟨of_decide_eq_true z1, z2⟩)] at h
      exact occ_first s sub hi l free (fun i hi' => hf i (List.mem_cons_of_mem _ hi')) k h
theorem find_congr {p q : Nat → Bool} : ∀ (l : List Nat), (∀ i ∈ l, p i = q i) → l.find? p = l.find? q
  | [], _ => rfl
  | a :: l, h => by
    rw [List.find?_cons, List.find?_cons, h a List.mem_cons_self, find_congr l fun i hi => h i (List.mem_cons_of_mem _ hi)]
theorem find_occ {a b : List Nat} {k : Nat} (h : findS b a = some k) : ∃ rest, Builtin.Str.occurrences (toS a) (toS b) 0 (toS a).length 1 = k :: rest := by
  rw [StrLaws.occ_eq]
  refine occ_first (toS a) (toS b) (toS a).length _ 0 (fun i _ => Nat.zero_le _) k ?_
  unfold findS at h
  rw [Nat.sub_zero, toS_len, toS_len, ← List.range_eq_range', ← h]
  refine find_congr _ fun i hi => ?_
  have hi := List.mem_range.mp hi
  rw [subAt_L]
  cases e : subL b a i with
  | false => rw [Bool.and_false]
  | true =>
    have e : (a.drop i).take b.length = b := eq_of_beq e
    have := congrArg List.length e
    rw [List.length_take, List.length_drop] at this
    rw [decide_eq_true (show i + b.length ≤ a.length by omega)]
    rfl
theorem findV_spec (v : PV) : ∀ (l : List PV) (k j : Nat), findV v k l = some j → ∃ i p, j = k + i ∧ l[i]? = some p ∧ eqv p v = true ∧ ∀ m q, m < i → l[m]? = some q → eqv q v = false
  | [], k, j, h => nomatch h
  | p :: r, k, j, h => by
    unfold findV at h
    by_cases c : eqv p v = true
    · rw [if_pos c] at h
      cases h
      exact ⟨0, p, rfl, rfl, c, fun m q hm => by omega⟩
    · rw [if_neg c] at h
      obtain ⟨i, p', e, hp, h1, h2⟩ := findV_spec v r (k + 1) j h
      refine ⟨i + 1, p', by omega, by simpa using hp, h1, fun m q hm hq => ?_⟩
      cases m with
      | zero =>
        simp at hq
        subst hq
        simpa using c
      | succ m => exact h2 m q (by omega) (by simpa using hq)
theorem toDs_get : ∀ (l : List PV) (i : Nat), (toDs l)[i]? = (l[i]?).map toD
  | [], i => by simp [toDs]
  | p :: r, 0 => by simp [toDs]
  | p :: r, i + 1 => by simp [toDs, toDs_get r i]
theorem plains_get : ∀ {l : List PV} {i : Nat} {p : PV}, plains l = true → l[i]? = some p → plain p = true
  | [], i, p, _, h => by simp at h
  | q :: r, 0, p, hl, h => by
    simp at h
    subst h
    exact (Bool.and_eq_true_iff.mp (by simpa [plains] using hl)).1
  | q :: r, i + 1, p, hl, h => plains_get (l := r) (i := i) (Bool.and_eq_true_iff.mp (by simpa [plains] using hl)).2 (by simpa using h)
theorem mt_indexS : MtR X "str.index" (fun o ys H Q => (∃ s : List Nat, o = .str (toS s)) ∧ rM1 x indexV o ys H Q) := by
  intro pins s σ H o ys v us Q I rx rs ⟨⟨s0, e0⟩, y, e, p, q, cup, F, g, h1, h2, w⟩
  subst e e0
  cases p with
  | str a => cases q with
    | str b =>
      obtain ⟨k, hk, w⟩ := WP.opt (WP.bind w) g
      obtain ⟨rest, ho⟩ := find_occ hk
      exact mt_sindex pins s σ H _ _ v us Q I rx rs ⟨toS a, toS b, k, rest, h1.str.1, by rw [h2.str.1], ho, end_int w g⟩
    | _ => exact False.elim w
  | lst l =>
    obtain ⟨a, vs, e, _⟩ := h1.lst g.sub
    cases e
  | _ => cases q <;> exact False.elim w
theorem mt_indexL (hK : X.K = x.K) (hu : X.A.units + 65 < cLine) : MtR X "list.index" (fun o ys H Q => (∃ a, o = .ref a) ∧ rM1 x indexV o ys H Q) := by
  intro pins s σ H o ys v us Q I rx rs ⟨⟨a0, e0⟩, y, e, p, q, cup, F, g, h1, h2, w⟩
  subst e e0
  cases p with
  | str a => cases h1.str.1
  | lst l =>
    have w : WP x (if (okD q && okD (.lst l)) = true then (do let k ← optM (findV q 0 l); pure (.int k)) else fail) cup F H fun v _ F' H' => ∀ y, RepR x F' H' H v y → Q y H' := w
    obtain ⟨hz, w⟩ := WP.ite w
    obtain ⟨z1, z2⟩ := Bool.and_eq_true_iff.mp hz
    obtain ⟨k, hk, w⟩ := WP.opt (WP.bind w) g
    obtain ⟨i, p, e, hp, t1, t2⟩ := findV_spec q l 0 k hk
    have hpl : plains l = true := by simpa [plain] using (okD_iff z2).1
    obtain ⟨d1, s1⟩ := shaped_of h1 g.sub z2
    obtain ⟨d2, s2⟩ := shaped_of h2 g.sub z1
    rw [← hK] at d1 d2
    simp only [toD] at d1 s1
    have ek : k = i := by omega
    subst ek
    have hq := (okD_iff z1).1
    refine mt_indexD hu pins s σ H _ _ v us Q I rx rs ⟨a0, y, toD q, toDs l, k, toD p, rfl, rfl, d1, d2, s1, s2, by rw [toDs_get, hp]; rfl, by rw [eqv_toD _ _ (plains_get hpl hp) hq]; exact t1, fun m z' hm hz' => ?_, end_int w g⟩
    rw [toDs_get] at hz'
    obtain ⟨q', hq', rfl⟩ := Option.map_eq_some_iff.mp hz'
    rw [eqv_toD _ _ (plains_get hpl hq') hq]
    exact t2 m q' hm hq'
  | _ => cases q <;> exact False.elim w
/-- d.get(k), d.get(k, e) -/
theorem mt_get1 (hu : X.A.units + 1 < cLine) : MtR X "dict.get" (rM1 x getDV) := by
  intro pins s σ H o ys v us Q I rx rs ⟨y, e, p, q, cup, F, g, h1, h2, w⟩
  subst e
  cases p with
  | dict l =>
    obtain ⟨hz, w⟩ := WP.ite w
    obtain ⟨a, o', e, d, lk⟩ := dget_of h2 h1 g.sub hz
    subst e
    cases rx
    obtain ⟨u, rfl, ru⟩ := vals1 rs
    refine d_get1 hu I d ru fun w' s' I' r' => ⟨o'.getD .non, H, I', r', w.pure g _ (.inl ?_)⟩
    rcases lk with ⟨l1, l2⟩ | ⟨p, v', l1, l2, rp⟩
    · rw [l1, l2]; exact .non
    · rw [l1, l2]; exact rp
  | _ => exact w.elim
theorem mt_get2 (hu : X.A.units + 1 < cLine) : MtR X "dict.get" (rM2 x getDV2) := by
  intro pins s σ H o ys v us Q I rx rs ⟨y, z, p, q, r, cup, F, e, g, h1, h2, h3, w⟩
  subst e
  cases p with
  | dict l =>
    obtain ⟨hz, w⟩ := WP.ite w
    obtain ⟨a, o', e, d, lk⟩ := dget_of h2 h1 g.sub hz
    subst e
    cases rx
    obtain ⟨u, u2, rfl, ru, ru2⟩ := vals2 rs
    refine d_get2 hu I d ru ru2 fun w' s' I' r' => ⟨o'.getD z, H, I', r', w.pure g _ (.inl ?_)⟩
    rcases lk with ⟨l1, l2⟩ | ⟨p, v', l1, l2, rp⟩
    · rw [l1, l2]; exact h3
    · rw [l1, l2]; exact rp
  | _ => exact w.elim

/-! ### isinstance -/
def tyS : Ty → String
  | .int => "int" | .str => "str" | .bool => "bool" | .tuple => "tuple" | .list => "list"
def kindS : PV → Option String
  | .non => some "NoneType" | .bl _ => some "bool" | .int _ => some "int" | .str _ => some "str" | .tup _ => some "tuple" | .lst _ => some "list" | .dict _ => some "dict"
  | _ => none
theorem isTy_kit {K : PySem.W.Frag} {p : PV} {t : Ty} {b : Bool} {k : String} (h : isTy p t = some b) (hk : kindS p = some k) : PySem.W.kitOne K (.type k) (.type (tyS t)) = some b := by
  cases p <;> cases t <;> cases hk <;> cases h <;> exact kit_ty (by decide +kernel)
theorem tyX_of {p : PV} {y : V} {k : String} {F H : Hp} (hk : kindS p = some k) (h : RepH x F H p y) (sb : Sub F H) (hK : X.K = x.K) : TyX X.K H y (.type k) := by
  cases p with
  | non => cases hk; rw [h.non]; exact .base .non
  | bl b => cases hk; rw [h.bl]; exact .base (.bl b)
  | int b => cases hk; rw [h.int]; exact .base (.int b)
  | str b => cases hk; rw [h.str.1]; exact .base (.str _)
  | tup l =>
    cases hk
    obtain ⟨a, vs, e, m, z, r⟩ := h.tup
    rw [e]
    rcases m with m | ⟨o, its, n, m, c, _⟩
    · exact .base (.tup (sb _ _ m))
    · exact .kTuple (by rw [hK]; exact m) c
  | lst l =>
    cases hk
    obtain ⟨a, vs, e, m, z, r⟩ := h.lst sb
    rw [e]
    exact .base (.lst m)
  | dict l =>
    cases hk
    obtain ⟨a, ks, e, m, z, r⟩ := h.dict sb
    rw [e]
    rcases m with m | ⟨o, m⟩
    · exact .base (.dK m)
    · exact .fDict m
  | _ => cases hk
theorem isTy_kind {p : PV} {t : Ty} {b : Bool} (h : isTy p t = some b) : ∃ k, kindS p = some k := by
  cases p <;> first | exact ⟨_, rfl⟩ | (cases t <;> cases h)
def rIsiE (x : Fix) (t : Ty) : List V → Hp → VK → Prop := fun ys H Q => ∃ y p b cup F, ys = [y, .ty (tyS t)] ∧ Good x cup F H ∧ RepH x F H p y ∧ isTy p t = some b ∧ Q (.bl b) H
theorem call_isiE (hK : X.K = x.K) (t : Ty) : CallR X (.builtin "isinstance") (rIsiE x t) := by
  intro pins s σ H ys us Q I r ⟨y, p, b, cup, F, e, g, h, hb, q⟩
  obtain ⟨k, hk⟩ := isTy_kind hb
  exact call_isi pins s σ H ys us Q I r ⟨y, .ty (tyS t), .type k, .type (tyS t), b, e, .ty _, tyX_of hk h g.sub hK, isTy_kit hb hk, q⟩
end
end EV

set_option maxRecDepth 100000
set_option maxHeartbeats 2000000
/-! EvE1: expressions without calls and comprehensions. -/
namespace L2
theorem PE.weak {X : Cx} {e : PySem.Expr} {t t' : TE} (h : PE X e t) (w : ∀ σ H Q, t' σ H Q → t σ H Q) : PE X e t' := EV.PE.weak h w
theorem PT.weak {X : Cx} {e : PySem.Expr} {t t' : TT} (h : PT X e t) (w : ∀ σ H Q, t' σ H Q → t σ H Q) : PT X e t' := EV.PT.weak h w
theorem PA.weak {X : Cx} {e : List PySem.Expr} {t t' : TA} (h : PA X e t) (w : ∀ σ H Q, t' σ H Q → t σ H Q) : PA X e t' := EV.PA.weak h w
theorem PS.weak {X : Cx} {e : PySem.Stmt} {t t' : TS} (h : PS X e t) (w : ∀ D σ H, t' D σ H → t D σ H) : PS X e t' := EV.PS.weak h w
theorem PSs.weak {X : Cx} {e : List PySem.Stmt} {t t' : TS} (h : PSs X e t) (w : ∀ D σ H, t' D σ H → t D σ H) : PSs X e t' := EV.PSs.weak h w
end L2
namespace EV
open PySem PySem.Spec PyProof.Rows L2

/-! ### more of WP -/
section
variable {x : Fix} {α β : Type} {cup : Cup} {F H : Hp}
theorem WP.monoV {m : M α} {P P' : α → Cup → Hp → Hp → Prop} (h : WP x m cup F H P) (hp : ∀ v c' F' H', m cup = .ok v c' → Step x.C F H F' H' → Good x c' F' H' → P v c' F' H' → P' v c' F' H') : WP x m cup F H P' := by
  unfold WP at h ⊢
  cases e : m cup with
  | ok v c' => rw [e] at h; exact fun F' H' s g => hp v c' F' H' e s g (h F' H' s g)
  | ex z c' => rw [e] at h; exact h
  | stuck => rw [e] at h; exact h
theorem RepR.bl {F' H' : Hp} {b : Bool} {y : V} (h : RepR x F' H' H (.bl b) y) : y = .bl b := h.toH.bl
theorem WP.back {m : M α} {P : α → Cup → Hp → Hp → Prop} {F0 H0 : Hp} (s : Step x.C F0 H0 F H) (h : WP x m cup F H P) : WP x m cup F H fun v c F' H' => Step x.C F0 H0 F' H' ∧ P v c F' H' :=
  h.mono fun _ _ _ _ s' _ p => ⟨s.trans s', p⟩
end
section
variable {X : Cx} {x : Fix} {pos : Pos}

/-! ### names and constants -/
theorem pe_varE {i : Nat} {y : Str} (hN : X.N[i]? = some y) (hv : Vis X.env.scope y) (hd : (y == ("__debug__" : Str)) = false) (hcd : (y == ("__classdict__" : Str)) = false) : PE X (.Name y pos) (tR x fun env => getV env i) := by
  refine (pe_var hN hv hd hcd).weak fun σ H Q h => ?_
  obtain ⟨cup, F, env, g, sl, w⟩ := h
  have ok := sl.ok i
  dsimp only [getV] at w
  cases e : env[i]? with
  | none => rw [e] at w; exact w.elim
  | some s =>
    rw [e] at w ok
    cases s with
    | val v =>
      obtain ⟨z, h1, h2⟩ := ok
      exact ⟨z, h1, w.pure g z (.inl h2)⟩
    | _ => exact w.elim
theorem pe_peekE {i : Nat} {y : Str} (hN : X.N[i]? = some y) (hv : Vis X.env.scope y) (hd : (y == ("__debug__" : Str)) = false) (hcd : (y == ("__classdict__" : Str)) = false) : PE X (.Name y pos) (tP x fun env => getP env i) := by
  refine (pe_var hN hv hd hcd).weak fun σ H Q h => ?_
  obtain ⟨cup, F, env, g, sl, w⟩ := h
  have ok := sl.ok i
  dsimp only [getP] at w
  cases e : env[i]? with
  | none => rw [e] at w; exact w.elim
  | some s =>
    rw [e] at w ok
    cases s with
    | val v =>
      obtain ⟨z, h1, h2⟩ := ok
      exact ⟨z, h1, w.pure g z (.inl h2)⟩
    | own v =>
      obtain ⟨z, h1, h2, _⟩ := ok
      exact ⟨_, h1, w.pure g _ (.inr ⟨z, rfl, h2⟩)⟩
    | no => exact w.elim
theorem pe_conE {e : Expr} {v : PV} {y : V} (h : PE X e (tC y)) (r : ∀ F, RepV x.K F x.C v y) : PE X e (tR x fun _ => pure v) := by
  refine h.weak fun σ H Q h => ?_
  obtain ⟨cup, F, env, g, sl, w⟩ := h
  exact w.pure g y (.inl (r F))
theorem pe_cstE {c : Const} {v : PV} {j : Nat} (h : trC c = some v) : PE X (.Constant c j pos) (tR x fun _ => pure v) := by
  cases c with
  | none => cases h; exact pe_conE pe_non fun F => .non
  | bool b => cases h; exact pe_conE pe_bl fun F => .bl b
  | int i => cases h; exact pe_conE pe_int fun F => .int i
  | str s =>
    have h : (if okS s = true then some (PV.str s.cps.toList) else none) = some v := h
    by_cases hs : okS s = true
    · rw [if_pos hs] at h
      cases h
      refine pe_conE pe_str fun F => ?_
      have := RepV.str (K := x.K) (F := F) (C := x.C) s.cps.toList ((okS_iff _).mp (by rw [toS_of]; exact hs))
      rw [toS_of] at this
      exact this
    · rw [if_neg hs] at h; cases h
  | _ => cases h

/-! ### operators -/
variable {a b c : Expr} {ma mb mc : ME} {f : PV → PV → M PV}
theorem tOpE {σ : L2.St} {H : Hp} {Q : VK} (h : tR x (fun env => do let v ← ma env; let w ← mb env; f v w) σ H Q) : tOp (r2 x f) (tP x ma) (tP x mb) σ H Q := by
  obtain ⟨cup, F, env, g, sl, w⟩ := h
  refine ⟨cup, F, env, g, sl, (WP.bind w).mono fun v c F1 H1 s1 g1 w1 y1 r1 => ⟨c, F1, env, g1, sl.step s1, (WP.bind w1).mono fun v2 c2 F2 H2 s2 g2 w2 y2 r2 => ?_⟩⟩
  exact ⟨v, v2, c2, F2, g2, r1.step s2, r2, w2.mono fun v3 c3 F3 H3 s3 g3 q y r => q y (r.old (s1.trans s2).dom)⟩
theorem pe_binE {op : Operator} (ho : OpR X (binaryOp op) (r2 x f)) (ha : PE X a (tP x ma)) (hb : PE X b (tP x mb)) : PE X (.BinOp a op b pos) (tR x fun env => do let v ← ma env; let w ← mb env; f v w) :=
  (pe_op ho ha hb).weak fun _ _ _ => tOpE
theorem pe_unE {op : UnaryOp} {f : PV → M PV} (ho : UnR X (unaryOp op) (r1 x f)) (ha : PE X a (tP x ma)) : PE X (.UnaryOp op a pos) (tR x fun env => do let v ← ma env; f v) := by
  refine (pe_un ho ha).weak fun σ H Q h => ?_
  obtain ⟨cup, F, env, g, sl, w⟩ := h
  refine ⟨cup, F, env, g, sl, (WP.bind w).mono fun v c F1 H1 s1 g1 w1 y1 r1 => ?_⟩
  exact ⟨v, c, F1, g1, r1, w1.mono fun v3 c3 F3 H3 s3 g3 q y r => q y (r.old s1.dom)⟩
theorem pe_idxE (ho : IxR X (r2 x f)) (ha : PE X a (tP x ma)) (hb : PE X b (tP x mb)) (hs : PlainIx b) : PE X (.Subscript a b pos) (tR x fun env => do let v ← ma env; let w ← mb env; f v w) :=
  (pe_ix ho ha hb hs).weak fun _ _ _ => tOpE
/-- a comparison's end is a truth -/
theorem WP.isB {m : M Bool} {cup : Cup} {F H : Hp} {P : Bool → Cup → Hp → Hp → Prop} (h : WP x (m >>= fun r => Pure.pure (PV.bl r)) cup F H fun v c F' H' => WP x (truM v) c F' H' P) :
    WP x (m >>= fun r => Pure.pure (PV.bl r)) cup F H fun v c F' H' => ∃ b, v = .bl b ∧ P b c F' H' := by
  refine h.monoV fun v c F' H' e s g p => ?_
  cases e1 : m cup with
  | ok r c1 =>
    rw [bind_ok e1] at e
    cases e
    exact ⟨r, rfl, WP.pure p g⟩
  | ex z c1 => rw [bind_ex e1] at e; cases e
  | stuck => rw [bind_stuck e1] at e; cases e
theorem cmpE_r {o : COp} {v1 v2 : PV} {cup : Cup} {F H H0 : Hp} {Q : Bool → Hp → Prop} (h : WP x (cmpV o v1 v2) cup F H fun v c F' H' => WP x (truM v) c F' H' fun b _ _ H' => Q b H') :
    WP x (cmpV o v1 v2) cup F H fun v c F' H' => ∀ y, RepR x F' H' H0 v y → ∃ k, y = .bl k ∧ Q k H' := by
  unfold cmpV at h ⊢
  refine (WP.isB h).mono fun v c F' H' s g q y r => ?_
  obtain ⟨b, e, q⟩ := q
  subst e
  exact ⟨b, r.bl, q⟩
theorem pe_cmpE {op : CmpOp} {o : COp} (ho : OpR X (compareOp op) (r2 x (cmpV o))) (ha : PE X a (tP x ma)) (hb : PE X b (tP x mb)) (hm : behindInMarks op b = false) :
    PE X (.Compare a [op] [b] pos) (tR x fun env => do let v ← ma env; let w ← mb env; let r ← cmpM o v w; pure (.bl r)) :=
  (pe_cmpR ho ha hb hm).weak fun _ _ _ h => tOpE h
theorem pt_cmpE {op : CmpOp} {o : COp} (ho : OpR X (compareOp op) (r2 x (cmpV o))) (ha : PE X a (tP x ma)) (hb : PE X b (tP x mb)) (hm : behindInMarks op b = false) :
    PT X (.Compare a [op] [b] pos) (tT x fun env => do let v ← ma env; let w ← mb env; let r ← cmpM o v w; pure (.bl r)) := by
  refine (pt_cmpR ho ha hb hm).weak fun σ H Q h => ?_
  obtain ⟨cup, F, env, g, sl, w⟩ := h
  have w := WP.bind w
  refine ⟨cup, F, env, g, sl, (WP.bind w).mono fun v c F1 H1 s1 g1 w1 y1 r1 => ⟨c, F1, env, g1, sl.step s1, (WP.bind w1).mono fun v2 c2 F2 H2 s2 g2 w2 y2 r2 => ?_⟩⟩
  exact ⟨v, v2, c2, F2, g2, r1.step s2, r2, cmpE_r w2⟩
def mcmp2 (o o' : COp) (ma mb mc : ME) : ME := fun env => do
  let x ← ma env
  let y ← mb env
  let r ← cmpM o x y
  if r then do let z ← mc env; let r' ← cmpM o' y z; pure (.bl r') else pure (.bl false)
theorem cmpV_of {o : COp} {v1 v2 : PV} {cup : Cup} {F H : Hp} {P : Bool → Cup → Hp → Hp → Prop} (h : WP x (cmpM o v1 v2) cup F H P) : WP x (cmpV o v1 v2) cup F H fun v c F' H' => ∃ b, v = .bl b ∧ P b c F' H' := by
  unfold cmpV
  unfold WP at h ⊢
  cases e : cmpM o v1 v2 cup with
  | ok r c =>
    rw [e] at h
    rw [bind_ok e]
    exact fun F' H' s g => ⟨r, rfl, h F' H' s g⟩
  | ex z c => rw [e] at h; rw [bind_ex e]; exact h
  | stuck => rw [e] at h; exact h.elim
theorem pe_cmp2E {op op' : CmpOp} {o o' : COp} (ho : OpR X (compareOp op) (r2 x (cmpV o))) (ho' : OpR X (compareOp op') (r2 x (cmpV o'))) (ha : PE X a (tP x ma)) (hb : PE X b (tP x mb)) (hc : PE X c (tP x mc)) (hm : lastMarks [op, op'] [b, c] = false) :
    PE X (.Compare a [op, op'] [b, c] pos) (tR x (mcmp2 o o' ma mb mc)) := by
  refine (pe_chain ho ho' ha hb hc hm).weak fun σ H Q h => ?_
  obtain ⟨cup, F, env, g, sl, w⟩ := h
  refine ⟨cup, F, env, g, sl, (WP.bind w).mono fun v c F1 H1 s1 g1 w1 y1 r1 => ⟨c, F1, env, g1, sl.step s1, (WP.bind w1).mono fun v2 c2 F2 H2 s2 g2 w2 y2 r2 => ?_⟩⟩
  refine ⟨v, v2, c2, F2, g2, r1.step s2, r2, (cmpV_of (WP.bind w2)).mono fun v3 c3 F3 H3 s3 g3 ⟨k, e, w3⟩ y3 r3 => ?_⟩
  subst e
  refine ⟨k, r3.bl, ?_⟩
  cases k with
  | false => exact w3.pure g3 _ (.inl (.bl false))
  | true =>
    refine ⟨c3, F3, env, g3, (sl.step s1).step (s2.trans s3), (WP.bind w3).mono fun v4 c4 F4 H4 s4 g4 w4 y4 r4 => ?_⟩
    exact ⟨v2, v4, c4, F4, g4, r2.step (s3.trans s4), r4, w4.mono fun v5 c5 F5 H5 s5 g5 q y r => q y (r.old ((s1.trans s2).trans (s3.trans s4)).dom)⟩
theorem pt_cmp2E {op op' : CmpOp} {o o' : COp} (ho : OpR X (compareOp op) (r2 x (cmpV o))) (ho' : OpR X (compareOp op') (r2 x (cmpV o'))) (ha : PE X a (tP x ma)) (hb : PE X b (tP x mb)) (hc : PE X c (tP x mc)) (hm : lastMarks [op, op'] [b, c] = false) :
    PT X (.Compare a [op, op'] [b, c] pos) (tT x (mcmp2 o o' ma mb mc)) := by
  refine (pt_chain ho ho' ha hb hc hm).weak fun σ H Q h => ?_
  obtain ⟨cup, F, env, g, sl, w⟩ := h
  have w := WP.bind w
  refine ⟨cup, F, env, g, sl, (WP.bind w).mono fun v c F1 H1 s1 g1 w1 y1 r1 => ⟨c, F1, env, g1, sl.step s1, (WP.bind w1).mono fun v2 c2 F2 H2 s2 g2 w2 y2 r2 => ?_⟩⟩
  refine ⟨v, v2, c2, F2, g2, r1.step s2, r2, (cmpV_of (WP.bind w2)).mono fun v3 c3 F3 H3 s3 g3 ⟨k, e, w3⟩ y3 r3 => ?_⟩
  subst e
  refine ⟨k, r3.bl, ?_⟩
  cases k with
  | false => exact ⟨false, rfl, WP.pure (w3.pure g3) g3⟩
  | true =>
    refine ⟨c3, F3, env, g3, (sl.step s1).step (s2.trans s3), (WP.bind w3).mono fun v4 c4 F4 H4 s4 g4 w4 y4 r4 => ?_⟩
    exact ⟨v2, v4, c4, F4, g4, r2.step (s3.trans s4), r4, cmpE_r w4⟩

/-! ### truth, and, or, not, if -/
theorem pt_ofE (hK : X.K = x.K) (ha : PE X a (tP x ma)) (he : ∀ whole, isTrue a X.env whole = (do let v ← whole; standAt a.pos; holding [v] (truthy v))) : PT X a (tT x ma) := by
  refine ⟨fun pins s σ H Q I h => ?_⟩
  obtain ⟨cup, F, env, g, sl, w⟩ := h
  refine isTrue_plain (thn (ha.run pins s σ H (fun y H1 => ∃ v c F1, Good x c F1 H1 ∧ RepH x F1 H1 v y ∧ WP x (truM v) c F1 H1 fun b _ _ H' => Q b H') I ⟨cup, F, env, g, sl, (WP.bind w).mono fun v c F1 H1 s1 g1 w1 y r => ⟨v, c, F1, g1, r, w1⟩⟩) fun v s1 ⟨y, H1, I1, r1, pv, c1, F1, g1, rh, w1⟩ => ?_) (he _)
  exact tru_E hK I1 r1 g1 rh w1
theorem pe_notE (hK : X.K = x.K) (ha : PE X a (tP x ma)) : PE X (.UnaryOp .Not a pos) (tR x fun env => do let v ← ma env; let t ← truM v; pure (.bl (!t))) := by
  refine ⟨fun pins s σ H Q I h => ?_⟩
  obtain ⟨cup, F, env, g, sl, w⟩ := h
  refine UnaryOp_ (thn (ha.run pins s σ H (fun y H1 => ∃ v c F1, Good x c F1 H1 ∧ RepH x F1 H1 v y ∧ WP x (truM v) c F1 H1 fun b _ _ H' => Q (.bl (!b)) H') I ⟨cup, F, env, g, sl, (WP.bind w).mono fun v c F1 H1 s1 g1 w1 y r => ⟨v, c, F1, g1, r, (WP.bind w1).mono fun t c2 F2 H2 s2 g2 w2 => w2.pure g2 _ (.inl (.bl _))⟩⟩) fun v s1 ⟨y, H1, I1, r1, pv, c1, F1, g1, rh, w1⟩ => ?_)
  refine not_of (thn (tru_E hK I1 r1 g1 rh w1) fun t s2 ⟨H2, I2, q2⟩ => ⟨.bl (!t), H2, I2, rfl, q2⟩)
theorem pt_notE (ha : PT X a (tT x ma)) : PT X (.UnaryOp .Not a pos) (tT x fun env => do let v ← ma env; let t ← truM v; pure (.bl (!t))) := by
  refine (pt_not ha).weak fun σ H Q h => ?_
  obtain ⟨cup, F, env, g, sl, w⟩ := h
  refine ⟨cup, F, env, g, sl, ?_⟩
  have w : WP x ((ma env >>= fun v => truM v >>= fun t => pure (PV.bl (!t))) >>= truM) cup F H fun b _ _ H' => Q b H' := w
  unfold WP at w ⊢
  cases e : ma env cup with
  | stuck =>
    rw [bind_stuck (bind_stuck e)] at w
    exact w.elim
  | ex z c =>
    rw [bind_ex (bind_ex e)] at w
    rw [bind_ex e]
    exact w
  | ok v c =>
    rw [bind_ok e]
    cases e2 : truM v c with
    | stuck =>
      rw [bind_stuck ((bind_ok e).trans (bind_stuck e2))] at w
      exact w.elim
    | ex z c2 =>
      rw [bind_ex ((bind_ok e).trans (bind_ex e2))] at w
      exact w
    | ok t c2 =>
      have e3 : (pure (PV.bl (!t)) : M PV) c2 = .ok (.bl (!t)) c2 := rfl
      rw [bind_ok ((bind_ok e).trans ((bind_ok e2).trans e3))] at w
      exact w
end
end EV

set_option maxRecDepth 100000
set_option maxHeartbeats 2000000
/-! EvRv: v[::-1] of lists, tuples and texts; min and max of a tuple. -/
namespace EV
open PySem PySem.Spec PyProof.Rows L2
section
variable {X : Cx} {x : Fix} {a : Expr} {ma : ME}
/-- a text from behind -/
theorem str_back (z : Str) : (⟨((Builtin.Str.strSliceIndices none none (-1) z.length).filterMap (z.cps[·]?)).toArray⟩ : Str) = toS z.cps.toList.reverse := by
  show (⟨((sliceRange ((z.length : Int) - 1) (-1) (-1)).filterMap (z.cps[·]?)).toArray⟩ : Str) = _
  rw [PySem.W.krv_sliceRange, PySem.W.krv_range, List.filterMap_reverse]
  unfold toS
  rw [show z.length = z.cps.size from rfl, PySem.W.krv_all]
theorem pe_revE {k : Nat} {p1 p2 p3 : Pos} (hK : X.K = x.K) (ha : PE X a (tP x ma)) :
    PE X (.Subscript a (.Slice none none (some (.UnaryOp .USub (.Constant (.int 1) k p1) p2)) p3) pos) (tR x fun env => do let v ← ma env; revV v) := by
  refine ⟨fun pins s0 σ H Q J h => ?_⟩
  obtain ⟨cup, Fz, env, g, sl, w⟩ := h
  refine Subscript_ (thn (ha.run pins s0 σ H (fun y H1 => ∃ v c F1, Good x c F1 H1 ∧ RepH x F1 H1 v y ∧ WP x (revV v) c F1 H1 fun v _ F' H' => ∀ y, RepR x F' H' H1 v y → Q y H') J ⟨cup, Fz, env, g, sl, (WP.bind w).mono fun v c F1 H1 st g1 w1 y r => ⟨v, c, F1, g1, r, w1.mono fun _ _ _ _ _ _ q y r => q y (r.old st.dom)⟩⟩) fun u t1 ⟨y, H1, J1, ry, v, c1, F1, g1, rh, w1⟩ => ?_)
  have step : PO X (some (.UnaryOp .USub (.Constant (.int 1) k p1) p2)) (tPart (tUn (rU fun i => .int (-i)) (tC (.int 1)))) := po_some (pe_un un_neg pe_int)
  refine wpAny_Slice (thn (po_none.run pins t1 σ H1 (fun o G => o = none ∧ G = H1) J1 ⟨rfl, rfl⟩) fun lo t2 ⟨_, _, J2, plo, e1, e2⟩ => ?_)
  rw [e1] at plo
  rw [e2] at J2
  refine thn (po_none.run pins t2 σ H1 (fun o G => o = none ∧ G = H1) J2 ⟨rfl, rfl⟩) fun hi t3 ⟨_, _, J3, phi, e3, e4⟩ => ?_
  rw [e3] at phi
  rw [e4] at J3
  refine thn (step.run pins t3 σ H1 (fun o G => o = some (-1) ∧ G = H1) J3 ⟨1, rfl, -1, rfl, rfl, rfl⟩) fun sp t4 ⟨_, _, J4, psp, e5, e6⟩ => ?_
  rw [e5] at psp
  rw [e6] at J4
  have J5 : Inv X pins σ H1 { t4 with heap := t4.heap.push { cls := .type "slice", data := .fields #[lo, hi, sp] } } := J4.kept (t' := t4.toks) fun b ob q => Heap.get?_push_of_some _ q
  cases v with
  | lst l =>
    obtain ⟨p, xs, rfl, m, z, r⟩ := rh.lst g1.sub
    cases ry
    obtain ⟨its, rv, there, hz⟩ := J5.list (.inl (.inl m))
    refine tail_any (ops := [.ref p, .ref t4.heap.objs.size]) there.isList.typeIs (PySem.slot_list_getitem.lookup) ?_ (by with_unfolding_all rfl)
    refine wpAny_getItem_list_slice there.isList (Heap.IsSliceOf.new _ lo hi sp) plo phi psp (by decide) ?_ (by rw [List.size_toArray, ← rv.length]; exact hz)
    rw [PySem.W.krv_pick]
    have hz2 : xs.reverse.length ≤ sizeLine := by rw [List.length_reverse]; exact hz
    refine ⟨.ref _, _, J5.laid (t' := t4.toks) (o := .lst xs.reverse) (fun b ob q => Heap.get?_push_of_some _ q) (Nat.le_refl _) ⟨hz2, _, 0, rv.reverse, Heap.get?_push_size _ rfl⟩, rfl, ?_⟩
    exact end_lst w1 g1 (by rw [List.length_reverse]; exact z) r.reverse _ (J5.hok.fresh (Nat.le_refl _))
  | str l =>
    obtain ⟨rfl, o1⟩ := rh.str
    obtain ⟨t, rfl⟩ := ry
    obtain ⟨b1, rfl, h2⟩ := IsPart.raw plo
    obtain ⟨b2, rfl, h4⟩ := IsPart.raw phi
    obtain ⟨b3, rfl, h6⟩ := IsPart.raw psp
    have n1 : b1 = none := Option.map_eq_none_iff.mp h2
    have n2 : b2 = none := Option.map_eq_none_iff.mp h4
    subst n1 n2
    refine tail_any (ops := [.ref t4.heap.objs.size]) (typeIs_str _ _ _) F.slot_str_getitem.lookup ?_ (by with_unfolding_all rfl)
    refine wpAny_getItem_str_slice (l := none) (u := none) (st := b3) ⟨_, Heap.get?_push_size _ rfl, rfl, rfl⟩ (by rw [h6]; decide) ?_
    unfold sliceMade slicePicked
    rw [h6]
    show Made.post (if ((-1 : Int) == 1 && _) = true then _ else _) _ _
    rw [if_neg (by simp)]
    have oR : okL l.reverse := ⟨fun c hc => o1.1 c (List.mem_reverse.mp hc), by rw [List.length_reverse]; exact o1.2⟩
    have e7 : (⟨((Builtin.Str.strSliceIndices (Option.map (fun x => x.1) (none : Option (Int × Tok))) (Option.map (fun x => x.1) (none : Option (Int × Tok))) ((some (-1 : Int)).getD 1) (toS l).length).filterMap ((toS l).cps[·]?)).toArray⟩ : Str) = toS l.reverse := str_back (toS l)
    show Made.post (Made.str _) _ _
    rw [e7]
    exact ⟨by rw [toS_len, line_eq]; exact oR.2, .str _, H1, J5.tok _, ⟨_, rfl⟩, end_str w1 g1 oR⟩
  | _ => exact w1.elim
/-! ### min, max -/
theorem holds_ints {h : Heap} : ∀ {ns : List Int} {its : List Value}, Vals (ns.map V.int) its → PySem.W.HoldAll h its ns
  | [], _, .nil => ⟨_, .nil⟩
  | n :: ns, _, .cons hv t => by
    obtain ⟨u, rfl⟩ := hv
    exact PySem.W.HoldAll.cons ⟨_, .int n u⟩ (holds_ints t)
theorem held_int {h : Heap} {v : Value} {n : Int} (q : PySem.W.Holds h v n) : ∃ t, v = .int n t := by
  obtain ⟨as, r⟩ := q
  cases r
  exact ⟨_, rfl⟩
theorem min_of (b : Int) : ∀ bs : List Int, PySem.W.minOf b bs = minL b bs := by
  intro bs
  induction bs generalizing b with
  | nil => rfl
  | cons a r ih =>
    show r.foldl _ (if PySem.W.DatumOrd.lt a b = true then a else b) = minL (if a < b then a else b) r
    rw [← ih]
    have : (if PySem.W.DatumOrd.lt a b = true then a else b) = if a < b then a else b := by
      show (if decide (a < b) = true then a else b) = _
      by_cases q : a < b <;> simp [q]
    rw [this]
    rfl
theorem max_of (b : Int) : ∀ bs : List Int, PySem.W.maxOf b bs = maxL b bs := by
  intro bs
  induction bs generalizing b with
  | nil => rfl
  | cons a r ih =>
    show r.foldl _ (if PySem.W.DatumOrd.lt b a = true then a else b) = maxL (if b < a then a else b) r
    rw [← ih]
    have : (if PySem.W.DatumOrd.lt b a = true then a else b) = if b < a then a else b := by
      show (if decide (b < a) = true then a else b) = _
      by_cases q : b < a <;> simp [q]
    rw [this]
    rfl
theorem least_one {b m : Int} {bs : List Int} (h1 : m ∈ b :: bs) (h2 : ∀ y, y ∈ b :: bs → m ≤ y) : m = minL b bs := by
  obtain ⟨q1, q2, q3⟩ := minL_spec bs b
  have a1 : minL b bs ≤ m := (List.mem_cons.mp h1).elim (fun e => e ▸ q2) (q3 m)
  have a2 := h2 (minL b bs) (q1.elim (fun e => by rw [e]; exact List.mem_cons_self) fun z => List.mem_cons_of_mem _ z)
  omega
theorem most_one {b m : Int} {bs : List Int} (h1 : m ∈ b :: bs) (h2 : ∀ y, y ∈ b :: bs → y ≤ m) : m = maxL b bs := by
  obtain ⟨q1, q2, q3⟩ := maxL_spec bs b
  have a1 : m ≤ maxL b bs := (List.mem_cons.mp h1).elim (fun e => e ▸ q2) (q3 m)
  have a2 := h2 (maxL b bs) (q1.elim (fun e => by rw [e]; exact List.mem_cons_self) fun z => List.mem_cons_of_mem _ z)
  omega
theorem call_minE (hK : X.K = x.K) (hc : X.calm = true) (hu : X.A.units + 66 < cLine) : CallR X (.builtin "min") (rC1 x min1) := by
  intro pins s σ H ys us Q J r ⟨y, e, p, cup, F, g, h, w⟩
  subst e
  cases p with
  | lst l =>
    obtain ⟨bs, hb, w⟩ := WP.opt (WP.bind w) g
    obtain ⟨a, vs, e, m, z, r1⟩ := h.lst g.sub
    have ev := ints_rep hb r1
    subst ev
    cases bs with
    | nil => exact w.elim
    | cons b bs => exact cr_min hc pins s σ H _ us Q J r ⟨a, b :: bs, by rw [e], .inl (.inl m), Nat.succ_pos _, fun m' hm hle => by rw [least_one hm hle]; exact end_int w g⟩
  | tup l =>
    obtain ⟨bs, hb, w⟩ := WP.opt (WP.bind w) g
    obtain ⟨a, vs, e, m, z, r1⟩ := h.tup
    have ev := ints_rep hb r1
    subst ev e
    cases bs with
    | nil => exact w.elim
    | cons b bs =>
      have sq : SqT X.K H a ((b :: bs).map V.int) := by rw [hK]; exact m.sq g.sub
      obtain ⟨its, rv, there, _⟩ := J.tuple sq
      rw [Vals.ref1 r]
      refine PySem.W.min_tuple_datum (x := b) (xs := bs) (J.ok.hd hc) there (holds_ints rv) (by show X.A.units + 1 + PySem.W.Datum.depth Int < cLine; have : PySem.W.Datum.depth Int ≤ 1 := by decide
                                                                                                omega) fun i v h' tk _ hv keep => ?_
      obtain ⟨t, rfl⟩ := held_int hv
      exact ⟨.int _, H, J.kept keep, ⟨t, rfl⟩, by rw [min_of]; exact end_int w g⟩
  | _ => exact w.elim
theorem call_maxE (hK : X.K = x.K) (hc : X.calm = true) (hu : X.A.units + 66 < cLine) : CallR X (.builtin "max") (rC1 x max1) := by
  intro pins s σ H ys us Q J r ⟨y, e, p, cup, F, g, h, w⟩
  subst e
  cases p with
  | lst l =>
    obtain ⟨bs, hb, w⟩ := WP.opt (WP.bind w) g
    obtain ⟨a, vs, e, m, z, r1⟩ := h.lst g.sub
    have ev := ints_rep hb r1
    subst ev
    cases bs with
    | nil => exact w.elim
    | cons b bs => exact cr_max hc pins s σ H _ us Q J r ⟨a, b :: bs, by rw [e], .inl (.inl m), Nat.succ_pos _, fun m' hm hle => by rw [most_one hm hle]; exact end_int w g⟩
  | tup l =>
    obtain ⟨bs, hb, w⟩ := WP.opt (WP.bind w) g
    obtain ⟨a, vs, e, m, z, r1⟩ := h.tup
    have ev := ints_rep hb r1
    subst ev e
    cases bs with
    | nil => exact w.elim
    | cons b bs =>
      have sq : SqT X.K H a ((b :: bs).map V.int) := by rw [hK]; exact m.sq g.sub
      obtain ⟨its, rv, there, _⟩ := J.tuple sq
      rw [Vals.ref1 r]
      refine PySem.W.max_tuple_datum (x := b) (xs := bs) (J.ok.hd hc) there (holds_ints rv) (by show X.A.units + 1 + PySem.W.Datum.depth Int < cLine; have : PySem.W.Datum.depth Int ≤ 1 := by decide
                                                                                                omega) fun i v h' tk _ hv keep => ?_
      obtain ⟨t, rfl⟩ := held_int hv
      exact ⟨.int _, H, J.kept keep, ⟨t, rfl⟩, by rw [max_of]; exact end_int w g⟩
  | _ => exact w.elim
end
end EV

set_option maxRecDepth 100000
set_option maxHeartbeats 2000000
/-! EvE2: and, or, if; displays; slices; arguments; built-in functions and methods. -/
namespace EV
open PySem PySem.Spec PyProof.Rows L2

theorem truM_same {v : PV} {c c' : Cup} {t : Bool} (h : truM v c = .ok t c') : c' = c := by
  cases v <;> cases h <;> rfl
theorem RepR.step {x : Fix} {F' H' H F2 H2 : Hp} {v : PV} {y : V} (h : RepR x F' H' H v y) (s : Step x.C F' H' F2 H2) : RepR x F2 H2 H v y := by
  rcases h with h | ⟨a, e, o, n⟩
  · exact .inl (h.le s.grow)
  · exact .inr ⟨a, e, o.step s, n⟩
section
variable {X : Cx} {x : Fix} {pos : Pos} {a b c : Expr} {rest : List Expr} {ma mb mc : ME}
def mand (ma mb : ME) : ME := fun env => do let v ← ma env; let t ← truM v; if t then mb env else pure v
def mor (ma mb : ME) : ME := fun env => do let v ← ma env; let t ← truM v; if t then pure v else mb env
def mite (mc ma mb : ME) : ME := fun env => do let v ← mc env; let t ← truM v; if t then ma env else mb env
theorem pe_andE (hK : X.K = x.K) (ha : PE X a (tR x ma)) (hb : PE X (.BoolOp .And (b :: rest) pos) (tR x mb)) : PE X (.BoolOp .And (a :: b :: rest) pos) (tR x (mand ma mb)) := by
  refine ⟨fun pins s σ H Q I h => ?_⟩
  obtain ⟨cup, F, env, g, sl, w⟩ := h
  refine BoolOp_and (thn (ha.run pins s σ H (fun y H1 => ∃ v c F1, Good x c F1 H1 ∧ RepR x F1 H1 H v y ∧ Slots x F1 H1 σ env ∧ Step x.C F H F1 H1 ∧ WP x (truM v) c F1 H1 fun t c F' H' => WP x (if t then mb env else pure v) c F' H' fun v _ F' H' => ∀ y, RepR x F' H' H v y → Q y H') I ⟨cup, F, env, g, sl, (WP.bind w).mono fun v c F1 H1 s1 g1 w1 y r => ⟨v, c, F1, g1, r, sl.step s1, s1, WP.bind w1⟩⟩) fun v s1 ⟨y, H1, I1, r1, pv, c1, F1, g1, rh, sl1, st1, w1⟩ => ?_)
  refine thn (tru_E (Q := fun t H' => ∃ c F', Good x c F' H' ∧ RepR x F' H' H pv y ∧ Slots x F' H' σ env ∧ Step x.C F H F' H' ∧ WP x (if t then mb env else pure pv) c F' H' fun v _ F' H' => ∀ y, RepR x F' H' H v y → Q y H') hK I1 r1 g1 rh.toH (w1.mono fun t c F' H' s' g' w' => ⟨c, F', g', rh.step s', sl1.step s', st1.trans s', w'⟩)) fun t s2 ⟨H2, I2, c2, F2, g2, rh2, sl2, st2, w2⟩ => ?_
  cases t with
  | true => exact hb.run pins s2 σ H2 Q I2 ⟨c2, F2, env, g2, sl2, (show WP x (mb env) c2 F2 H2 _ from w2).mono fun v c F' H' s' g' q y r => q y (r.old st2.dom)⟩
  | false => exact ⟨y, H2, I2, r1, (show WP x (pure pv : M PV) c2 F2 H2 _ from w2).pure g2 y rh2⟩
theorem pe_orE (hK : X.K = x.K) (ha : PE X a (tR x ma)) (hb : PE X (.BoolOp .Or (b :: rest) pos) (tR x mb)) : PE X (.BoolOp .Or (a :: b :: rest) pos) (tR x (mor ma mb)) := by
  refine ⟨fun pins s σ H Q I h => ?_⟩
  obtain ⟨cup, F, env, g, sl, w⟩ := h
  refine BoolOp_or (thn (ha.run pins s σ H (fun y H1 => ∃ v c F1, Good x c F1 H1 ∧ RepR x F1 H1 H v y ∧ Slots x F1 H1 σ env ∧ Step x.C F H F1 H1 ∧ WP x (truM v) c F1 H1 fun t c F' H' => WP x (if t then pure v else mb env) c F' H' fun v _ F' H' => ∀ y, RepR x F' H' H v y → Q y H') I ⟨cup, F, env, g, sl, (WP.bind w).mono fun v c F1 H1 s1 g1 w1 y r => ⟨v, c, F1, g1, r, sl.step s1, s1, WP.bind w1⟩⟩) fun v s1 ⟨y, H1, I1, r1, pv, c1, F1, g1, rh, sl1, st1, w1⟩ => ?_)
  refine thn (tru_E (Q := fun t H' => ∃ c F', Good x c F' H' ∧ RepR x F' H' H pv y ∧ Slots x F' H' σ env ∧ Step x.C F H F' H' ∧ WP x (if t then pure pv else mb env) c F' H' fun v _ F' H' => ∀ y, RepR x F' H' H v y → Q y H') hK I1 r1 g1 rh.toH (w1.mono fun t c F' H' s' g' w' => ⟨c, F', g', rh.step s', sl1.step s', st1.trans s', w'⟩)) fun t s2 ⟨H2, I2, c2, F2, g2, rh2, sl2, st2, w2⟩ => ?_
  cases t with
  | false => exact hb.run pins s2 σ H2 Q I2 ⟨c2, F2, env, g2, sl2, (show WP x (mb env) c2 F2 H2 _ from w2).mono fun v c F' H' s' g' q y r => q y (r.old st2.dom)⟩
  | true => exact ⟨y, H2, I2, r1, (show WP x (pure pv : M PV) c2 F2 H2 _ from w2).pure g2 y rh2⟩
/-- a value's truth, then the rest -/
theorem truth_bind {m : M PV} {k : PV → Bool → M PV} {cup : Cup} {F H : Hp} {P : Bool → Cup → Hp → Hp → Prop} (w : WP x ((m >>= fun v => truM v >>= fun t => k v t) >>= truM) cup F H P) :
    WP x (m >>= truM) cup F H fun t c F' H' => ∃ v, truM v c = .ok t c ∧ WP x (k v t >>= truM) c F' H' P := by
  unfold WP at w ⊢
  cases e : m cup with
  | stuck => rw [bind_stuck (bind_stuck e)] at w; exact w.elim
  | ex z c =>
    rw [bind_ex (bind_ex e)] at w
    rw [bind_ex e]
    exact w
  | ok v c =>
    rw [bind_ok e]
    cases e2 : truM v c with
    | stuck => rw [bind_stuck ((bind_ok e).trans (bind_stuck e2))] at w; exact w.elim
    | ex z c2 => rw [bind_ex ((bind_ok e).trans (bind_ex e2))] at w; exact w
    | ok t c2 =>
      have ec := truM_same e2
      subst ec
      intro F1 H1 s1 g1
      refine ⟨v, e2, ?_⟩
      have e3 : ((m >>= fun v => truM v >>= fun t => k v t) : M PV) cup = k v t c2 := (bind_ok e).trans (bind_ok e2)
      cases e4 : k v t c2 with
      | stuck => rw [bind_stuck (e3.trans e4)] at w; exact w.elim
      | ex z c3 =>
        rw [bind_ex (e3.trans e4)] at w
        rw [bind_ex e4]
        exact fun F2 H2 s2 g2 => w F2 H2 (s1.trans s2) g2
      | ok u c3 =>
        rw [bind_ok (e3.trans e4)] at w
        rw [bind_ok e4]
        cases e5 : truM u c3 with
        | stuck => rw [e5] at w; exact w.elim
        | ex z c4 => rw [e5] at w; exact fun F2 H2 s2 g2 => w F2 H2 (s1.trans s2) g2
        | ok u2 c4 => rw [e5] at w; exact fun F2 H2 s2 g2 => w F2 H2 (s1.trans s2) g2
theorem pw_andE (ha : PT X a (tT x ma)) (hb : PW X (.BoolOp .And (b :: rest) pos) (tT x mb)) : PW X (.BoolOp .And (a :: b :: rest) pos) (tT x (mand ma mb)) := by
  refine ⟨fun wh pins s σ H Q I h => (pw_and ha hb).run wh pins s σ H Q I ?_⟩
  obtain ⟨cup, F, env, g, sl, w⟩ := h
  refine ⟨cup, F, env, g, sl, (truth_bind (k := fun v t => if t then mb env else pure v) w).mono fun t c F' H' s' g' ⟨v, e, w'⟩ => ?_⟩
  cases t with
  | true => exact ⟨c, F', env, g', sl.step s', w'⟩
  | false =>
    have w' : WP x ((pure v : M PV) >>= truM) c F' H' fun b _ _ H' => Q b H' := w'
    unfold WP at w'
    rw [bind_ok (show (pure v : M PV) c = .ok v c from rfl), e] at w'
    exact w' F' H' (Step.refl _ _ _) g'
theorem pw_orE (ha : PT X a (tT x ma)) (hb : PW X (.BoolOp .Or (b :: rest) pos) (tT x mb)) : PW X (.BoolOp .Or (a :: b :: rest) pos) (tT x (mor ma mb)) := by
  refine ⟨fun wh pins s σ H Q I h => (pw_or ha hb).run wh pins s σ H Q I ?_⟩
  obtain ⟨cup, F, env, g, sl, w⟩ := h
  refine ⟨cup, F, env, g, sl, (truth_bind (k := fun v t => if t then pure v else mb env) w).mono fun t c F' H' s' g' ⟨v, e, w'⟩ => ?_⟩
  cases t with
  | false => exact ⟨c, F', env, g', sl.step s', w'⟩
  | true =>
    have w' : WP x ((pure v : M PV) >>= truM) c F' H' fun b _ _ H' => Q b H' := w'
    unfold WP at w'
    rw [bind_ok (show (pure v : M PV) c = .ok v c from rfl), e] at w'
    exact w' F' H' (Step.refl _ _ _) g'
theorem pe_iteE (hc : PT X c (tT x mc)) (ha : PE X a (tR x ma)) (hb : PE X b (tR x mb)) : PE X (.IfExp c a b pos) (tR x (mite mc ma mb)) := by
  refine (pe_ifExp hc ha hb).weak fun σ H Q h => ?_
  obtain ⟨cup, F, env, g, sl, w⟩ := h
  have key : WP x (mc env >>= truM) cup F H fun t c F' H' => WP x (if t then ma env else mb env) c F' H' fun v _ F' H' => ∀ y, RepR x F' H' H v y → Q y H' := by
    have w : WP x (mc env >>= fun v => truM v >>= fun t => if t then ma env else mb env) cup F H fun v _ F' H' => ∀ y, RepR x F' H' H v y → Q y H' := w
    refine WP.bind (m := mc env >>= truM) (f := fun t => if t then ma env else mb env) ?_
    unfold WP at w ⊢
    cases e : mc env cup with
    | stuck => rw [bind_stuck e] at w; exact w.elim
    | ex z c => rw [bind_ex e] at w; rw [bind_ex (bind_ex e)]; exact w
    | ok v c =>
      rw [bind_ok e] at w
      cases e2 : truM v c with
      | stuck => rw [bind_stuck e2] at w; exact w.elim
      | ex z c2 => rw [bind_ex e2] at w; rw [bind_ex ((bind_ok e).trans e2)]; exact w
      | ok t c2 => rw [bind_ok e2] at w; rw [bind_ok ((bind_ok e).trans e2)]; exact w
  refine ⟨cup, F, env, g, sl, key.mono fun t c F' H' s' g' w' => ?_⟩
  cases t with
  | true => exact ⟨c, F', env, g', sl.step s', (show WP x (ma env) c F' H' _ from w').mono fun v c F2 H2 s2 g2 q y r => q y (r.old s'.dom)⟩
  | false => exact ⟨c, F', env, g', sl.step s', (show WP x (mb env) c F' H' _ from w').mono fun v c F2 H2 s2 g2 q y r => q y (r.old s'.dom)⟩
theorem pt_iteE (hc : PT X c (tT x mc)) (ha : PT X a (tT x ma)) (hb : PT X b (tT x mb)) : PT X (.IfExp c a b pos) (tT x (mite mc ma mb)) := by
  refine ⟨fun pins s σ H Q I h => ?_⟩
  obtain ⟨cup, F, env, g, sl, w⟩ := h
  refine isTrue_IfExp (thn (hc.run pins s σ H (fun t H1 => if t = true then tT x ma σ H1 Q else tT x mb σ H1 Q) I ⟨cup, F, env, g, sl, (truth_bind (k := fun v t => if t then ma env else mb env) w).mono fun t c F' H' s' g' ⟨v, e, w'⟩ => ?_⟩) fun t s1 ⟨H1, I1, q1⟩ => ?_)
  · cases t with
    | true => exact ⟨c, F', env, g', sl.step s', w'⟩
    | false => exact ⟨c, F', env, g', sl.step s', w'⟩
  · cases t with
    | true => exact ha.run pins s1 σ H1 Q I1 q1
    | false => exact hb.run pins s1 σ H1 Q I1 q1

/-! ### lists of expressions -/
def NotStar (e : Expr) : Prop := ∀ es env, starEach (e :: es) env = (false, eval e env) :: starEach es env
theorem stars_none : ∀ {es : List Expr}, (∀ e ∈ es, NotStar e) → ∀ {p : Pos} {env : Env}, (backTo p (starEach es env)).any (·.1) = false
  | [], _, _, _ => rfl
  | e :: es, h, p, env => by
    rw [h e List.mem_cons_self es env]
    show (false || (backTo p (starEach es env)).any (·.1)) = false
    rw [stars_none fun d hd => h d (List.mem_cons_of_mem _ hd)]
    rfl
theorem stars_all : ∀ {es : List Expr}, (∀ e ∈ es, NotStar e) → ∀ {p : Pos} {env : Env}, (backTo p (starEach es env)).all (fun x => !x.1) = true
  | [], _, _, _ => rfl
  | e :: es, h, p, env => by
    rw [h e List.mem_cons_self es env]
    show (true && (backTo p (starEach es env)).all (fun x => !x.1)) = true
    rw [stars_all fun d hd => h d (List.mem_cons_of_mem _ hd)]
    rfl
variable {call : Str → List PV → M PV}
theorem pa_nilE : PA X [] (tAs x (evalEs call [])) := by
  refine pa_nil.weak fun σ H Q h => ?_
  obtain ⟨cup, F, env, g, sl, w⟩ := h
  exact w.pure g [] .nil
theorem pa_consE {ce : CE} {cl : List CE} {e : Expr} {es : List Expr} (ns : NotStar e) (he : PE X e (tE x (evalE call ce))) (hes : PA X es (tAs x (evalEs call cl))) : PA X (e :: es) (tAs x (evalEs call (ce :: cl))) := by
  refine (pa_cons he hes (ns es X.env)).weak fun σ H Q h => ?_
  obtain ⟨cup, F, env, g, sl, w⟩ := h
  refine ⟨cup, F, env, g, sl, (WP.bind w).mono fun v c F1 H1 s1 g1 w1 y1 r1 => ⟨c, F1, env, g1, sl.step s1, (WP.bind w1).mono fun v2 c2 F2 H2 s2 g2 w2 y2 r2 => ?_⟩⟩
  exact w2.pure g2 _ (.cons (r1.le s2.grow) r2)
theorem pa_nilP : PA X [] (tPs x (evalEs call [])) := by
  refine pa_nil.weak fun σ H Q h => ?_
  obtain ⟨cup, F, env, g, sl, w⟩ := h
  exact w.pure g [] .nil
theorem pa_consP {ce : CE} {cl : List CE} {e : Expr} {es : List Expr} (ns : NotStar e) (he : PE X e (tP x (evalE call ce))) (hes : PA X es (tPs x (evalEs call cl))) : PA X (e :: es) (tPs x (evalEs call (ce :: cl))) := by
  refine (pa_cons he hes (ns es X.env)).weak fun σ H Q h => ?_
  obtain ⟨cup, F, env, g, sl, w⟩ := h
  refine ⟨cup, F, env, g, sl, (WP.bind w).mono fun v c F1 H1 s1 g1 w1 y1 r1 => ⟨c, F1, env, g1, sl.step s1, (WP.bind w1).mono fun v2 c2 F2 H2 s2 g2 w2 y2 r2 => ?_⟩⟩
  exact w2.pure g2 _ (.cons (r1.step s2) r2)
theorem bind_inv {α β : Type} {m : M α} {f : α → M β} {c c' : Cup} {v : β} (h : (m >>= f) c = .ok v c') : ∃ u c1, m c = .ok u c1 ∧ f u c1 = .ok v c' := by
  cases e : m c with
  | ok u c1 => rw [bind_ok e] at h; exact ⟨u, c1, rfl, h⟩
  | ex z c1 => rw [bind_ex e] at h; cases h
  | stuck => rw [bind_stuck e] at h; cases h
theorem evalEs_len : ∀ {l : List CE} {env : Ev} {c c' : Cup} {vs : List PV}, evalEs call l env c = .ok vs c' → vs.length = l.length
  | [], env, c, c', vs, h => by cases h; rfl
  | e :: l, env, c, c', vs, h => by
    obtain ⟨v, c1, h1, h⟩ := bind_inv (m := evalE call e env) h
    obtain ⟨ws, c2, h2, h⟩ := bind_inv (m := evalEs call l env) h
    cases h
    exact congrArg (· + 1) (evalEs_len h2)
theorem pe_tupE {cl : List CE} {es : List Expr} {x1} (h : PA X es (tAs x (evalEs call cl))) (hl : cl.length ≤ LINE) : PE X (.Tuple es x1 pos) (tR x fun env => do let vs ← evalEs call cl env; pure (.tup vs)) := by
  refine (pe_tup h).weak fun σ H Q h => ?_
  obtain ⟨cup, F, env, g, sl, w⟩ := h
  refine ⟨cup, F, env, g, sl, (WP.bind w).monoV fun vs c F1 H1 e s1 g1 w1 ys r1 => ?_⟩
  have z : ys.length ≤ LINE := by rw [← r1.length, evalEs_len e]; exact hl
  refine ⟨by rw [line_eq]; exact z, fun p hp => ?_⟩
  exact w1.pureS (Step.new' g1 hp) (g1.new' hp) _ (.inl (.tup (.inl upd_same) z (r1.le (le_upd (g1.nF hp)))))
theorem pe_lstN {cl : List CE} {es : List Expr} (h : PA X es (tAs x (evalEs call cl))) (hl : cl.length ≤ LINE) : PE X (.List es pos) (tN x fun env => do let vs ← evalEs call cl env; pure (.lst vs)) := by
  refine (pe_lst h).weak fun σ H Q h => ?_
  obtain ⟨cup, F, env, g, sl, w⟩ := h
  refine ⟨cup, F, env, g, sl, (WP.bind w).monoV fun vs c F1 H1 e s1 g1 w1 ys r1 => ?_⟩
  have z : ys.length ≤ LINE := by rw [← r1.length, evalEs_len e]; exact hl
  refine ⟨by rw [line_eq]; exact z, fun p hp => ?_⟩
  exact w1.pureS (Step.own g1 hp) (g1.own hp) p ⟨g1.nF hp, g1.notC hp, ys, upd_same, z, r1⟩ (s1.dom _ hp)

/-! ### slices -/
def mpart (mo : Ev → M (Option PV)) : Ev → M (Option Int) := fun env => do let v ← mo env; partM v
def tPO (x : Fix) (m : Ev → M (Option Int)) : TO := fun σ H Q => ∃ cup F env, Good x cup F H ∧ Slots x F H σ env ∧ WP x (m env) cup F H fun v _ F' H' => Q v H'
theorem PO.weak {e : Option Expr} {t t' : TO} (h : PO X e t) (w : ∀ σ H Q, t' σ H Q → t σ H Q) : PO X e t' := ⟨fun pins s σ H Q I q => h.run pins s σ H Q I (w σ H Q q)⟩
theorem po_noneE : PO X none (tPO x fun env => do let l ← evalO call none env; partM l) := by
  refine PO.weak po_none fun σ H Q h => ?_
  obtain ⟨cup, F, env, g, sl, w⟩ := h
  exact (show WP x (pure none : M (Option Int)) cup F H _ from w).pure g
theorem po_someE {e : Expr} {ce : CE} (h : PE X e (tP x (evalE call ce))) : PO X (some e) (tPO x fun env => do let l ← evalO call (some ce) env; partM l) := by
  refine PO.weak (po_some h) fun σ H Q h => ?_
  obtain ⟨cup, F, env, g, sl, w⟩ := h
  refine ⟨cup, F, env, g, sl, (WP.bind (WP.bind w)).mono fun v c F1 H1 s1 g1 w1 y r => ?_⟩
  have w1 : WP x (pure (some v) : M (Option PV)) c F1 H1 fun v c F' H' => WP x (partM v) c F' H' fun v _ F' H' => Q v H' := w1
  have w2 := w1.pure g1
  cases v with
  | int i => exact ⟨i, r.int, (show WP x (pure (some i) : M (Option Int)) c F1 H1 _ from w2).pure g1⟩
  | _ => exact w2.elim
theorem bind_assocM {α β γ : Type} (m : M α) (f : α → M β) (k : β → M γ) : ((m >>= f) >>= k) = (m >>= fun v => f v >>= k) := by
  funext c
  cases e : m c with
  | ok v c1 =>
    rw [bind_ok e]
    cases e2 : f v c1 with
    | ok u c2 => rw [bind_ok ((bind_ok e).trans e2), bind_ok e2]
    | ex z c2 => rw [bind_ex ((bind_ok e).trans e2), bind_ex e2]
    | stuck => rw [bind_stuck ((bind_ok e).trans e2), bind_stuck e2]
  | ex z c1 => rw [bind_ex e, bind_ex (bind_ex e)]
  | stuck => rw [bind_stuck e, bind_stuck (bind_stuck e)]
theorem pe_slcE {lo hi : Option Expr} {p2 : Pos} {cl ch : Option CE} (hK : X.K = x.K) (ha : PE X a (tP x ma)) (hl : PO X lo (tPO x fun env => do let l ← evalO call cl env; partM l)) (hh : PO X hi (tPO x fun env => do let l ← evalO call ch env; partM l)) :
    PE X (.Subscript a (.Slice lo hi none p2) pos) (tR x fun env => do
      let v ← ma env
      let l ← evalO call cl env
      let l' ← partM l
      let h ← evalO call ch env
      let h' ← partM h
      slcV v l' h') := by
  refine (pe_slice (sl_E hK) ha hl hh).weak fun σ H Q h => ?_
  obtain ⟨cup, F, env, g, sl, w⟩ := h
  refine ⟨cup, F, env, g, sl, (WP.bind w).mono fun v c F1 H1 s1 g1 w1 y1 r1 => ⟨c, F1, env, g1, sl.step s1, ?_⟩⟩
  rw [← bind_assocM] at w1
  refine (WP.bind w1).mono fun l c2 F2 H2 s2 g2 w2 => ⟨c2, F2, env, g2, (sl.step s1).step s2, ?_⟩
  rw [← bind_assocM] at w2
  refine (WP.bind w2).mono fun u c3 F3 H3 s3 g3 w3 => ⟨v, c3, F3, g3, (r1.step s2).step s3, w3.mono fun v4 c4 F4 H4 s4 g4 q y r => q y (r.old ((s1.trans s2).trans s3).dom)⟩
/-! ### built-in functions -/
theorem pe_b1 {id : String} {n : Str} {p : Pos} {e : Expr} {f : PV → M PV} (hc : CallR X (.builtin id) (rC1 x f)) (hg : Gl X n) (hm : X.mg n = none) (hv : bootBuiltins n = some (.builtin id)) (hn : n ≠ "__name__") (hdb : (n == ("__debug__" : Str)) = false) (ns : NotStar e) (he : PE X e (tP x ma)) :
    PE X (.Call (.Name n p) [e] [] pos) (tR x fun env => do let v ← ma env; f v) := by
  have pa : PA X [e] (tCons (tP x ma) tNil) := pa_cons he pa_nil (ns [] X.env)
  refine (pe_callB hc hg hm hv pa hn hdb (ns [] X.env) rfl).weak fun σ H Q h => ?_
  obtain ⟨cup, F, env, g, sl, w⟩ := h
  exact ⟨cup, F, env, g, sl, (WP.bind w).mono fun v c F1 H1 s1 g1 w1 y1 r1 => ⟨y1, rfl, v, c, F1, g1, r1, w1.mono fun v3 c3 F3 H3 s3 g3 q y r => q y (r.old s1.dom)⟩⟩
theorem pe_b1T {id : String} {n : Str} {p : Pos} {e : Expr} {f : PV → M PV} (hc : CallR X (.type id) (rC1 x f)) (hg : Gl X n) (hm : X.mg n = none) (hv : bootBuiltins n = some (.type id)) (hn : n ≠ "__name__") (hdb : (n == ("__debug__" : Str)) = false) (ns : NotStar e) (he : PE X e (tP x ma)) :
    PE X (.Call (.Name n p) [e] [] pos) (tR x fun env => do let v ← ma env; f v) := by
  have pa : PA X [e] (tCons (tP x ma) tNil) := pa_cons he pa_nil (ns [] X.env)
  refine (pe_callTy hc hg hm hv pa hn hdb (ns [] X.env) rfl).weak fun σ H Q h => ?_
  obtain ⟨cup, F, env, g, sl, w⟩ := h
  exact ⟨cup, F, env, g, sl, (WP.bind w).mono fun v c F1 H1 s1 g1 w1 y1 r1 => ⟨y1, rfl, v, c, F1, g1, r1, w1.mono fun v3 c3 F3 H3 s3 g3 q y r => q y (r.old s1.dom)⟩⟩
theorem pe_b1N {id : String} {n : Str} {p : Pos} {e : Expr} {f : PV → M PV} (hc : CallR X (.type id) (rC1n x f)) (hg : Gl X n) (hm : X.mg n = none) (hv : bootBuiltins n = some (.type id)) (hn : n ≠ "__name__") (hdb : (n == ("__debug__" : Str)) = false) (ns : NotStar e) (he : PE X e (tP x ma)) :
    PE X (.Call (.Name n p) [e] [] pos) (tN x fun env => do let v ← ma env; f v) := by
  have pa : PA X [e] (tCons (tP x ma) tNil) := pa_cons he pa_nil (ns [] X.env)
  refine (pe_callTy hc hg hm hv pa hn hdb (ns [] X.env) rfl).weak fun σ H Q h => ?_
  obtain ⟨cup, F, env, g, sl, w⟩ := h
  exact ⟨cup, F, env, g, sl, (WP.bind w).mono fun v c F1 H1 s1 g1 w1 y1 r1 => ⟨y1, v, c, F1, rfl, g1, r1, w1.mono fun v3 c3 F3 H3 s3 g3 q a o n => q a o (s1.dom _ n)⟩⟩
theorem pe_b2 {id : String} {n : Str} {p : Pos} {e e2 : Expr} {f : PV → PV → M PV} (hc : CallR X (.builtin id) (rC2 x f)) (hg : Gl X n) (hm : X.mg n = none) (hv : bootBuiltins n = some (.builtin id)) (hn : n ≠ "__name__") (hdb : (n == ("__debug__" : Str)) = false) (ns : NotStar e) (ns2 : NotStar e2) (he : PE X e (tP x ma)) (he2 : PE X e2 (tP x mb)) :
    PE X (.Call (.Name n p) [e, e2] [] pos) (tR x fun env => do let v ← ma env; let u ← mb env; f v u) := by
  have pa : PA X [e, e2] (tCons (tP x ma) (tCons (tP x mb) tNil)) := pa_cons he (pa_cons he2 pa_nil (ns2 [] X.env)) (ns [e2] X.env)
  have hpl : (backTo pos (starEach [e2] X.env)).any (·.1) = false := stars_none fun d hd => by rw [List.mem_singleton.mp hd]; exact ns2
  refine (pe_callB hc hg hm hv pa hn hdb (ns [e2] X.env) hpl).weak fun σ H Q h => ?_
  obtain ⟨cup, F, env, g, sl, w⟩ := h
  refine ⟨cup, F, env, g, sl, (WP.bind w).mono fun v c F1 H1 s1 g1 w1 y1 r1 => ⟨c, F1, env, g1, sl.step s1, (WP.bind w1).mono fun v2 c2 F2 H2 s2 g2 w2 y2 r2 => ⟨y1, y2, rfl, v, v2, c2, F2, g2, r1.step s2, r2, w2.mono fun v3 c3 F3 H3 s3 g3 q y r => q y (r.old (s1.trans s2).dom)⟩⟩⟩
end
end EV

set_option maxRecDepth 100000
set_option maxHeartbeats 2000000
/-! EvE3: methods, isinstance, calls of defs. -/
namespace EV
open PySem PySem.Spec PyProof.Rows L2
section
variable {X : Cx} {x : Fix} {pos apos : Pos} {a b c o : Expr} {ma mb mc mo : ME} {call : Str → List PV → M PV}

/-! ### methods -/
def mName : Mf → Str
  | .join => "join" | .startswith => "startswith" | .endswith => "endswith" | .count => "count" | .index => "index" | .get => "get"
def mT : Mf → PV → String
  | .get, _ => "dict"
  | .index, .lst _ => "list"
  | _, _ => "str"
def mId : Mf → PV → String
  | .join, _ => "str.join" | .startswith, _ => "str.startswith" | .endswith, _ => "str.endswith" | .count, _ => "str.count"
  | .index, .lst _ => "list.index" | .index, _ => "str.index" | .get, _ => "dict.get"
theorem m_facts {m : Mf} {v : PV} (h : recvOk m v = true) : PlainAttrs (mT m v) ∧ PySem.Slot (mT m v) (mName m) (mId m v) ∧ typeOf (.builtin (mId m v)) = pure (.type "method_descriptor") := by
  cases m <;> cases v <;> cases h
  · exact ⟨PySem.F.plainAttrs_str, PySem.F.slot_str_join, PySem.F.type_str_join⟩
  · exact ⟨PySem.F.plainAttrs_str, PySem.F.slot_str_startswith, PySem.F.type_str_startswith⟩
  · exact ⟨PySem.F.plainAttrs_str, PySem.F.slot_str_endswith, PySem.F.type_str_endswith⟩
  · exact ⟨PySem.F.plainAttrs_str, PySem.F.slot_str_count, PySem.F.type_str_count⟩
  · exact ⟨PySem.F.plainAttrs_str, PySem.F.slot_str_index, PySem.F.type_str_index⟩
  · exact ⟨PySem.F.plainAttrs_list, PySem.F.slot_list_index, PySem.F.type_list_index⟩
  · exact ⟨PySem.F.plainAttrs_dict, PySem.F.slot_dict_get, PySem.F.type_dict_get⟩
theorem m_type {pins σ H s y v cup F} {m : Mf} {p : PV} (h : recvOk m p = true) (I : Inv X pins σ H s) (r : RelV y v) (g : Good x cup F H) (rh : RepH x F H p y) :
    s.TypeIs v (mT m p) ∧ ∀ a, v = .ref a → ∃ ob, s.heap.get? a = some ob ∧ ob.dict = none := by
  have isS : ∀ l : List Nat, p = .str l → s.TypeIs v "str" ∧ ∀ a, v = .ref a → ∃ ob, s.heap.get? a = some ob ∧ ob.dict = none := fun l e => by
    subst e
    rw [rh.str.1] at r
    obtain ⟨t, rfl⟩ := r
    exact ⟨typeIs_str s _ t, fun _ e => nomatch e⟩
  cases m <;> cases p <;> cases h
  · exact isS _ rfl
  · exact isS _ rfl
  · exact isS _ rfl
  · exact isS _ rfl
  · exact isS _ rfl
  · obtain ⟨q, vs, e, m, z, r1⟩ := rh.lst g.sub
    exact tyV_is I r (by rw [e]; exact .inl ⟨rfl, vs, .inl (.inl m)⟩)
  · obtain ⟨q, ks, e, m, z, r1⟩ := rh.dict g.sub
    subst e
    cases r
    obtain ⟨_, _, _, _, o, _, _, e, ex, _⟩ := m.ok I.hok
    refine ⟨⟨o, e, ex.1⟩, fun a e2 => ?_⟩
    cases e2
    exact ⟨o, e, ex.2.1⟩
theorem m_run (hK : X.K = x.K) (hu : X.A.units + 66 < cLine) {pins σ H s y v cup F us ys} {m : Mf} {p : PV} {qs : List PV} {Q : VK} (h : recvOk m p = true) (I : Inv X pins σ H s) (r : RelV y v) (rs : Vals ys us) (g : Good x cup F H) (rh : RepH x F H p y)
    (ra : RepHs x F H qs ys) (rv : m = .get → RepVs x.K F x.C qs ys) (w : WP x (mthV m p qs) cup F H fun v _ F' H' => ∀ y, RepR x F' H' H v y → Q y H') :
    wpAny (model X.prog X.w) X.A (PySem.call (.builtin (mId m p)) (v :: us)) (EP X pins σ Q) X.xe s := by
  cases ra with
  | nil => exact w.elim
  | cons r1 ra =>
    cases ra with
    | nil =>
      have w2 : r2 x (mth1 m) y _ H Q := ⟨p, _, cup, F, g, rh, r1, w⟩
      cases m with
      | join => exact mt_joinE pins s σ H _ _ v us Q I r rs ⟨_, rfl, w2⟩
      | startswith => exact mt_startsE pins s σ H _ _ v us Q I r rs ⟨_, rfl, w2⟩
      | endswith => exact mt_endsE pins s σ H _ _ v us Q I r rs ⟨_, rfl, w2⟩
      | count => exact mt_countE pins s σ H _ _ v us Q I r rs ⟨_, rfl, w2⟩
      | get => exact mt_get1 (by omega) pins s σ H _ _ v us Q I r rs ⟨_, rfl, w2⟩
      | index =>
        cases p with
        | str l => exact mt_indexS pins s σ H _ _ v us Q I r rs ⟨⟨l, rh.str.1⟩, _, rfl, w2⟩
        | lst l =>
          obtain ⟨q, vs, e, _⟩ := rh.lst g.sub
          exact mt_indexL hK (by omega) pins s σ H _ _ v us Q I r rs ⟨⟨q, e⟩, _, rfl, w2⟩
        | _ => cases h
    | cons r2 ra =>
      cases ra with
      | nil =>
        cases m with
        | get =>
          have rv := rv rfl
          cases rv with
          | cons _ t => cases t with
            | cons h3 _ => exact mt_get2 (by omega) pins s σ H _ _ v us Q I r rs ⟨_, _, p, _, _, cup, F, rfl, g, rh, r1, h3, w⟩
        | _ => exact w.elim
      | cons _ _ => exact w.elim
theorem RepHs.of {F H} : ∀ {ps : List PV} {vs : List V}, RepVs x.K F x.C ps vs → RepHs x F H ps vs := RepVs.toH
/-- o.m(..): jp: the arguments may be looked at -/
theorem pe_mthE (hK : X.K = x.K) (hu : X.A.units + 66 < cLine) {m : Mf} {cl : List CE} {e : Expr} {es : List Expr} (hbase : attributeBase o (mName m) X.env (eval o X.env) = eval o X.env) (hline : (apos.endLine == pos.line) = true) (hlen : (e :: es).length < 30) (ns : ∀ d ∈ e :: es, NotStar d)
    (ho : PE X o (tP x mo)) (ha : PA X (e :: es) (if m = .join then tPs x (evalEs call cl) else tAs x (evalEs call cl))) :
    PE X (.Call (.Attribute o (mName m) apos) (e :: es) [] pos) (tR x fun env => do let v ← mo env; guardM (recvOk m v); let vs ← evalEs call cl env; mthV m v vs) := by
  refine ⟨fun pins s σ H Q I h => ?_⟩
  obtain ⟨cup, F, env, g, sl, w⟩ := h
  have hfew : ((backTo pos (starEach (e :: es) X.env)).all (fun x => !x.1) && (backToKw pos (keywordEach [] X.env)).all (fun x => x.1.isSome) && decide ((e :: es).length + ([] : List Keyword).length + (if ([] : List Keyword).isEmpty then 0 else 1) < 30)) = true := by
    rw [stars_all ns]
    exact decide_eq_true hlen
  refine wpAny_Call_method_late hbase hfew hline rfl (thn (ho.run pins s σ H (fun y H1 => ∃ v c F1, Good x c F1 H1 ∧ RepH x F1 H1 v y ∧ Slots x F1 H1 σ env ∧ Step x.C F H F1 H1 ∧ WP x (do guardM (recvOk m v); let vs ← evalEs call cl env; mthV m v vs) c F1 H1 fun v _ F' H' => ∀ y, RepR x F' H' H v y → Q y H') I ⟨cup, F, env, g, sl, (WP.bind w).mono fun v c F1 H1 s1 g1 w1 y r => ⟨v, c, F1, g1, r, sl.step s1, s1, w1⟩⟩) fun v s1 ⟨y, H1, I1, r1, pv, c1, F1, g1, rh, sl1, st1, w1⟩ => ?_)
  have hr : recvOk m pv = true ∧ WP x (do let vs ← evalEs call cl env; mthV m pv vs) c1 F1 H1 fun v _ F' H' => ∀ y, RepR x F' H' H v y → Q y H' := by
    cases e : recvOk m pv with
    | true => rw [e] at w1; exact ⟨rfl, w1⟩
    | false => rw [e] at w1; exact w1.elim
  obtain ⟨hr, w2⟩ := hr
  obtain ⟨f1, f2, f3⟩ := m_facts hr
  obtain ⟨t1, t2⟩ := m_type hr I1 r1 g1 rh
  refine ⟨mT m pv, mId m pv, f1, f2, f3, t1, t2, ?_⟩
  have hpl := stars_none (p := pos) (env := X.env) fun d hd => ns d (List.mem_cons_of_mem _ hd)
  have hs := ns e List.mem_cons_self es X.env
  have hA := ha.run pos pins s1 σ H1 (fun ys H2 => ∃ qs c2 F2, Good x c2 F2 H2 ∧ RepHs x F2 H2 qs ys ∧ (m = .get → RepVs x.K F2 x.C qs ys) ∧ Step x.C F1 H1 F2 H2 ∧ WP x (mthV m pv qs) c2 F2 H2 fun v _ F' H' => ∀ y, RepR x F' H' H v y → Q y H') I1 ?_
  · rw [hs] at hA ⊢
    refine Calls.callWith_builtin (by show (false || (backTo pos (starEach es X.env)).any (·.1)) = false; rw [hpl] <;> rfl) (Calls.evalArgs_plain ?_)
    exact thn hA fun us s2 ⟨ys, H2, I2, rs, qs, c2, F2, g2, ra, rv, st2, w3⟩ => m_run hK hu hr I2 r1 rs g2 (rh.step st2) ra rv (w3.mono fun _ _ _ _ _ _ q y r => q y (r.old (st1.trans st2).dom))
  · by_cases hm : m = .join
    · rw [if_pos hm]
      exact ⟨c1, F1, env, g1, sl1, (WP.bind w2).mono fun qs c2 F2 H2 s2 g2 w3 ys r => ⟨qs, c2, F2, g2, r, (fun e => absurd (hm.symm.trans e) (by decide)), s2, w3⟩⟩
    · rw [if_neg hm]
      exact ⟨c1, F1, env, g1, sl1, (WP.bind w2).mono fun qs c2 F2 H2 s2 g2 w3 ys r => ⟨qs, c2, F2, g2, r.toH, fun _ => r, s2, w3⟩⟩

/-! ### isinstance -/
theorem tyS_boot (t : Ty) : ∃ n : Str, bootBuiltins n = some (.type (tyS t)) := by
  cases t
  · exact ⟨"int", by decide +kernel⟩
  · exact ⟨"str", by decide +kernel⟩
  · exact ⟨"bool", by decide +kernel⟩
  · exact ⟨"tuple", by decide +kernel⟩
  · exact ⟨"list", by decide +kernel⟩
theorem pe_isiE (hK : X.K = x.K) {t : Ty} {n nt : Str} {p pt : Pos} (hg : Gl X n) (hm : X.mg n = none) (hv : bootBuiltins n = some (.builtin "isinstance")) (hn : n ≠ "__name__") (hdb : (n == ("__debug__" : Str)) = false)
    (hgt : Gl X nt) (hmt : X.mg nt = none) (hvt : bootBuiltins nt = some (.type (tyS t))) (hnt : nt ≠ "__name__") (hdt : (nt == ("__debug__" : Str)) = false) (ns : NotStar a) (ha : PE X a (tP x ma)) :
    PE X (.Call (.Name n p) [a, .Name nt pt] [] pos) (tR x fun env => do let v ← ma env; let r ← optM (isTy v t); pure (.bl r)) := by
  have hT : PE X (.Name nt pt) (tC (.ty (tyS t))) := pe_bltn hgt hmt hvt rfl hnt hdt
  have ns2 : NotStar (.Name nt pt) := fun _ _ => rfl
  have pa : PA X [a, .Name nt pt] (tCons (tP x ma) (tCons (tC (.ty (tyS t))) tNil)) := pa_cons ha (pa_cons hT pa_nil rfl) (ns _ _)
  refine (pe_callB (call_isiE (x := x) hK t) hg hm hv pa hn hdb (ns _ _) rfl).weak fun σ H Q h => ?_
  obtain ⟨cup, F, env, g, sl, w⟩ := h
  refine ⟨cup, F, env, g, sl, (WP.bind w).mono fun v c F1 H1 s1 g1 w1 y1 r1 => ?_⟩
  obtain ⟨r, hr, w2⟩ := WP.opt (WP.bind w1) g1
  exact ⟨y1, v, r, c, F1, rfl, g1, r1, hr, w2.pure g1 _ (.inl (.bl r))⟩

/-! ### calls of defs -/
def noE : Exn → Cup → Hp → Hp → Prop := fun _ _ _ _ => False
/-- the promise of a def whose run is m -/
def spF (K : PySem.W.Frag) (m : List PV → M PV) : Sp := fun vs H Q _ => ∃ C F cup ps, Good ⟨K, H, F, C, noE⟩ cup F H ∧ RepVs K F C ps vs ∧ WP ⟨K, H, F, C, noE⟩ (m ps) cup F H fun v _ F' H' => ∀ y, RepV K F' C v y → Q y H'
theorem Good.entry {cup F H} (g : Good x cup F H) : Good ⟨x.K, H, F, x.C, noE⟩ cup F H := ⟨g.sub, Le.refl F, fun _ _ h => .inl h, fun _ _ h _ _ => h, fun _ h => h, g.cell⟩
theorem Good.back {cup cup' F H F' H'} (g : Good x cup F H) (g' : Good ⟨x.K, H, F, x.C, noE⟩ cup' F' H') (s : Step x.C F H F' H') : Good x cup' F' H' where
  sub := g'.sub
  grow := g.grow.trans s.grow
  new := fun a o h => by
    rcases s.new a o h with h | h
    · exact g.new a o h
    · exact .inr (g.dom a h)
  frame := fun b o h n t => s.frame b o (g.frame b o h n t) n t
  dom := fun b h => g.dom b (s.dom b h)
  cell := g'.cell
theorem pe_callE {k j : Nat} {f : Str} {p : Pos} {cl : List CE} {e : Expr} {es : List Expr} (hK : X.K = x.K) (hE : x.E = noE) (cal : C8.Cal X.prog X.w X.K X.mg X.base k f (spF x.K (call f)) []) (hr : Room j X.A) (hk : k ≤ j) (hg : Gl X f) (hdb : (f == ("__debug__" : Str)) = false) (ns : ∀ d ∈ e :: es, NotStar d)
    (ha : PA X (e :: es) (tAs x (evalEs call cl))) : PE X (.Call (.Name f p) (e :: es) [] pos) (tR x fun env => do let vs ← evalEs call cl env; call f vs) := by
  refine PE.weak (C8.pe_c cal hr hk hg ha hdb (ns e List.mem_cons_self es X.env) (stars_none fun d hd => ns d (List.mem_cons_of_mem _ hd))) fun σ H Q h => ?_
  obtain ⟨cup, F, env, g, sl, w⟩ := h
  refine ⟨cup, F, env, g, sl, (WP.bind w).mono fun vs c F1 H1 s1 g1 w1 ys r1 => ?_⟩
  refine (show spF x.K (call f) (ys ++ []) H1 Q C8.E0 from ?_)
  rw [List.append_nil]
  refine ⟨x.C, F1, c, vs, g1.entry, r1, ?_⟩
  unfold WP at w1 ⊢
  cases e1 : call f vs c with
  | stuck => rw [e1] at w1; exact w1
  | ex z c2 =>
    rw [e1] at w1
    intro F2 H2 s2 g2
    have := w1 F2 H2 s2 (g1.back g2 s2)
    rw [hE] at this
    exact this
  | ok v c2 =>
    rw [e1] at w1
    exact fun F2 H2 s2 g2 y r => w1 F2 H2 s2 (g1.back g2 s2) y (.inl r)
end
end EV

set_option maxRecDepth 100000
set_option maxHeartbeats 2000000
/-! EvZi: zip of any two of lists, tuples, texts. -/
namespace EV
open PySem PySem.Spec PyProof.Rows L2
/-- what is walked -/
inductive Sor where
  | lst (a : Addr) | tup (a : Addr) | txt (z : Str)
def Sor.v : Sor → V
  | .lst a => .ref a
  | .tup a => .ref a
  | .txt z => .str z
def letV (z : Str) : List V := z.cps.toList.map fun c => .str ⟨#[c]⟩
def Sor.Sq (K : PySem.W.Frag) (H : Hp) : Sor → List V → Prop
  | .lst a, xs => SqL K H a xs
  | .tup a, xs => SqT K H a xs
  | .txt z, xs => xs = letV z
def Sor.fp (it : Addr) : Sor → List Addr
  | .lst a => [it, a]
  | .tup a => [it, a]
  | .txt _ => [it]
def Sor.at (it : Addr) : Sor → Nat → Heap → Prop
  | .lst a, i, h => h.IsListIter it a i
  | .tup a, i, h => h.IsTupleIter it a i
  | .txt z, i, h => ∃ t, h.IsStrIter it (strIterType z) z t i
def Sor.ne (it : Addr) : Sor → Prop
  | .lst a => a ≠ it
  | .tup a => a ≠ it
  | .txt _ => True
theorem Sor.keep {it : Addr} {i : Nat} {h h' : Heap} : ∀ {q : Sor}, q.at it i h → (∀ o, h.get? it = some o → h'.get? it = some o) → q.at it i h'
  | .lst a, x, k => Heap.IsListIter.at x k
  | .tup a, x, k => Heap.IsTupleIter.at x k
  | .txt z, ⟨t, o, ho, r⟩, k => ⟨t, o, k o ho, r⟩
theorem Sor.obj {it : Addr} {i : Nat} {h : Heap} : ∀ {q : Sor}, q.at it i h → ∃ o, h.get? it = some o ∧ ∀ v, o.data ≠ .cell v
  | .lst a, ⟨o, ho, _, d⟩ => ⟨o, ho, fun v q => by rw [d] at q; cases q⟩
  | .tup a, ⟨o, ho, _, d⟩ => ⟨o, ho, fun v q => by rw [d] at q; cases q⟩
  | .txt z, ⟨t, o, ho, _, d⟩ => ⟨o, ho, fun v q => by rw [d] at q; cases q⟩
theorem vals_getB {xs : List V} {us : List Value} {j : Nat} {u : Value} (r : Vals xs us) (h : us[j]? = some u) : ∃ x, xs[j]? = some x ∧ RelV x u := by
  have hj : j < xs.length := by rw [r.length]; exact (List.getElem?_eq_some_iff.mp h).1
  obtain ⟨w, h1, h2⟩ := r.get (List.getElem?_eq_getElem hj)
  rw [h] at h1
  cases h1
  exact ⟨_, List.getElem?_eq_getElem hj, h2⟩
section
variable {X : Cx} {pins : List (Addr × Obj)} {σ : L2.St} {H : Hp} {s : Shared}
theorem Sor.draw (I : Inv X pins σ H s) (hc : X.calm = true) (q : Sor) (it : Addr) (hn : q.ne it) {xs : List V} (hq : q.Sq X.K H xs) {i : Nat} (ha : q.at it i s.heap) :
    ∃ (P : Nat → Value → Prop) (St : Nat → Heap → Prop), PySem.Draws X.prog X.w X.A.in1 it (q.fp it) xs.length P St ∧ (∀ j u, P j u → ∃ x, xs[j]? = some x ∧ RelV x u) ∧ St i s.heap ∧ ∀ j h, St j h → q.at it j h := by
  cases q with
  | lst a =>
    obtain ⟨its, vals, p, _⟩ := I.list hq
    have D := PySem.Draws.list (prog := X.prog) (w := X.w) (A := X.A.in1) (I.ok.hd hc) it a hn its.toArray
    rw [List.size_toArray, ← vals.length] at D
    refine ⟨_, _, D, fun j u h => ?_, ⟨ha, p.isList⟩, fun j h z => z.1⟩
    obtain ⟨x, hx, r⟩ := vals_getB vals (show its[j]? = some u by simpa using h)
    exact ⟨x, hx, r⟩
  | tup a =>
    obtain ⟨its, vals, p, _⟩ := I.tuple hq
    have D := PySem.Draws.tuple (prog := X.prog) (w := X.w) (A := X.A.in1) (I.ok.hd hc) it a hn its.toArray
    rw [List.size_toArray, ← vals.length] at D
    refine ⟨_, _, D, fun j u h => ?_, ⟨ha, p⟩, fun j h z => z.1⟩
    obtain ⟨x, hx, r⟩ := vals_getB vals (show its[j]? = some u by simpa using h)
    exact ⟨x, hx, r⟩
  | txt z =>
    obtain ⟨t, ha⟩ := ha
    have hq : xs = letV z := hq
    subst hq
    have D := PySem.Draws.text (prog := X.prog) (w := X.w) (A := X.A.in1) (I.ok.hd hc) it z t
    have e : z.cps.size = (letV z).length := by unfold letV; rw [List.length_map, Array.length_toList]
    rw [e] at D
    refine ⟨_, _, D, fun j u h => ?_, ha, fun j h z => ⟨t, z⟩⟩
    obtain ⟨c, tk, h1, rfl⟩ := h
    refine ⟨.str ⟨#[c]⟩, ?_, tk, rfl⟩
    unfold letV
    rw [List.getElem?_map, Array.getElem?_toList, h1]
    rfl
theorem Sor.inj (I : Inv X pins σ H s) : ∀ {q : Sor} {xs ys : List V}, q.Sq X.K H xs → q.Sq X.K H ys → xs = ys
  | .lst _, _, _, a, b => I.list_inj a b
  | .tup _, _, _, a, b => I.tuple_inj a b
  | .txt _, _, _, a, b => Eq.trans (show _ = _ from a) (show _ = _ from b).symm
end
/-- the two as they stand at each turn, their items in new pairs -/
def ItzG (K : PySem.W.Frag) (p q : Sor) (k1 k2 : Nat) : It :=
  ⟨fun i H => ∃ (xs ys : List V) (x y : V), p.Sq K H xs ∧ q.Sq K H ys ∧ xs.length = k1 ∧ ys.length = k2 ∧ xs[i]? = some x ∧ ys[i]? = some y,
    fun i H v H' => ∃ T x y, v = .ref T ∧ H T = none ∧ H' = upd H T (.tup [x, y]) ∧ (∀ xs, p.Sq K H xs → xs[i]? = some x) ∧ ∀ ys, q.Sq K H ys → ys[i]? = some y,
    fun i H => ∃ xs ys : List V, p.Sq K H xs ∧ q.Sq K H ys ∧ xs.length = k1 ∧ ys.length = k2 ∧ (k1 ≤ i ∨ k2 ≤ i)⟩
theorem turn_zipG {P : Program} {w : World} {K : PySem.W.Frag} {elts : List Expr} {kk : Nat} {tpos : Pos} {p q : Sor} {z TI TO i1 i2 : Addr} (D : PySem.ZipSep2 z TI TO i1 i2 (p.fp i1) (q.fp i2)) {k1 k2 : Nat} (n1 : p.ne i1) (n2 : q.ne i2) :
    Turn P w K (.Tuple elts kk tpos) (ItzG K p q k1 k2) [z, TI, TO, i1, i2] z (fun i h => IsZip h z TI TO .none ∧ PySem.IsTupOf2 h TI (.ref i1) (.ref i2) ∧ (∃ x y, PySem.IsTupOf2 h TO x y) ∧ p.at i1 i h ∧ q.at i2 i h ∧ i ≤ k1 ∧ i ≤ k2) where
  mem := by simp
  obj := fun i h st c hcm => by
    obtain ⟨a1, a2, ⟨x, y, a3⟩, a4, a5, b4, b5⟩ := st
    have e' : c = z ∨ c = TI ∨ c = TO ∨ c = i1 ∨ c = i2 := by simpa using hcm
    rcases e' with r | r | r | r | r
    · rw [r]; exact ⟨_, a1, fun v e => nomatch e⟩
    · rw [r]; exact ⟨_, a2, fun v e => nomatch e⟩
    · rw [r]; exact ⟨_, a3, fun v e => nomatch e⟩
    · rw [r]; exact Sor.obj (q := p) a4
    · rw [r]; exact Sor.obj (q := q) a5
  keep := fun i h h' st k => by
    obtain ⟨a1, a2, ⟨x, y, a3⟩, a4, a5, b4, b5⟩ := st
    exact ⟨k z (by simp) _ a1, k TI (by simp) _ a2, ⟨x, y, k TO (by simp) _ a3⟩, Sor.keep (q := p) a4 fun o e => k i1 (by simp) o e, Sor.keep (q := q) a5 fun o e => k i2 (by simp) o e, b4, b5⟩
  item := by
    intro X e1 e2 e3 hc i pins s σ H E I foot st hg
    subst e1 e2 e3
    obtain ⟨a1, a2, ⟨x0, y0, a3⟩, a4, a5, b4, b5⟩ := st
    obtain ⟨xs, ys, x, y, hqx, hqy, z1, z2, hx, hy⟩ := hg
    obtain ⟨P1, S1, D1, r1, st1, b1⟩ := Sor.draw I hc p i1 n1 hqx a4
    obtain ⟨P2, S2, D2, r2, st2, b2⟩ := Sor.draw I hc q i2 n2 hqy a5
    have lx := (List.getElem?_eq_some_iff.mp hx).1
    have ly := (List.getElem?_eq_some_iff.mp hy).1
    have zl : z < s.heap.objs.size := Heap.lt_size a1
    refine PySem.wpAny_pyNext_zipD2_item D D1 D2 a1 a2 a3 st1 st2 lx ly fun u1 u2 h' tk q1 q2 a1' a3' st1' st2' new sz k => ?_
    obtain ⟨x', hx', ru1⟩ := r1 i u1 q1
    obtain ⟨y', hy', ru2⟩ := r2 i u2 q2
    rw [hx] at hx'
    cases hx'
    rw [hy] at hy'
    cases hy'
    refine ⟨_, rfl, wpAny_letOwnedTupleGo_zip (s := { s with heap := h', toks := tk }) a1' fun h2 a1'' sb => ?_⟩
    have new2 : h2.get? s.heap.objs.size = some { cls := .type "tuple", data := .seq #[u1, u2] } := (sb.2 _ (Nat.ne_of_gt zl)).trans new
    have I1 : Inv X pins σ (upd H s.heap.objs.size (.tup [x, y])) { s with heap := h2, toks := tk } := by
      refine I.turnedNew (ch := [z, TI, TO, i1, i2]) (fun c o hb e => ?_) foot (Nat.le_refl _) ⟨by show 2 ≤ sizeLine; decide, [u1, u2], .cons ru1 (.cons ru2 .nil), ⟨_, new2, rfl, _, rfl⟩⟩
      have m1 : c ≠ z := fun r => hb (by simp [r])
      exact (sb.2 c m1).trans (k c o m1 (fun r => hb (by simp [r])) (fun r => hb (by simp [r])) (fun r => hb (by simp [r])) e)
    have lt5 : ∀ c, c ∈ [z, TI, TO, i1, i2] → c < s.heap.objs.size := fun c hcm => by
      have e' : c = z ∨ c = TI ∨ c = TO ∨ c = i1 ∨ c = i2 := by simpa using hcm
      rcases e' with r | r | r | r | r
      · rw [r]; exact zl
      · rw [r]; exact Heap.lt_size a2
      · rw [r]; exact Heap.lt_size a3
      · rw [r]; obtain ⟨o, ho, _⟩ := Sor.obj (q := p) a4; exact Heap.lt_size ho
      · rw [r]; obtain ⟨o, ho, _⟩ := Sor.obj (q := q) a5; exact Heap.lt_size ho
    refine ⟨.ref s.heap.objs.size, _, I1, rfl, ⟨_, x, y, rfl, I.hok.fresh (Nat.le_refl _), rfl, fun l hl => by rw [Sor.inj I hl hqx]; exact hx, fun l hl => by rw [Sor.inj I hl hqy]; exact hy⟩, ⟨a1'', ?_, ⟨u1, u2, ?_⟩, ?_, ?_, by omega, by omega⟩, fun c hcm => ?_⟩
    · exact (sb.2 _ D.TIz).trans (k _ _ D.TIz D.TITO D.TIi1 D.TIi2 a2)
    · exact (sb.2 _ D.TOz).trans a3'
    · exact Sor.keep (q := p) (b1 _ _ st1') fun o e => (sb.2 _ (Ne.symm D.zi1)).trans e
    · exact Sor.keep (q := q) (b2 _ _ st2') fun o e => (sb.2 _ (Ne.symm D.zi2)).trans e
    · rw [upd_ne (Nat.ne_of_lt (lt5 c hcm))]
      exact (foot c hcm).1
  done := by
    intro X e1 e2 e3 hc i pins s σ H E I foot st hg
    subst e1 e2 e3
    obtain ⟨a1, a2, ⟨x0, y0, a3⟩, a4, a5, b4, b5⟩ := st
    obtain ⟨xs, ys, hqx, hqy, z1, z2, hend⟩ := hg
    obtain ⟨P1, S1, D1, r1, st1, b1⟩ := Sor.draw I hc p i1 n1 hqx a4
    obtain ⟨P2, S2, D2, r2, st2, b2⟩ := Sor.draw I hc q i2 n2 hqy a5
    exact PySem.wpAny_pyNext_zipD2_end D D1 D2 a1 a2 a3 st1 st2 (by omega) (by omega) (by omega) fun h' tk k => ⟨rfl, I.turnedL (t' := tk) (ch := [z, TI, TO, i1, i2]) (fun c o hb e =>
      k c o (fun r => hb (by simp [r])) (fun r => hb (by simp [r])) (fun r => hb (by simp [r])) (fun r => hb (by simp [r])) e) foot⟩
  self := fun A i s Q E st h => wpAny_pyIter_zip st.1 h
/-- the walk begins -/
structure Starts (p : Sor) (v : Value) (it : Addr) (o : Obj) (Hh : Heap → Prop) : Prop where
  b : PySem.Begins v o Hh
  at0 : ∀ h : Heap, h.get? it = some o → p.at it 0 h
def iZipG (K : PySem.W.Frag) (ta : TA) : TI := fun σ H R => ta σ H fun vs H1 => ∃ (p q : Sor) (xs ys : List V), vs = [p.v, q.v] ∧ p.Sq K H1 xs ∧ q.Sq K H1 ys ∧ R (ItzG K p q xs.length ys.length) H1
theorem Sor.starts {X : Cx} {pins σ H s} (I : Inv X pins σ H s) (p : Sor) {xs : List V} (hq : p.Sq X.K H xs) {v : Value} (r : RelV p.v v) : ∃ (o : Obj) (Hh : Heap → Prop), PySem.Begins v o Hh ∧ Hh s.heap ∧ (∀ (it : Addr) (h : Heap), h.get? it = some o → p.at it 0 h) ∧ ∀ it, s.heap.objs.size ≤ it → p.ne it ∧ ∀ b ∈ p.fp it, b = it ∨ b < s.heap.objs.size := by
  cases p with
  | lst a =>
    cases r
    obtain ⟨its, vals, there, _⟩ := I.list hq
    have lt : a < s.heap.objs.size := there.lt
    refine ⟨_, _, PySem.begins_list a its.toArray, there.isList, fun it h e => ⟨_, e, rfl, rfl⟩, fun it hi => ⟨Nat.ne_of_lt (Nat.lt_of_lt_of_le lt hi), fun b hb => ?_⟩⟩
    rcases (show b = it ∨ b = a by simpa [Sor.fp] using hb) with e | e
    · exact .inl e
    · exact .inr (by rw [e]; exact lt)
  | tup a =>
    cases r
    obtain ⟨its, vals, there, _⟩ := I.tuple hq
    have lt : a < s.heap.objs.size := by obtain ⟨_, q, _⟩ := there; exact Heap.lt_size q
    refine ⟨_, _, PySem.begins_tuple a its.toArray, there, fun it h e => ⟨_, e, rfl, rfl⟩, fun it hi => ⟨Nat.ne_of_lt (Nat.lt_of_lt_of_le lt hi), fun b hb => ?_⟩⟩
    rcases (show b = it ∨ b = a by simpa [Sor.fp] using hb) with e | e
    · exact .inl e
    · exact .inr (by rw [e]; exact lt)
  | txt z =>
    obtain ⟨t, rfl⟩ := r
    refine ⟨_, _, PySem.begins_text z t, trivial, fun it h e => ⟨t, _, e, rfl, rfl⟩, fun it hi => ⟨trivial, fun b hb => .inl (by simpa [Sor.fp] using hb)⟩⟩
theorem sep_of {N : Nat} {f1 f2 : List Addr} (m1 : (N : Nat) ∈ f1) (m2 : (N + 1 : Nat) ∈ f2) (o1 : ∀ b ∈ f1, b = N ∨ b < N) (o2 : ∀ b ∈ f2, b = (N + 1 : Nat) ∨ b < N) : PySem.ZipSep2 (N + 4 : Nat) (N + 2 : Nat) (N + 3 : Nat) (N : Nat) (N + 1 : Nat) f1 f2 := by
  have out1 : ∀ c : Nat, N < c → c ∉ f1 := fun c hc z => by
    rcases o1 c z with e | e
    · have e : (c : Nat) = N := e
      omega
    · have e : (c : Nat) < N := e
      omega
  have out2 : ∀ c : Nat, N ≤ c → c ≠ N + 1 → c ∉ f2 := fun c hc hn z => by
    rcases o2 c z with e | e
    · have e : (c : Nat) = N + 1 := e
      omega
    · have e : (c : Nat) < N := e
      omega
  exact { TIz := show (N + 2 : Nat) ≠ N + 4 by omega, TOz := show (N + 3 : Nat) ≠ N + 4 by omega, TITO := show (N + 2 : Nat) ≠ N + 3 by omega, TIi1 := show (N + 2 : Nat) ≠ N by omega, mem1 := m1, zf1 := out1 _ (by omega), Tf1 := out1 _ (by omega), TIi2 := show (N + 2 : Nat) ≠ N + 1 by omega, mem2 := m2, zf2 := out2 _ (by omega) (by omega), Tf2 := out2 _ (by omega) (by omega), sep1_2 := out2 _ (Nat.le_refl _) (by omega), sep2_1 := out1 _ (by omega) }
theorem pi_zipX {X : Cx} {e e2 : Expr} {ta : TA} {p pos tpos : Pos} {elts : List Expr} {kk : Nat} (hg : Gl X "zip") (hm : X.mg "zip" = none) (ha : PA X [e, e2] ta)
    (hs : starEach [e, e2] X.env = (false, eval e X.env) :: starEach [e2] X.env) (hpl : (backTo pos (starEach [e2] X.env)).any (·.1) = false) :
    PI X (.Tuple elts kk tpos) (.Call (.Name "zip" p) [e, e2] [] pos) (iZipG X.K ta) := by
  refine ⟨fun pins s σ H R I h => ?_⟩
  refine Call_ (ld_blt I hg hm PyProof.Rows.boot_zip (PyProof.Rows.callWith_type1 (thn (ha.run pos pins s σ H _ I h) fun us s1 q1 => ?_) hs hpl))
  obtain ⟨vs, H1, I1, r1, q, q', xs, ys, ex, hx, hy, w⟩ := q1
  subst ex
  cases r1 with
  | cons ra rr => cases rr with
    | cons rb rr =>
      cases rr
      obtain ⟨o1, K1, B1, k1, at1, f1⟩ := Sor.starts I1 q hx ra
      obtain ⟨o2, K2, B2, k2, at2, f2⟩ := Sor.starts I1 q' hy rb
      refine PySem.zip_begins2 B1 B2 k1 k2 fun h' c1 c2 c3 c4 c5 sz keep => wpAny_pyIter_zip c1 ?_
      have I2 : Inv X pins σ H1 { s1 with heap := h' } := I1.kept (t' := s1.toks) keep
      have young : ∀ c, c ∈ [s1.heap.objs.size + 4, s1.heap.objs.size + 2, s1.heap.objs.size + 3, s1.heap.objs.size, s1.heap.objs.size + 1] → FpOk X pins H1 c := fun c hcm => by
        have hle : s1.heap.objs.size ≤ c := by
          have e' : c = s1.heap.objs.size + 4 ∨ c = s1.heap.objs.size + 2 ∨ c = s1.heap.objs.size + 3 ∨ c = s1.heap.objs.size ∨ c = s1.heap.objs.size + 1 := by simpa using hcm
          rcases e' with z | z | z | z | z <;> (rw [z]; omega)
        exact I1.fpOk hle (I1.hok.fresh hle)
      have g1 := f1 s1.heap.objs.size (Nat.le_refl _)
      have g2 := f2 (s1.heap.objs.size + 1) (Nat.le_succ _)
      have S := sep_of (N := s1.heap.objs.size) (f1 := q.fp s1.heap.objs.size) (f2 := q'.fp (s1.heap.objs.size + 1)) (by cases q <;> simp [Sor.fp]) (by cases q' <;> simp [Sor.fp]) g1.2 fun b hb => g2.2 b hb
      exact ⟨s1.heap.objs.size + 4, [s1.heap.objs.size + 4, s1.heap.objs.size + 2, s1.heap.objs.size + 3, s1.heap.objs.size, s1.heap.objs.size + 1], _, _, H1, rfl, I2, turn_zipG S g1.1 g2.1, ⟨c1, c2, ⟨_, _, c3⟩, at1 _ _ c4, at2 _ _ c5, Nat.zero_le _, Nat.zero_le _⟩, young, w⟩
end EV

set_option maxRecDepth 100000
set_option maxHeartbeats 2000000
/-! EvE4: targets, iterables. -/
namespace EV
open PySem PySem.Spec PyProof.Rows L2

/-! ### a fixed base -/
section
variable {x : Fix} {α β : Type} {cup : Cup} {F H : Hp}
theorem WP.bindB {m : M α} {f : α → M β} {P : β → Cup → Hp → Hp → Prop} (h : WP x (m >>= f) cup F H P) : WP x m cup F H fun v c' _ _ => WP x (f v) c' F H P := by
  unfold WP at h ⊢
  cases e : m cup with
  | stuck => rw [bind_stuck e] at h; exact h
  | ex z c' => rw [bind_ex e] at h; exact h
  | ok v c' =>
    rw [bind_ok e] at h
    intro _ _ _ _
    show WP x (f v) c' F H P
    unfold WP
    exact h
theorem WP.later {m : M α} {P : α → Cup → Hp → Hp → Prop} {F0 H0 : Hp} (h : WP x m cup F0 H0 P) (s : Step x.C F0 H0 F H) : WP x m cup F H P := by
  unfold WP at h ⊢
  cases e : m cup with
  | stuck => rw [e] at h; exact h
  | ex z c' => rw [e] at h; exact fun F' H' s' g' => h F' H' (s.trans s') g'
  | ok v c' => rw [e] at h; exact fun F' H' s' g' => h F' H' (s.trans s') g'
/-- a run whose end is known -/
theorem WP.optB {o : Option α} {f : α → M β} {P : β → Cup → Hp → Hp → Prop} (h : WP x (optM o >>= f) cup F H P) : ∃ v, o = some v ∧ WP x (f v) cup F H P := by
  cases o with
  | none => exact h.elim
  | some v => exact ⟨v, rfl, h⟩
theorem WP.pureB {v : α} {P : α → Cup → Hp → Hp → Prop} {F' H' : Hp} (h : WP x (Pure.pure v : M α) cup F H P) (s : Step x.C F H F' H') (g : Good x cup F' H') : P v cup F' H' := h F' H' s g
end

/-! ### targets -/
theorem SlotOk.no {x : Fix} {F H : Hp} {s : Option (Option V)} : SlotOk x F H none s := trivial
theorem Slots.setV {x : Fix} {F H : Hp} {σ : L2.St} {env : Ev} (h : Slots x F H σ env) (i : Nat) {v : PV} {y : V} (r : RepV x.K F x.C v y) : Slots x F H (σ.set i (some y)) (env.set i (.val v)) where
  len := by
    rw [List.length_set, List.length_set]
    exact h.len
  ok := fun j => by
    have l := h.len
    show SlotOk x F H ((env.set i (.val v))[j]?) ((List.set (show List (Option V) from σ) i (some y))[j]?)
    by_cases e : i = j
    · subst e
      by_cases hi : i < env.length
      · rw [List.getElem?_set_self hi, List.getElem?_set_self (by rw [l]; exact hi)]
        exact ⟨y, rfl, r⟩
      · rw [List.getElem?_eq_none (by rw [List.length_set]; omega)]
        trivial
    · rw [List.getElem?_set_ne e, List.getElem?_set_ne e]
      exact h.ok j
  sep := fun j k a b c h1 h2 h3 h4 => by
    have e1 : i ≠ j := fun e => by
      subst e
      by_cases hi : i < env.length
      · rw [List.getElem?_set_self hi] at h1; cases h1
      · rw [List.getElem?_eq_none (by rw [List.length_set]; omega)] at h1; cases h1
    have e2 : i ≠ k := fun e => by
      subst e
      by_cases hi : i < env.length
      · rw [List.getElem?_set_self hi] at h2; cases h2
      · rw [List.getElem?_eq_none (by rw [List.length_set]; omega)] at h2; cases h2
    rw [List.getElem?_set_ne e1] at h1
    rw [List.getElem?_set_ne e2] at h2
    have h3 : (List.set (show List (Option V) from σ) i (some y))[j]? = some (some (.ref c)) := h3
    have h4 : (List.set (show List (Option V) from σ) i (some y))[k]? = some (some (.ref c)) := h4
    rw [List.getElem?_set_ne e1] at h3
    rw [List.getElem?_set_ne e2] at h4
    exact h.sep j k a b c h1 h2 h3 h4
theorem Slots.setNo {x : Fix} {F H : Hp} {σ : L2.St} {env : Ev} (h : Slots x F H σ env) (i : Nat) : Slots x F H (σ.set i none) (env.set i .no) where
  len := by
    rw [List.length_set, List.length_set]
    exact h.len
  ok := fun j => by
    have l := h.len
    show SlotOk x F H ((env.set i .no)[j]?) ((List.set (show List (Option V) from σ) i none)[j]?)
    by_cases e : i = j
    · subst e
      by_cases hi : i < env.length
      · rw [List.getElem?_set_self hi]; trivial
      · rw [List.getElem?_eq_none (by rw [List.length_set]; omega)]; trivial
    · rw [List.getElem?_set_ne e, List.getElem?_set_ne e]
      exact h.ok j
  sep := fun j k a b c h1 h2 h3 h4 => by
    have e1 : i ≠ j := fun e => by
      subst e
      by_cases hi : i < env.length
      · rw [List.getElem?_set_self hi] at h1; cases h1
      · rw [List.getElem?_eq_none (by rw [List.length_set]; omega)] at h1; cases h1
    have e2 : i ≠ k := fun e => by
      subst e
      by_cases hi : i < env.length
      · rw [List.getElem?_set_self hi] at h2; cases h2
      · rw [List.getElem?_eq_none (by rw [List.length_set]; omega)] at h2; cases h2
    rw [List.getElem?_set_ne e1] at h1
    rw [List.getElem?_set_ne e2] at h2
    have h3 : (List.set (show List (Option V) from σ) i none)[j]? = some (some (.ref c)) := h3
    have h4 : (List.set (show List (Option V) from σ) i none)[k]? = some (some (.ref c)) := h4
    rw [List.getElem?_set_ne e1] at h3
    rw [List.getElem?_set_ne e2] at h4
    exact h.sep j k a b c h1 h2 h3 h4
theorem Slots.wipe {x : Fix} {F H : Hp} {σ : L2.St} {env : Ev} (h : Slots x F H σ env) : ∀ vs : List Nat, Slots x F H (L2.wipe σ vs) (wipeE env vs)
  | [] => h
  | v :: vs => (Slots.wipe h vs).setNo v
/-- σ' is σ but for these -/
def SameBut (vs : List Nat) (σ σ' : L2.St) : Prop := L2.wipe σ' vs = L2.wipe σ vs
theorem wipe_get (σ : L2.St) (i : Nat) : ∀ vs : List Nat, (show List (Option V) from L2.wipe σ vs)[i]? = if i ∈ vs then (if i < (show List (Option V) from σ).length then some none else none) else (show List (Option V) from σ)[i]?
  | [] => by simp [L2.wipe]
  | v :: vs => by
    show (List.set (show List (Option V) from L2.wipe σ vs) v none)[i]? = _
    have ih := wipe_get σ i vs
    have hl : (show List (Option V) from L2.wipe σ vs).length = (show List (Option V) from σ).length := wipe_length σ vs
    by_cases e : v = i
    · subst e
      rw [if_pos List.mem_cons_self]
      by_cases hi : v < (show List (Option V) from σ).length
      · rw [List.getElem?_set_self (by rw [hl]; exact hi), if_pos hi]
      · rw [List.getElem?_eq_none (by rw [List.length_set, hl]; omega), if_neg hi]
    · rw [List.getElem?_set_ne e, ih]
      by_cases hm : i ∈ vs
      · rw [if_pos hm, if_pos (List.mem_cons_of_mem _ hm)]
      · rw [if_neg hm, if_neg (by simp only [List.mem_cons, not_or]; exact ⟨fun q => e q.symm, hm⟩)]
theorem wipe_set {σ : L2.St} {vs : List Nat} {i : Nat} (h : i ∈ vs) (y : Option V) : L2.wipe (σ.set i y) vs = L2.wipe σ vs := by
  refine List.ext_getElem? fun j => ?_
  have a := wipe_get (σ.set i y) j vs
  have b := wipe_get σ j vs
  refine a.trans (Eq.trans ?_ b.symm)
  have hl : (show List (Option V) from σ.set i y).length = (show List (Option V) from σ).length := List.length_set ..
  by_cases hm : j ∈ vs
  · rw [if_pos hm, if_pos hm, hl]
  · rw [if_neg hm, if_neg hm]
    exact List.getElem?_set_ne (fun e => hm (by rw [← e]; exact h))
theorem wipe_wipe (σ : L2.St) (vs : List Nat) : L2.wipe (L2.wipe σ vs) vs = L2.wipe σ vs := by
  refine List.ext_getElem? fun j => ?_
  have a := wipe_get (L2.wipe σ vs) j vs
  have b := wipe_get σ j vs
  refine a.trans (Eq.trans ?_ b.symm)
  have hl : (show List (Option V) from L2.wipe σ vs).length = (show List (Option V) from σ).length := wipe_length σ vs
  by_cases hm : j ∈ vs
  · rw [if_pos hm, if_pos hm, hl]
  · rw [if_neg hm, if_neg hm, b, if_neg hm]
theorem wipe_sub {σ σ' : L2.St} {vs ws : List Nat} (h : L2.wipe σ' vs = L2.wipe σ vs) (hs : ∀ i ∈ vs, i ∈ ws) (hl : (show List (Option V) from σ').length = (show List (Option V) from σ).length) : L2.wipe σ' ws = L2.wipe σ ws := by
  refine List.ext_getElem? fun j => ?_
  have a := wipe_get σ' j ws
  have b := wipe_get σ j ws
  refine a.trans (Eq.trans ?_ b.symm)
  by_cases hm : j ∈ ws
  · rw [if_pos hm, if_pos hm, hl]
  · rw [if_neg hm, if_neg hm]
    have hv : j ∉ vs := fun q => hm (hs j q)
    have c := wipe_get σ' j vs
    have d := wipe_get σ j vs
    rw [if_neg hv] at c d
    rw [← c, ← d, h]
/-- the reading of a target -/
def gE (x : Fix) (t : CT) : TG := fun v σ H Q => ∃ pv cup F env env', Good x cup F H ∧ Slots x F H σ env ∧ RepV x.K F x.C pv v ∧ asgO t pv env = some env' ∧ ∀ σ', Slots x F H σ' env' → (∀ vs, (∀ i ∈ tIx t, i ∈ vs) → L2.wipe σ' vs = L2.wipe σ vs) → Q σ' H
def gEs (x : Fix) (t : List CT) : TGs := fun v σ H Q => ∃ pv cup F env env', Good x cup F H ∧ Slots x F H σ env ∧ RepVs x.K F x.C pv v ∧ asgOs t pv env = some env' ∧ ∀ σ', Slots x F H σ' env' → (∀ vs, (∀ i ∈ tIxs t, i ∈ vs) → L2.wipe σ' vs = L2.wipe σ vs) → Q σ' H
theorem PG.weak {X : Cx} {e : Expr} {t t' : TG} (h : PG X e t) (w : ∀ v σ H Q, t' v σ H Q → t v σ H Q) : PG X e t' := ⟨fun pins s σ H v u Q I r q => h.run pins s σ H v u Q I r (w v σ H Q q)⟩
theorem PGs.weak {X : Cx} {e : List Expr} {t t' : TGs} (h : PGs X e t) (w : ∀ v σ H Q, t' v σ H Q → t v σ H Q) : PGs X e t' := ⟨fun pins s σ H v u Q I r q => h.run pins s σ H v u Q I r (w v σ H Q q)⟩
/-- names that may be stored -/
def MaySt (X : Cx) (sc : Scope) : Prop := ∀ y, isStore sc y = true → Loc X.env.scope y ∧ (X.fn y = true ∨ X.env.scope.names.lookup y = some .local)
theorem ixIn_get {y : Str} : ∀ {N : List Str} {i : Nat}, ixIn y N = some i → N[i]? = some y
  | [], i, h => by cases h
  | a :: N, i, h => by
    unfold ixIn at h
    by_cases e : a = y
    · rw [if_pos e] at h; cases h; simp [e]
    · rw [if_neg e] at h
      obtain ⟨j, h1, h2⟩ := Option.map_eq_some_iff.mp h
      subst h2
      simpa using ixIn_get h1
theorem allSome_cons {α : Type} {o : Option α} {r : List (Option α)} {l : List α} (h : allSome (o :: r) = some l) : ∃ a l', o = some a ∧ allSome r = some l' ∧ l = a :: l' := by
  cases o with
  | none => cases h
  | some a =>
    obtain ⟨l', h1, h2⟩ := Option.map_eq_some_iff.mp (show (allSome r).map (a :: ·) = some l from h)
    exact ⟨a, l', rfl, h1, h2.symm⟩
theorem trT_ns {n : Nat} {N : List Str} {sc : Scope} {e : Expr} {t : CT} (h : trT n N sc e = some t) : ∀ es env, (assignEach (e :: es) env) = (false, assign e env) :: assignEach es env := by
  cases n with
  | zero => cases h
  | succ n =>
    cases e <;> first
      | (intro es env; rfl)
      | cases h
theorem trTs_ns {n : Nat} {N : List Str} {sc : Scope} {env : Env} : ∀ {es : List Expr} {l : List CT}, allSome (es.map (trT n N sc)) = some l → (assignEach es env).length = l.length ∧ (assignEach es env).findIdx? (·.1) = none
  | [], l, h => by cases h; exact ⟨rfl, rfl⟩
  | e :: es, l, h => by
    obtain ⟨a, l', h1, h2, e1⟩ := allSome_cons h
    subst e1
    obtain ⟨a1, a2⟩ := trTs_ns (env := env) h2
    rw [trT_ns h1 es env]
    refine ⟨congrArg (· + 1) a1, ?_⟩
    rw [List.findIdx?_cons, a2]
    rfl
section
variable {X : Cx} {x : Fix}
theorem asgOs_len : ∀ {ts : List CT} {vs : List PV} {env env' : Ev}, asgOs ts vs env = some env' → vs.length = ts.length
  | [], [], _, _, _ => rfl
  | [], _ :: _, _, _, h => by simp [asgOs] at h
  | _ :: _, [], _, _, h => by simp [asgOs] at h
  | t :: ts, v :: vs, env, env', h => by
    unfold asgOs at h
    obtain ⟨e1, h1, h2⟩ := Option.bind_eq_some_iff.mp h
    exact congrArg (· + 1) (asgOs_len h2)
theorem pgs_ok {N : List Str} {sc : Scope} {n : Nat} (ih : ∀ e t, trT n N sc e = some t → PG X e (gE x t)) : ∀ {es : List Expr} {ts : List CT}, allSome (es.map (trT n N sc)) = some ts → PGs X es (gEs x ts)
  | [], ts, h => by
    cases h
    refine PGs.weak pgs_nil fun v σ H Q h => ?_
    obtain ⟨pv, cup, F, env, env', g, sl, r, e, q⟩ := h
    cases pv with
    | nil => cases r; cases e; exact ⟨rfl, q σ sl fun _ _ => rfl⟩
    | cons _ _ => simp [asgOs] at e
  | e :: es, ts, h => by
    obtain ⟨t, ts', h1, h2, e1⟩ := allSome_cons h
    subst e1
    refine PGs.weak (pgs_cons (ih e t h1) (pgs_ok ih h2) (by rw [trT_ns h1 es X.env]; rfl)) fun v σ H Q h => ?_
    obtain ⟨pv, cup, F, env, env', g, sl, r, e, q⟩ := h
    cases r with
    | nil => simp [asgOs] at e
    | cons r rr =>
      unfold asgOs at e
      obtain ⟨env1, e1, e2⟩ := Option.bind_eq_some_iff.mp e
      refine ⟨_, _, rfl, _, cup, F, env, env1, g, sl, r, e1, fun σ1 sl1 w1 => ⟨_, cup, F, env1, env', g, sl1, rr, e2, fun σ2 sl2 w2 => q σ2 sl2 fun vs hv => ?_⟩⟩
      rw [w2 vs fun i hi => hv i (List.mem_append_right _ hi), w1 vs fun i hi => hv i (List.mem_append_left _ hi)]
/-- a tuple, or a list, is unpacked -/
theorem pg_seq {es : List Expr} {k : Nat} {t : TGs} {n : Nat} (hc : X.calm = true) (h : PGs X es t) (hn : (assignEach es X.env).length = n) (hst : (assignEach es X.env).findIdx? (·.1) = none) :
    PG X (.Tuple es k pos) fun v σ H Q => gTup X.K n t v σ H Q ∨ gLst X.K n t v σ H Q :=
  ⟨fun pins s σ H v u Q J r q => q.elim ((pg_tup hc h hn hst).run pins s σ H v u Q J r) ((pg_lst hc h hn hst).run pins s σ H v u Q J r)⟩
theorem pg_ok (hK : X.K = x.K) (hc : X.calm = true) {N : List Str} (hN : X.N = N) (nd : N.Nodup) {sc : Scope} (ms : MaySt X sc) : ∀ (n : Nat) (e : Expr) (t : CT), trT n N sc e = some t → PG X e (gE x t)
  | 0, _, _, h => by cases h
  | n + 1, e, t, h => by
    cases e with
    | Name y p =>
      have h : (if isStore sc y then (ixIn y N).map CT.nm else none) = some t := h
      by_cases hs : isStore sc y = true
      · rw [if_pos hs] at h
        obtain ⟨i, h1, h2⟩ := Option.map_eq_some_iff.mp h
        subst h2
        obtain ⟨m1, m2⟩ := ms y hs
        refine PG.weak (pg_name (by rw [hN]; exact nd) (by rw [hN]; exact ixIn_get h1) m1 m2) fun v σ H Q h => ?_
        obtain ⟨pv, cup, F, env, env', g, sl, r, e, q⟩ := h
        cases e
        exact q _ (sl.setV i r) fun vs hv => wipe_set (hv i (by simp [tIx])) _
      · rw [if_neg hs] at h; cases h
    | Tuple es k p =>
      obtain ⟨ts, h1, h2⟩ := Option.map_eq_some_iff.mp (show (allSome (es.map (trT n N sc))).map CT.tup = some t from h)
      subst h2
      have hl := trTs_ns (env := X.env) h1
      refine PG.weak (pg_seq hc (pgs_ok (pg_ok hK hc hN nd ms n) h1) hl.1 hl.2) fun v σ H Q h => ?_
      obtain ⟨pv, cup, F, env, env', g, sl, r, e, q⟩ := h
      cases pv with
      | tup l =>
        have e : asgOs ts l env = some env' := e
        cases r with
        | tup hf z rr =>
          exact .inl ⟨_, _, rfl, by rw [hK]; exact hf.sq g.sub, by rw [← rr.length]; exact asgOs_len e, l, cup, F, env, env', g, sl, rr, e, q⟩
      | lst l =>
        have e : asgOs ts l env = some env' := e
        cases r with
        | lst hf z rr =>
          exact .inr ⟨_, _, rfl, .inl (.inl (hf.at g.sub)), by rw [← rr.length]; exact asgOs_len e, l, cup, F, env, env', g, sl, rr, e, q⟩
      | _ => simp [asgO] at e
    | _ => cases h

/-! ### iterables -/
/-- an iterator that yields these; Rl: the states in which it is asked -/
structure Goes (x : Fix) (Rl : Hp → Hp → Prop) (J : It) (xs : List PV) : Prop where
  len : xs.length ≤ LINE
  go : ∀ i p c F H, Good x c F H → Rl F H → xs[i]? = some p → J.go i H
  yld : ∀ i p c F H y H', Good x c F H → Rl F H → xs[i]? = some p → J.yld i H y H' → ∃ F', Step x.C F H F' H' ∧ Good x c F' H' ∧ RepV x.K F' x.C p y
  stop : ∀ i c F H, Good x c F H → Rl F H → xs.length ≤ i → J.stop i H
def iE (x : Fix) (rel : Hp → Hp → Hp → Hp → Prop) (m : Ev → M (List PV)) : TI := fun σ H R => ∃ cup F env, Good x cup F H ∧ Slots x F H σ env ∧ WP x (m env) cup F H fun xs _ F' H' => ∀ J, Goes x (rel F' H') J xs → R J H'
theorem PI.weak {X : Cx} {tg e : Expr} {t t' : TI} (h : PI X tg e t) (w : ∀ σ H R, t' σ H R → t σ H R) : PI X tg e t' := ⟨fun pins s σ H R I q => h.run pins s σ H R I (w σ H R q)⟩
/-- what may be walked: frozen, or a list of a name's own -/
def RepI (x : Fix) (F H : Hp) (v : PV) (y : V) : Prop := RepV x.K F x.C v y ∨ ∃ a, y = .ref a ∧ OwnL x F H v a
def tI (x : Fix) (m : ME) : TE := fun σ H Q => ∃ cup F env, Good x cup F H ∧ Slots x F H σ env ∧ WP x (m env) cup F H fun v _ F' H' => ∀ y, RepI x F' H' v y → Q y H'
/-- relations under which frozen things, or own ones too, stay -/
def stepR (x : Fix) : Hp → Hp → Hp → Hp → Prop := fun F H F' H' => Step x.C F H F' H'
def leR : Hp → Hp → Hp → Hp → Prop := fun F _ F' _ => Le F F'
theorem goes_list (hK : X.K = x.K) {l : List PV} {a : Addr} {Rl : Hp → Hp → Prop} (hl : l.length ≤ LINE) (h : ∀ c F H, Good x c F H → Rl F H → ∃ vs, H a = some (.lst vs) ∧ RepVs x.K F x.C l vs) : Goes x Rl (Itl X.K a) l where
  len := hl
  go := fun i p c F H g r e => by
    obtain ⟨vs, h1, h2⟩ := h c F H g r
    obtain ⟨v, h3, _⟩ := h2.get e
    exact ⟨vs, v, .inl (.inl h1), h3⟩
  yld := fun i p c F H y H' g r e hy => by
    obtain ⟨vs, h1, h2⟩ := h c F H g r
    obtain ⟨v, h3, h4⟩ := h2.get e
    obtain ⟨e1, h5⟩ := hy
    subst e1
    have := h5 vs (.inl (.inl h1))
    rw [h3] at this
    cases this
    exact ⟨F, Step.refl _ _ _, g, h4⟩
  stop := fun i c F H g r e => by
    obtain ⟨vs, h1, h2⟩ := h c F H g r
    exact ⟨vs, .inl (.inl h1), by rw [← h2.length]; exact e⟩
theorem goes_tup (hK : X.K = x.K) {l : List PV} {a : Addr} {vs : List V} {F0 : Hp} {Rl : Hp → Hp → Prop} (hl : l.length ≤ LINE) (hf : FT x.K F0 a vs) (r0 : RepVs x.K F0 x.C l vs) (hr : ∀ F H, Rl F H → Le F0 F) : Goes x Rl (Itt X.K a) l where
  len := hl
  go := fun i p c F H g r e => by
    obtain ⟨v, h3, _⟩ := r0.get e
    exact ⟨vs, v, by rw [hK]; exact (hf.le (hr F H r)).sq g.sub, h3⟩
  yld := fun i p c F H y H' g r e hy => by
    obtain ⟨v, h3, h4⟩ := r0.get e
    obtain ⟨e1, h5⟩ := hy
    subst e1
    have := h5 vs (by rw [hK]; exact (hf.le (hr F _ r)).sq g.sub)
    rw [h3] at this
    cases this
    exact ⟨F, Step.refl _ _ _, g, h4.le (hr F _ r)⟩
  stop := fun i c F H g r e => ⟨vs, by rw [hK]; exact (hf.le (hr F H r)).sq g.sub, by rw [← r0.length]; exact e⟩
theorem goes_str {l : List Nat} {Rl : Hp → Hp → Prop} (ho : okL l) : Goes x Rl (Its (toS l)) (l.map fun c => .str [c]) where
  len := by rw [List.length_map]; exact ho.2
  go := fun i p c F H g r e => by
    have : i < (l.map fun c => PV.str [c]).length := (List.getElem?_eq_some_iff.mp e).1
    rw [List.length_map] at this
    show i < (toS l).cps.size
    rw [show (toS l).cps.size = l.length from toS_len l]
    exact this
  yld := fun i p c F H y H' g r e hy => by
    obtain ⟨e1, d, h1, h2⟩ := hy
    subst e1 h2
    rw [List.getElem?_map] at e
    obtain ⟨d', h3, h4⟩ := Option.map_eq_some_iff.mp e
    have h5 : (toS l).cps[i]? = l[i]? := by simp [toS]
    rw [h5, h3] at h1
    cases h1
    subst h4
    refine ⟨F, Step.refl _ _ _, g, .str [d] ⟨fun z hz => ?_, by show 1 ≤ LINE; decide⟩⟩
    rw [List.mem_singleton.mp hz]
    exact ho.1 _ (List.mem_of_getElem? h3)
  stop := fun i c F H g r e => by
    rw [List.length_map] at e
    show (toS l).cps.size ≤ i
    rw [show (toS l).cps.size = l.length from toS_len l]
    exact e
theorem RepKs.get : ∀ {K F C} {ps : List (PV × PV)} {ks : List (Key × V)} {i : Nat} {p : PV × PV}, RepKs K F C ps ks → ps[i]? = some p → ∃ k v, ks[i]? = some (k, v) ∧ keyV p.1 = some k
  | _, _, _, _, _, i, p, .nil, h => by simp at h
  | _, _, _, _, _, 0, p, .cons hk a t, h => by
    simp at h
    subst h
    exact ⟨_, _, rfl, hk⟩
  | _, _, _, _, _, i + 1, p, .cons hk a t, h => by
    obtain ⟨k, v, h1, h2⟩ := RepKs.get (i := i) t (by simpa using h)
    exact ⟨k, v, by simpa using h1, h2⟩
theorem keyRep {K F C} {p : PV} {k : Key} (h : keyV p = some k) : RepV K F C p (kV k) := by
  cases p with
  | int i => cases keyV_int h; exact .int i
  | str l =>
    obtain ⟨e, o⟩ := keyV_str h
    subst e
    exact .str l o
  | _ => cases h
theorem goes_keys {l : List (PV × PV)} {a : Addr} {od : Obj} {ks : List (Key × V)} {F0 : Hp} {Rl : Hp → Hp → Prop} (hl : l.length ≤ LINE) (hf : F0 a = some (.frz od (.dK ks))) (r0 : RepKs x.K F0 x.C l ks) (hr : ∀ F H, Rl F H → Le F0 F) : Goes x Rl (Itk a od ks) (l.map (·.1)) where
  len := by rw [List.length_map]; exact hl
  go := fun i p c F H g r e => by
    have : i < (l.map (·.1)).length := (List.getElem?_eq_some_iff.mp e).1
    rw [List.length_map, r0.length] at this
    exact ⟨g.sub _ _ (hr F H r _ _ hf), this⟩
  yld := fun i p c F H y H' g r e hy => by
    obtain ⟨e1, k, v, h1, h2⟩ := hy
    subst e1 h2
    rw [List.getElem?_map] at e
    obtain ⟨p', h3, h4⟩ := Option.map_eq_some_iff.mp e
    obtain ⟨k', v', h5, h6⟩ := r0.get h3
    rw [h5] at h1
    cases h1
    subst h4
    exact ⟨F, Step.refl _ _ _, g, keyRep h6⟩
  stop := fun i c F H g r e => by
    rw [List.length_map, r0.length] at e
    exact ⟨g.sub _ _ (hr F H r _ _ hf), e⟩
theorem goes_range {lo : Int} {n : Nat} {Rl : Hp → Hp → Prop} (hn : n ≤ LINE) {l : List PV} (hl : l = (List.range n).map fun (k : Nat) => .int (lo + k)) : Goes x Rl (Itr lo n) l where
  len := by rw [hl, List.length_map, List.length_range]; exact hn
  go := fun i p c F H g r e => by
    have : i < l.length := (List.getElem?_eq_some_iff.mp e).1
    rw [hl, List.length_map, List.length_range] at this
    exact this
  yld := fun i p c F H y H' g r e hy => by
    obtain ⟨e1, e2⟩ := hy
    subst e1 e2
    have hi : i < n := by
      have : i < l.length := (List.getElem?_eq_some_iff.mp e).1
      rw [hl, List.length_map, List.length_range] at this
      exact this
    rw [hl, List.getElem?_map, List.getElem?_range hi] at e
    cases e
    exact ⟨F, Step.refl _ _ _, g, .int _⟩
  stop := fun i c F H g r e => by
    rw [hl, List.length_map, List.length_range] at e
    exact e
/-- a new pair -/
theorem new_pair {c F H} {p q : PV} {y z : V} {T : Addr} (g : Good x c F H) (hT : H T = none) (r1 : RepV x.K F x.C p y) (r2 : RepV x.K F x.C q z) : ∃ F', Step x.C F H F' (upd H T (.tup [y, z])) ∧ Good x c F' (upd H T (.tup [y, z])) ∧ RepV x.K F' x.C (.tup [p, q]) (.ref T) :=
  ⟨_, Step.new' g hT, g.new' hT, .tup (.inl upd_same) (by show 2 ≤ LINE; decide) (.cons (r1.le (le_upd (g.nF hT))) (.cons (r2.le (le_upd (g.nF hT))) .nil))⟩
theorem enm_get : ∀ {l : List PV} {k i : Nat} {p : PV}, (enmFrom k l)[i]? = some p → ∃ q, l[i]? = some q ∧ p = .tup [.int (k + i : Nat), q]
  | [], k, i, p, h => by simp [enmFrom] at h
  | q :: r, k, 0, p, h => by
    simp [enmFrom] at h
    exact ⟨q, rfl, by rw [← h]; rfl⟩
  | q :: r, k, i + 1, p, h => by
    obtain ⟨q', h1, h2⟩ := enm_get (l := r) (k := k + 1) (i := i) (by simpa [enmFrom] using h)
    refine ⟨q', by simpa using h1, ?_⟩
    rw [h2, show k + 1 + i = k + (i + 1) by omega]
theorem enm_len : ∀ (l : List PV) (k : Nat), (enmFrom k l).length = l.length
  | [], k => rfl
  | q :: r, k => congrArg (· + 1) (enm_len r (k + 1))
theorem goes_enum (hK : X.K = x.K) {l : List PV} {a : Addr} {Rl : Hp → Hp → Prop} (hl : l.length ≤ LINE) (h : ∀ c F H, Good x c F H → Rl F H → ∃ vs, H a = some (.lst vs) ∧ RepVs x.K F x.C l vs) : Goes x Rl (Ite X.K a) (enmFrom 0 l) where
  len := by rw [enm_len]; exact hl
  go := fun i p c F H g r e => by
    obtain ⟨vs, h1, h2⟩ := h c F H g r
    obtain ⟨q, e1, e2⟩ := enm_get e
    obtain ⟨v, h3, _⟩ := h2.get e1
    exact ⟨vs, v, .inl (.inl h1), h3⟩
  yld := fun i p c F H y H' g r e hy => by
    obtain ⟨vs, h1, h2⟩ := h c F H g r
    obtain ⟨q, e1, e2⟩ := enm_get e
    obtain ⟨v, h3, h4⟩ := h2.get e1
    obtain ⟨T, w, e3, hT, e4, h5⟩ := hy
    subst e2 e3 e4
    have := h5 vs (.inl (.inl h1))
    rw [h3] at this
    cases this
    rw [Nat.zero_add]
    exact new_pair g hT (.int _) h4
  stop := fun i c F H g r e => by
    obtain ⟨vs, h1, h2⟩ := h c F H g r
    rw [enm_len] at e
    exact ⟨vs, .inl (.inl h1), by rw [← h2.length]; exact e⟩
theorem goes_enumT (hK : X.K = x.K) {l : List PV} {a : Addr} {vs : List V} {F0 : Hp} {Rl : Hp → Hp → Prop} (hl : l.length ≤ LINE) (hf : FT x.K F0 a vs) (r0 : RepVs x.K F0 x.C l vs) (hr : ∀ F H, Rl F H → Le F0 F) : Goes x Rl (IteT X.K a) (enmFrom 0 l) where
  len := by rw [enm_len]; exact hl
  go := fun i p c F H g r e => by
    obtain ⟨q, e1, e2⟩ := enm_get e
    obtain ⟨v, h3, _⟩ := r0.get e1
    exact ⟨vs, v, by rw [hK]; exact (hf.le (hr F H r)).sq g.sub, h3⟩
  yld := fun i p c F H y H' g r e hy => by
    obtain ⟨q, e1, e2⟩ := enm_get e
    obtain ⟨v, h3, h4⟩ := r0.get e1
    obtain ⟨T, w, e3, hT, e4, h5⟩ := hy
    subst e2 e3 e4
    have := h5 vs (by rw [hK]; exact (hf.le (hr F H r)).sq g.sub)
    rw [h3] at this
    cases this
    rw [Nat.zero_add]
    exact new_pair g hT (.int _) (h4.le (hr F H r))
  stop := fun i c F H g r e => by
    rw [enm_len] at e
    exact ⟨vs, by rw [hK]; exact (hf.le (hr F H r)).sq g.sub, by rw [← r0.length]; exact e⟩
theorem zip_get : ∀ {l m : List PV} {i : Nat} {p : PV}, (zipV l m)[i]? = some p → ∃ q w, l[i]? = some q ∧ m[i]? = some w ∧ p = .tup [q, w]
  | [], _, i, p, h => by simp [zipV] at h
  | _ :: _, [], i, p, h => by simp [zipV] at h
  | q :: r, w :: s, 0, p, h => by
    simp [zipV] at h
    exact ⟨q, w, rfl, rfl, h.symm⟩
  | q :: r, w :: s, i + 1, p, h => by
    obtain ⟨q', w', h1, h2, h3⟩ := zip_get (l := r) (m := s) (i := i) (by simpa [zipV] using h)
    exact ⟨q', w', by simpa using h1, by simpa using h2, h3⟩
theorem zip_len : ∀ (l m : List PV), (zipV l m).length = min l.length m.length
  | [], _ => by simp [zipV]
  | _ :: _, [] => by simp [zipV]
  | q :: r, w :: s => by
    show (zipV r s).length + 1 = _
    rw [zip_len r s, List.length_cons, List.length_cons]
    omega
theorem goes_zipL (hK : X.K = x.K) {l m : List PV} {a b : Addr} {Rl : Hp → Hp → Prop} (hl : l.length ≤ LINE) (h : ∀ c F H, Good x c F H → Rl F H → ∃ vs, H a = some (.lst vs) ∧ RepVs x.K F x.C l vs) (h' : ∀ c F H, Good x c F H → Rl F H → ∃ vs, H b = some (.lst vs) ∧ RepVs x.K F x.C m vs) : Goes x Rl (Itz X.K a b) (zipV l m) where
  len := by rw [zip_len]; omega
  go := fun i p c F H g r e => by
    obtain ⟨vs, h1, h2⟩ := h c F H g r
    obtain ⟨ws, k1, k2⟩ := h' c F H g r
    obtain ⟨q, w, e1, e2, e3⟩ := zip_get e
    obtain ⟨v, h3, _⟩ := h2.get e1
    obtain ⟨u, k3, _⟩ := k2.get e2
    exact ⟨vs, ws, v, u, .inl (.inl h1), .inl (.inl k1), h3, k3⟩
  yld := fun i p c F H y H' g r e hy => by
    obtain ⟨vs, h1, h2⟩ := h c F H g r
    obtain ⟨ws, k1, k2⟩ := h' c F H g r
    obtain ⟨q, w, e1, e2, e3⟩ := zip_get e
    obtain ⟨v, h3, h4⟩ := h2.get e1
    obtain ⟨u, k3, k4⟩ := k2.get e2
    obtain ⟨T, v', u', e4, hT, e5, h5, h6⟩ := hy
    subst e3 e4 e5
    have z1 := h5 vs (.inl (.inl h1))
    have z2 := h6 ws (.inl (.inl k1))
    rw [h3] at z1
    rw [k3] at z2
    cases z1
    cases z2
    exact new_pair g hT h4 k4
  stop := fun i c F H g r e => by
    obtain ⟨vs, h1, h2⟩ := h c F H g r
    obtain ⟨ws, k1, k2⟩ := h' c F H g r
    rw [zip_len] at e
    exact ⟨vs, ws, .inl (.inl h1), .inl (.inl k1), by rw [← h2.length, ← k2.length]; omega⟩
theorem goes_zipT (hK : X.K = x.K) {l m : List PV} {a b : Addr} {vs ws : List V} {F0 : Hp} {Rl : Hp → Hp → Prop} (hl : l.length ≤ LINE) (hf : FT x.K F0 a vs) (r0 : RepVs x.K F0 x.C l vs) (hf' : FT x.K F0 b ws) (r0' : RepVs x.K F0 x.C m ws) (hr : ∀ F H, Rl F H → Le F0 F) : Goes x Rl (RZ.ItzT X.K a b) (zipV l m) where
  len := by rw [zip_len]; omega
  go := fun i p c F H g r e => by
    obtain ⟨q, w, e1, e2, e3⟩ := zip_get e
    obtain ⟨v, h3, _⟩ := r0.get e1
    obtain ⟨u, k3, _⟩ := r0'.get e2
    exact ⟨vs, ws, v, u, by rw [hK]; exact (hf.le (hr F H r)).sq g.sub, by rw [hK]; exact (hf'.le (hr F H r)).sq g.sub, h3, k3⟩
  yld := fun i p c F H y H' g r e hy => by
    obtain ⟨q, w, e1, e2, e3⟩ := zip_get e
    obtain ⟨v, h3, h4⟩ := r0.get e1
    obtain ⟨u, k3, k4⟩ := r0'.get e2
    obtain ⟨T, v', u', e4, hT, e5, h5, h6⟩ := hy
    subst e3 e4 e5
    have z1 := h5 vs (by rw [hK]; exact (hf.le (hr F H r)).sq g.sub)
    have z2 := h6 ws (by rw [hK]; exact (hf'.le (hr F H r)).sq g.sub)
    rw [h3] at z1
    rw [k3] at z2
    cases z1
    cases z2
    exact new_pair g hT (h4.le (hr F H r)) (k4.le (hr F H r))
  stop := fun i c F H g r e => by
    rw [zip_len] at e
    exact ⟨vs, ws, by rw [hK]; exact (hf.le (hr F H r)).sq g.sub, by rw [hK]; exact (hf'.le (hr F H r)).sq g.sub, by rw [← r0.length, ← r0'.length]; omega⟩

/-! ### the iterables' runs -/
def tG (x : Fix) (Rep : Hp → Hp → PV → V → Prop) (m : ME) : TE := fun σ H Q => ∃ cup F env, Good x cup F H ∧ Slots x F H σ env ∧ WP x (m env) cup F H fun v _ F' H' => ∀ y, Rep F' H' v y → Q y H'
/-- what may be walked, by a relation under which it stays -/
structure Walk (x : Fix) (Rep : Hp → Hp → PV → V → Prop) (rel : Hp → Hp → Hp → Hp → Prop) : Prop where
  le : ∀ F H F' H', rel F H F' H' → Le F F'
  rep : ∀ F H v y, Rep F H v y → RepV x.K F x.C v y ∨ ∃ a, y = .ref a ∧ OwnL x F H v a ∧ ∀ F' H', rel F H F' H' → Step x.C F H F' H'
theorem walkI : Walk x (RepI x) (stepR x) := ⟨fun _ _ _ _ s => s.grow, fun _ _ _ _ h => h.elim .inl fun ⟨a, e, o⟩ => .inr ⟨a, e, o, fun _ _ s => s⟩⟩
theorem walkE : Walk x (fun F _ v y => RepV x.K F x.C v y) leR := ⟨fun _ _ _ _ s => s, fun _ _ _ _ h => .inl h⟩
theorem Walk.list {Rep rel} (W : Walk x Rep rel) {F H : Hp} {l : List PV} {y : V} (g : ∃ c, Good x c F H) (h : Rep F H (.lst l) y) : ∃ a, y = .ref a ∧ l.length ≤ LINE ∧ (∃ vs, H a = some (.lst vs)) ∧ ∀ c F' H', Good x c F' H' → rel F H F' H' → ∃ vs, H' a = some (.lst vs) ∧ RepVs x.K F' x.C l vs := by
  obtain ⟨c, g⟩ := g
  rcases W.rep _ _ _ _ h with r | ⟨a, e, ⟨_, o1, o2, vs, o3, z, r⟩, st⟩
  · cases r with
    | lst hf z r => exact ⟨_, rfl, by rw [r.length]; exact z, ⟨_, hf.at g.sub⟩, fun c F' H' g' rl => ⟨_, (hf.le (W.le _ _ _ _ rl)).at g'.sub, r.le (W.le _ _ _ _ rl)⟩⟩
  · have ow : Own x F H (.lst l) a := ⟨o1, o2, vs, o3, z, r⟩
    refine ⟨a, e, by rw [r.length]; exact z, ⟨vs, o3⟩, fun c F' H' g' rl => ?_⟩
    obtain ⟨_, _, vs', e', _, r'⟩ := ow.step (st _ _ rl)
    exact ⟨vs', e', r'⟩
variable {X : Cx} {tg e e2 : Expr} {m m2 : ME}
theorem pi_seqG (hK : X.K = x.K) {Rep rel} (W : Walk x Rep rel) (he : PE X e (tG x Rep m)) : PI X tg e (iE x rel fun env => do let v ← m env; optM (seqOf v)) := by
  refine ⟨fun pins s σ H R I h => ?_⟩
  obtain ⟨cup, F, env, g, sl, w⟩ := h
  have w2 := WP.bind w
  cases e1 : m env cup with
  | stuck =>
    unfold WP at w2
    rw [e1] at w2
    exact w2.elim
  | ex z c =>
    refine thn (he.run pins s σ H (fun _ _ => False) I ⟨cup, F, env, g, sl, w2.monoV fun v c F1 H1 e2 s1 g1 _ _ _ => by rw [e1] at e2; cases e2⟩) fun u s1 ⟨y, H1, _, _, q⟩ => q.elim
  | ok v c =>
    have key : ∀ Q : V → Hp → Prop, (∀ F1 H1 y, Step x.C F H F1 H1 → Good x c F1 H1 → Rep F1 H1 v y → (∃ xs, seqOf v = some xs ∧ ∀ J, Goes x (rel F1 H1) J xs → R J H1) → Q y H1) → tG x Rep m σ H Q := fun Q hq => by
      refine ⟨cup, F, env, g, sl, w2.monoV fun v' c' F1 H1 e2 s1 g1 w3 y r => ?_⟩
      rw [e1] at e2
      cases e2
      obtain ⟨xs, h1, h2⟩ := WP.opt w3 g1
      exact hq F1 H1 y s1 g1 r ⟨xs, h1, h2⟩
    cases v with
    | lst l =>
      refine (pi_list (tg := tg) he).run pins s σ H R I (key _ fun F1 H1 y s1 g1 r ⟨xs, h1, h2⟩ => ?_)
      cases h1
      obtain ⟨a, ey, hl, ⟨vs, hv⟩, hg⟩ := W.list ⟨c, g1⟩ r
      exact ⟨a, ey, ⟨vs, .inl (.inl hv)⟩, h2 _ (goes_list hK hl hg)⟩
    | tup l =>
      refine (pi_tup (tg := tg) he).run pins s σ H R I (key _ fun F1 H1 y s1 g1 r ⟨xs, h1, h2⟩ => ?_)
      cases h1
      rcases W.rep _ _ _ _ r with r | ⟨a, e, ⟨⟨_, q⟩, _⟩, _⟩
      · cases r with
        | tup hf z rr => exact ⟨_, rfl, ⟨_, by rw [hK]; exact hf.sq g1.sub⟩, h2 _ (goes_tup hK (by rw [rr.length]; exact z) hf rr fun F' H' rl => W.le _ _ _ _ rl)⟩
      · cases q
    | str l =>
      refine (pi_str (tg := tg) he).run pins s σ H R I (key _ fun F1 H1 y s1 g1 r ⟨xs, h1, h2⟩ => ?_)
      cases h1
      rcases W.rep _ _ _ _ r with r | ⟨a, e, ⟨⟨_, q⟩, _⟩, _⟩
      · cases r with
        | str _ o => exact ⟨_, rfl, h2 _ (goes_str o)⟩
      · cases q
    | dict l =>
      refine (pi_keys (tg := tg) he).run pins s σ H R I (key _ fun F1 H1 y s1 g1 r ⟨xs, h1, h2⟩ => ?_)
      cases h1
      rcases W.rep _ _ _ _ r with r | ⟨a, e, ⟨⟨_, q⟩, _⟩, _⟩
      · cases r with
        | dict hf z rr => exact ⟨_, _, rfl, .inl ⟨_, g1.sub _ _ hf, h2 _ (goes_keys (by rw [rr.length]; exact z) hf rr fun F' H' rl => W.le _ _ _ _ rl)⟩⟩
      · cases q
    | _ =>
      refine thn (he.run pins s σ H (fun _ _ => False) I (key _ fun F1 H1 y s1 g1 r ⟨xs, h1, h2⟩ => by cases h1)) fun u s1 ⟨y, H1, _, _, q⟩ => q.elim
theorem pi_enmG (hK : X.K = x.K) {Rep rel} (W : Walk x Rep rel) {p pos tpos : Pos} {elts : List Expr} {kk : Nat} (hg : Gl X "enumerate") (hm : X.mg "enumerate" = none) (ns : NotStar e) (he : PE X e (tG x Rep m)) :
    PI X (.Tuple elts kk tpos) (.Call (.Name "enumerate" p) [e] [] pos) (iE x rel fun env => do let v ← m env; let l ← optM (ltOf v); pure (enmFrom 0 l)) := by
  refine PI.weak (pi_enumA hg hm (pa_cons he pa_nil (ns [] X.env)) (ns [] X.env)) fun σ H R h => ?_
  obtain ⟨cup, F, env, g, sl, w⟩ := h
  refine ⟨cup, F, env, g, sl, (WP.bind w).mono fun v c F1 H1 s1 g1 w1 y r => ?_⟩
  obtain ⟨l, h1, w2⟩ := WP.opt (WP.bind w1) g1
  cases v with
  | lst l' =>
    cases h1
    obtain ⟨a, ey, hl, ⟨vs, hv⟩, hg⟩ := W.list ⟨c, g1⟩ r
    exact ⟨a, vs, by rw [ey], .inl ⟨.inl (.inl hv), w2.pure g1 _ (goes_enum hK hl hg)⟩⟩
  | tup l' =>
    cases h1
    rcases W.rep _ _ _ _ r with r | ⟨a, e, ⟨⟨_, q⟩, _⟩, _⟩
    · cases r with
      | tup hf z rr => exact ⟨_, _, rfl, .inr ⟨by rw [hK]; exact hf.sq g1.sub, w2.pure g1 _ (goes_enumT hK (by rw [rr.length]; exact z) hf rr fun F' H' rl => W.le _ _ _ _ rl)⟩⟩
    · cases q
  | _ => cases h1
theorem len1 {α : Type} {l : List α} (h : l.length = 1) : ∃ a, l = [a] := by
  match l, h with
  | [a], _ => exact ⟨a, rfl⟩
theorem len2 {α : Type} {l : List α} (h : l.length = 2) : ∃ a b, l = [a, b] := by
  match l, h with
  | [a, b], _ => exact ⟨a, b, rfl⟩
theorem rng1_ok {v : PV} {c F H} {P : List PV → Cup → Hp → Hp → Prop} (w : WP x (rngM [v]) c F H P) (g : Good x c F H) : ∃ j : Int, v = .int j ∧ -(2 ^ 62) ≤ j ∧ j ≤ LINE ∧ P ((List.range j.toNat).map fun (k : Nat) => .int k) c F H := by
  cases v with
  | int j =>
    obtain ⟨hz, w⟩ := WP.ite w
    obtain ⟨a, b⟩ := Bool.and_eq_true_iff.mp hz
    exact ⟨j, rfl, of_decide_eq_true a, of_decide_eq_true b, w.pure g⟩
  | _ => exact w.elim
theorem rng2_ok {v u : PV} {c F H} {P : List PV → Cup → Hp → Hp → Prop} (w : WP x (rngM [v, u]) c F H P) (g : Good x c F H) : ∃ i j : Int, v = .int i ∧ u = .int j ∧ (-(2 ^ 62) ≤ i ∧ i < 2 ^ 62 ∧ -(2 ^ 62) ≤ j ∧ j < 2 ^ 62) ∧ j - i ≤ LINE ∧ P ((List.range (j - i).toNat).map fun (k : Nat) => .int (i + k)) c F H := by
  cases v with
  | int i =>
    cases u with
    | int j =>
      obtain ⟨hz, w⟩ := WP.ite w
      obtain ⟨hz, e⟩ := Bool.and_eq_true_iff.mp hz
      obtain ⟨hz, d⟩ := Bool.and_eq_true_iff.mp hz
      obtain ⟨hz, c'⟩ := Bool.and_eq_true_iff.mp hz
      obtain ⟨a, b⟩ := Bool.and_eq_true_iff.mp hz
      exact ⟨i, j, rfl, rfl, ⟨of_decide_eq_true a, of_decide_eq_true b, of_decide_eq_true c', of_decide_eq_true d⟩, of_decide_eq_true e, w.pure g⟩
    | _ => exact w.elim
  | _ => exact w.elim
theorem pi_rng1 {p pos : Pos} {rel} {call : Str → List PV → M PV} {ce : CE} (hg : Gl X "range") (hm : X.mg "range" = none) (ns : NotStar e) (he : PE X e (tP x (evalE call ce))) :
    PI X tg (.Call (.Name "range" p) [e] [] pos) (iE x rel fun env => do let vs ← evalEs call [ce] env; rngM vs) := by
  refine PI.weak (pi_range1 hg hm (pa_consP ns he pa_nilP) (ns [] X.env)) fun σ H R h => ?_
  obtain ⟨cup, F, env, g, sl, w⟩ := h
  refine ⟨cup, F, env, g, sl, (WP.bind w).monoV fun vs c F1 H1 ev s1 g1 w1 ys r => ?_⟩
  obtain ⟨v, hv⟩ := len1 (evalEs_len ev)
  subst hv
  obtain ⟨y, ey, ry⟩ := r.one
  obtain ⟨j, e1, h1, h2, q⟩ := rng1_ok w1 g1
  subst e1
  have hL : (LINE : Int) < 2 ^ 62 := by decide
  refine ⟨j, by rw [ey, ry.int], h1, by omega, q _ (goes_range (by omega) ?_)⟩
  refine List.map_congr_left fun k _ => ?_
  rw [Int.zero_add]
theorem pi_rng2 {p pos : Pos} {rel} {call : Str → List PV → M PV} {ce ce2 : CE} (hg : Gl X "range") (hm : X.mg "range" = none) (ns : NotStar e) (ns2 : NotStar e2) (he : PE X e (tP x (evalE call ce))) (he2 : PE X e2 (tP x (evalE call ce2))) :
    PI X tg (.Call (.Name "range" p) [e, e2] [] pos) (iE x rel fun env => do let vs ← evalEs call [ce, ce2] env; rngM vs) := by
  refine PI.weak (pi_range2 hg hm (pa_consP ns he (pa_consP ns2 he2 pa_nilP)) (by rw [ns [e2] X.env, ns2 [] X.env]; rfl) (by rw [ns2 [] X.env]; rfl)) fun σ H R h => ?_
  obtain ⟨cup, F, env, g, sl, w⟩ := h
  refine ⟨cup, F, env, g, sl, (WP.bind w).monoV fun vs c F1 H1 ev s1 g1 w1 ys r => ?_⟩
  obtain ⟨v, u, hv⟩ := len2 (evalEs_len ev)
  subst hv
  obtain ⟨y, z, ey, ry, rz⟩ := r.two
  obtain ⟨i, j, e1, e2, hb, h2, q⟩ := rng2_ok w1 g1
  subst e1 e2
  exact ⟨i, j, by rw [ey, ry.int, rz.int], hb, q _ (goes_range (by omega) rfl)⟩
theorem rng3_ok {v u t : PV} {c F H} {P : List PV → Cup → Hp → Hp → Prop} (w : WP x (rngM [v, u, t]) c F H P) (g : Good x c F H) : ∃ i j : Int, v = .int i ∧ u = .int j ∧ t = .int (-1) ∧ (-(2 ^ 62) ≤ i ∧ i < 2 ^ 62 ∧ -(2 ^ 62) ≤ j ∧ j < 2 ^ 62) ∧ i - j ≤ LINE ∧ P ((List.range (i - j).toNat).map fun (k : Nat) => .int (i + k * (-1))) c F H := by
  cases v with
  | int i =>
    cases u with
    | int j =>
      cases t with
      | int m =>
        obtain ⟨hz, w2⟩ := WP.ite w
        obtain ⟨hz, f⟩ := Bool.and_eq_true_iff.mp hz
        obtain ⟨hz, e⟩ := Bool.and_eq_true_iff.mp hz
        obtain ⟨hz, d⟩ := Bool.and_eq_true_iff.mp hz
        obtain ⟨hz, c'⟩ := Bool.and_eq_true_iff.mp hz
        obtain ⟨a, b⟩ := Bool.and_eq_true_iff.mp hz
        have f := of_decide_eq_true f
        subst f
        exact ⟨i, j, rfl, rfl, rfl, ⟨of_decide_eq_true a, of_decide_eq_true b, of_decide_eq_true c', of_decide_eq_true d⟩, of_decide_eq_true e, w2.pure g⟩
      | _ => exact w.elim
    | _ => exact w.elim
  | _ => exact w.elim
theorem len3R {α : Type} {l : List α} (h : l.length = 3) : ∃ a b c, l = [a, b, c] := by
  match l, h with
  | [a, b, c], _ => exact ⟨a, b, c, rfl⟩
theorem RepHs.three {F H} {ys : List V} {p q r : PV} (h : RepHs x F H [p, q, r] ys) : ∃ y z u, ys = [y, z, u] ∧ RepH x F H p y ∧ RepH x F H q z ∧ RepH x F H r u := by
  cases h with
  | cons h t => cases t with
    | cons h2 t => cases t with
      | cons h3 t => cases t; exact ⟨_, _, _, rfl, h, h2, h3⟩
theorem goes_rangeC {lo d : Int} {n : Nat} {Rl : Hp → Hp → Prop} {l : List PV} (hn : n ≤ LINE) (hl : l = (List.range n).map fun (k : Nat) => .int (lo + k * d)) : Goes x Rl (Itc lo d n) l where
  len := by rw [hl, List.length_map, List.length_range]; exact hn
  go := fun i p c F H g r e => by
    have : i < l.length := (List.getElem?_eq_some_iff.mp e).1
    rw [hl, List.length_map, List.length_range] at this
    exact this
  yld := fun i p c F H y H' g r e hy => by
    obtain ⟨e1, e2⟩ := hy
    subst e1 e2
    have hi : i < n := by
      have : i < l.length := (List.getElem?_eq_some_iff.mp e).1
      rw [hl, List.length_map, List.length_range] at this
      exact this
    rw [hl, List.getElem?_map, List.getElem?_range hi] at e
    cases e
    exact ⟨F, Step.refl _ _ _, g, .int _⟩
  stop := fun i c F H g r e => by
    rw [hl, List.length_map, List.length_range] at e
    exact e
theorem pi_rng3 {e3 : Expr} {p pos : Pos} {rel} {call : Str → List PV → M PV} {ce ce2 ce3 : CE} (hg : Gl X "range") (hm : X.mg "range" = none) (ns : NotStar e) (ns2 : NotStar e2) (ns3 : NotStar e3) (he : PE X e (tP x (evalE call ce))) (he2 : PE X e2 (tP x (evalE call ce2))) (he3 : PE X e3 (tP x (evalE call ce3))) :
    PI X tg (.Call (.Name "range" p) [e, e2, e3] [] pos) (iE x rel fun env => do let vs ← evalEs call [ce, ce2, ce3] env; rngM vs) := by
  refine PI.weak (pi_range3 hg hm (pa_consP ns he (pa_consP ns2 he2 (pa_consP ns3 he3 pa_nilP))) (by rw [ns [e2, e3] X.env]) (stars_none fun d hd => ?_)) fun σ H R h => ?_
  · rcases List.mem_cons.mp hd with rfl | hd
    · exact ns2
    · rw [List.mem_singleton.mp hd]; exact ns3
  obtain ⟨cup, F, env, g, sl, w⟩ := h
  refine ⟨cup, F, env, g, sl, (WP.bind w).monoV fun vs c F1 H1 ev s1 g1 w1 ys r => ?_⟩
  obtain ⟨v, u, t, hv⟩ := len3R (evalEs_len ev)
  subst hv
  obtain ⟨y, z, y3, ey, ry, rz, r3⟩ := r.three
  obtain ⟨i, j, e1, e2, e3, hb, h2, q⟩ := rng3_ok w1 g1
  subst e1 e2 e3
  refine ⟨i, j, -1, (i - j).toNat, by rw [ey, ry.int, rz.int, r3.int], RgC.neg hb.1 hb.2.1 hb.2.2.1 hb.2.2.2, q _ (goes_rangeC (by omega) rfl)⟩
/-- the items of what is walked, as long as it stands -/
def Fed (x : Fix) (Rl : Hp → Hp → Prop) (K : PySem.W.Frag) (q : Sor) (l : List PV) : Prop := ∀ c F H, Good x c F H → Rl F H → ∃ xs, q.Sq K H xs ∧ RepVs x.K F x.C l xs
theorem goes_zipG {K : PySem.W.Frag} {l m : List PV} {q q' : Sor} {Rl : Hp → Hp → Prop} (hl : l.length ≤ LINE) (h : Fed x Rl K q l) (h' : Fed x Rl K q' m) : Goes x Rl (ItzG K q q' l.length m.length) (zipV l m) where
  len := by rw [zip_len]; omega
  go := fun i p c F H g r e => by
    obtain ⟨vs, h1, h2⟩ := h c F H g r
    obtain ⟨ws, k1, k2⟩ := h' c F H g r
    obtain ⟨a, w, e1, e2, e3⟩ := zip_get e
    obtain ⟨v, h3, _⟩ := h2.get e1
    obtain ⟨u, k3, _⟩ := k2.get e2
    exact ⟨vs, ws, v, u, h1, k1, h2.length.symm, k2.length.symm, h3, k3⟩
  yld := fun i p c F H y H' g r e hy => by
    obtain ⟨vs, h1, h2⟩ := h c F H g r
    obtain ⟨ws, k1, k2⟩ := h' c F H g r
    obtain ⟨a, w, e1, e2, e3⟩ := zip_get e
    obtain ⟨v, h3, h4⟩ := h2.get e1
    obtain ⟨u, k3, k4⟩ := k2.get e2
    obtain ⟨T, v', u', e4, hT, e5, h5, h6⟩ := hy
    subst e3 e4 e5
    have z1 := h5 vs h1
    have z2 := h6 ws k1
    rw [h3] at z1
    rw [k3] at z2
    cases z1
    cases z2
    exact new_pair g hT h4 k4
  stop := fun i c F H g r e => by
    obtain ⟨vs, h1, h2⟩ := h c F H g r
    obtain ⟨ws, k1, k2⟩ := h' c F H g r
    rw [zip_len] at e
    exact ⟨vs, ws, h1, k1, h2.length.symm, k2.length.symm, by omega⟩
theorem letV_rep {K F C} : ∀ {l : List Nat}, okL l → RepVs K F C (l.map fun c => .str [c]) (letV (toS l)) := by
  intro l ho
  have key : ∀ m : List Nat, (∀ c ∈ m, c < 0x110000) → RepVs K F C (m.map fun c => .str [c]) (m.map fun c => V.str ⟨#[c]⟩) := by
    intro m
    induction m with
    | nil => intro _; exact .nil
    | cons c m ih => intro h; exact .cons (.str [c] ⟨fun d hd => by rw [List.mem_singleton.mp hd]; exact h c List.mem_cons_self, by show 1 ≤ LINE; decide⟩) (ih fun d hd => h d (List.mem_cons_of_mem _ hd))
  have := key l ho.1
  unfold letV toS
  simpa using this
/-- the items of a value -/
def itemsZ : PV → Option (List PV)
  | .lst l => some l
  | .tup l => some l
  | .str s => some (s.map fun c => .str [c])
  | _ => none
theorem zipM_items {v w : PV} {c : Cup} {F H : Hp} {P : List PV → Cup → Hp → Hp → Prop} (h : WP x (zipM v w) c F H P) : ∃ l m, itemsZ v = some l ∧ itemsZ w = some m ∧ WP x (pure (zipV l m) : M (List PV)) c F H P := by
  cases v <;> cases w <;> first | exact ⟨_, _, rfl, rfl, h⟩ | exact h.elim
theorem fed_of {X : Cx} (hK : X.K = x.K) {Rep rel} (W : Walk x Rep rel) {c : Cup} {F H : Hp} (g : Good x c F H) {v : PV} {y : V} {l : List PV} (r : Rep F H v y) (e : itemsZ v = some l) :
    ∃ q : Sor, y = q.v ∧ ((∃ xs, q.Sq X.K H xs ∧ RepVs x.K F x.C l xs) ∧ Fed x (rel F H) X.K q l) ∧ l.length ≤ LINE := by
  cases v with
  | lst l' =>
    cases e
    obtain ⟨a, ey, hl, ⟨vs, hv⟩, hg⟩ := W.list ⟨c, g⟩ r
    refine ⟨.lst a, ey, ⟨?_, fun c' F' H' g' rl => ?_⟩, hl⟩
    · rcases W.rep _ _ _ _ r with z | ⟨b, eb, ⟨_, o1, o2, ws, o3, _, rr⟩, _⟩
      · rw [ey] at z
        cases z with
        | lst hf z rr => exact ⟨_, .inl (.inl (hf.at g.sub)), rr⟩
      · rw [ey] at eb
        cases eb
        exact ⟨ws, .inl (.inl o3), rr⟩
    · obtain ⟨ws, h1, h2⟩ := hg c' F' H' g' rl
      exact ⟨ws, .inl (.inl h1), h2⟩
  | tup l' =>
    cases e
    rcases W.rep _ _ _ _ r with z | ⟨a, _, ⟨⟨_, q⟩, _⟩, _⟩
    · cases z with
      | tup hf z rr => exact ⟨.tup _, rfl, ⟨⟨_, by show SqT _ _ _ _; rw [hK]; exact hf.sq g.sub, rr⟩, fun c' F' H' g' rl => ⟨_, by show SqT _ _ _ _; rw [hK]; exact (hf.le (W.le _ _ _ _ rl)).sq g'.sub, rr.le (W.le _ _ _ _ rl)⟩⟩, by rw [rr.length]; exact z⟩
    · cases q
  | str s =>
    cases e
    rcases W.rep _ _ _ _ r with z | ⟨a, _, ⟨⟨_, q⟩, _⟩, _⟩
    · cases z with
      | str _ o => exact ⟨.txt (toS s), rfl, ⟨⟨_, rfl, letV_rep o⟩, fun c' F' H' g' rl => ⟨_, rfl, letV_rep o⟩⟩, by rw [List.length_map]; exact o.2⟩
    · cases q
  | _ => cases e
theorem pi_zipE (hK : X.K = x.K) {Rep rel} (W : Walk x Rep rel) (wk : ∀ F H F1 H1 v y, Rep F H v y → Step x.C F H F1 H1 → Rep F1 H1 v y) {p pos tpos : Pos} {elts : List Expr} {kk : Nat} (hg : Gl X "zip") (hm : X.mg "zip" = none) (ns : NotStar e) (ns2 : NotStar e2) (he : PE X e (tG x Rep m)) (he2 : PE X e2 (tG x Rep m2)) :
    PI X (.Tuple elts kk tpos) (.Call (.Name "zip" p) [e, e2] [] pos) (iE x rel fun env => do let v ← m env; let w ← m2 env; zipM v w) := by
  refine PI.weak (pi_zipX hg hm (pa_cons he (pa_cons he2 pa_nil (ns2 [] X.env)) (ns [e2] X.env)) (ns [e2] X.env) (stars_none fun d hd => by rw [List.mem_singleton.mp hd]; exact ns2)) fun σ H R h => ?_
  obtain ⟨cup, F, env, g, sl, w⟩ := h
  refine ⟨cup, F, env, g, sl, (WP.bind w).mono fun v c F1 H1 s1 g1 w1 y r => ⟨c, F1, env, g1, sl.step s1, (WP.bind w1).mono fun v2 c2 F2 H2 s2 g2 w2 y2 r2 => ?_⟩⟩
  have r := wk _ _ _ _ _ _ r s2
  obtain ⟨l, l2, i1, i2, w3⟩ := zipM_items w2
  obtain ⟨q1, y1, f1, lz⟩ := fed_of hK W g2 r i1
  obtain ⟨q2, y3, f2, _⟩ := fed_of hK W g2 r2 i2
  obtain ⟨xs, hx, rx⟩ := f1.1
  obtain ⟨xs2, hx2, rx2⟩ := f2.1
  refine ⟨q1, q2, xs, xs2, by rw [y1, y3], hx, hx2, ?_⟩
  rw [← rx.length, ← rx2.length]
  exact WP.pure w3 g2 _ (goes_zipG lz f1.2 f2.2)
end
end EV

set_option maxRecDepth 100000
set_option maxHeartbeats 2000000
/-! EvE5: comprehensions. -/
namespace EV
open PySem PySem.Spec PyProof.Rows L2
section
variable {x : Fix} {c : Cup} {F H : Hp} {a : Addr} {o : HO}
theorem Good.setOwn (g : Good x c F H) (hF : F a = none) (h0 : x.H0 a = none) (hc : x.C ≠ some a) : Good x c F (upd H a o) where
  sub := fun b w h => by
    have : b ≠ a := fun e => by rw [e, hF] at h; cases h
    rw [upd_ne this]
    exact g.sub b w h
  grow := g.grow
  new := g.new
  frame := fun b w h n t => by
    have : b ≠ a := fun e => by rw [e, h0] at h; cases h
    rw [upd_ne this]
    exact g.frame b w h n t
  dom := fun b h => by
    by_cases e : b = a
    · subst e; exact h0
    · rw [upd_ne e] at h; exact g.dom b h
  cell := fun b h => by
    obtain ⟨z, vs, e, r⟩ := g.cell b h
    have : b ≠ a := fun q => hc (by rw [← q]; exact h)
    exact ⟨z, vs, by rw [upd_ne this]; exact e, r⟩
theorem Step.setNew {C : Option Addr} {F0 H0 : Hp} (s : Step C F0 H0 F H) (h0 : H0 a = none) : Step C F0 H0 F (upd H a o) where
  grow := s.grow
  new := s.new
  frame := fun b w h n t => by
    have : b ≠ a := fun e => by rw [e, h0] at h; cases h
    rw [upd_ne this]
    exact s.frame b w h n t
  dom := fun b h => by
    by_cases e : b = a
    · subst e; exact h0
    · rw [upd_ne e] at h; exact s.dom b h
end
section
variable {X : Cx} {x : Fix} {elt tg iter tg1 iter1 kx vx : Expr} {ifs ifs1 : List Expr} {scope : Scope} {own : List (Str × Nat)} {pos : Pos} {t t1 : CT} {mi mi1 : Ev → M (List PV)} {mif mif1 : Ev → M Bool} {me mk mv : ME}
def tTs (x : Fix) (m : Ev → M Bool) : TT := fun σ H Q => ∃ cup F env, Good x cup F H ∧ Slots x F H σ env ∧ WP x (m env) cup F H fun b _ F' H' => Q b H'
theorem PTs.weak {e : List Expr} {t t' : TT} (h : PTs X e t) (w : ∀ σ H Q, t' σ H Q → t σ H Q) : PTs X e t' := ⟨fun pins s σ H Q I q => h.run pins s σ H Q I (w σ H Q q)⟩
theorem pts_nilE : PTs X [] (tTs x fun _ => pure true) := by
  refine PTs.weak pts_nil fun σ H Q h => ?_
  obtain ⟨cup, F, env, g, sl, w⟩ := h
  exact w.pure g
theorem pts_oneE {call : Str → List PV → M PV} {e : Expr} {ce : CE} (h : PT X e (tT x (evalE call ce))) : PTs X [e] (tTs x (evalIfs call [ce])) := by
  refine PTs.weak (pts_one h) fun σ H Q h => ?_
  obtain ⟨cup, F, env, g, sl, w⟩ := h
  refine ⟨cup, F, env, g, sl, ?_⟩
  have w : WP x (evalE call ce env >>= fun v => truM v >>= fun t => if t then pure true else pure false) cup F H fun b _ F' H' => Q b H' := w
  rw [← bind_assocM] at w
  refine (WP.bind w).mono fun b c F1 H1 s1 g1 w1 => ?_
  cases b
  · exact (show WP x (pure false : M Bool) c F1 H1 _ from w1).pure g1
  · exact (show WP x (pure true : M Bool) c F1 H1 _ from w1).pure g1
/-- one turn of a list's comprehension -/
def lcF (own : List Nat) (t : CT) (mif : Ev → M Bool) (me : ME) (env : Ev) : PV → M (List PV) := fun y => do
  let env' ← asgT t y (wipeE env own)
  let b ← mif env'
  if b then do let v ← me env'; pure [v] else pure []
theorem drop_cons {α : Type} {l : List α} {i : Nat} {p : α} (h : l[i]? = some p) : l.drop i = p :: l.drop (i + 1) := by
  obtain ⟨hi, e⟩ := List.getElem?_eq_some_iff.mp h
  rw [List.drop_eq_getElem_cons hi, e]
theorem lc_imp (hsub : ∀ i ∈ tIx t, i ∈ own.map (·.2)) :
    ∀ σ H Q, tN x (fun env => do let xs ← mi env; let vs ← flatM (lcF (own.map (·.2)) t mif me env) xs; pure (.lst vs)) σ H Q → tLc (iE x (stepR x) mi) (gE x t) (tTs x mif) (tE x me) (own.map (·.2)) σ H Q := by
  intro σ H Q h
  obtain ⟨cup, F, env, g, sl, w⟩ := h
  refine ⟨cup, F, env, g, sl, (WP.bind w).mono fun xs c0 F1 H1 s1 g1 w1 J gs D hD => ?_⟩
  generalize hP : (fun v _ F' H' => ∀ a, Own x F' H' v a → H a = none → Q (.ref a) H' : PV → Cup → Hp → Hp → Prop) = P at w1
  let f := lcF (own.map (·.2)) t mif me env
  refine ⟨fun i n H' => n = xs.length - i ∧ i ≤ xs.length ∧ ∃ c F' acc accV, Good x c F' H' ∧ Step x.C F1 H1 F' H' ∧ F' D = none ∧ H' D = some (.lst accV) ∧ acc.length ≤ i ∧ RepVs x.K F' x.C acc accV ∧ WP x (flatM f (xs.drop i) >>= fun r => pure (.lst (acc ++ r))) c F1 H1 P, ⟨xs.length, by simp, Nat.zero_le _, c0, F1, [], [], g1.own hD, Step.own g1 hD, g1.nF hD, upd_same, Nat.le_refl _, .nil, by rw [List.drop_zero]; exact w1⟩, ?_⟩
  rintro i n H' ⟨rfl, hi, c, F', acc, accV, g', st, hFD, hHD, hl, ra, w2⟩
  have zl := gs.len
  have hCD := g1.notC hD
  by_cases hlt : i < xs.length
  · obtain ⟨p, hp⟩ : ∃ p, xs[i]? = some p := ⟨_, List.getElem?_eq_getElem hlt⟩
    refine .inr ⟨gs.go i p c F' H' g' st hp, fun H' => _ = _ ∧ _, fun H'' hn => ⟨xs.length - (i + 1), by omega, hn⟩, fun y H2 hy => ?_⟩
    obtain ⟨F2, s2, g2, ry⟩ := gs.yld i p c F' H' y H2 g' st hp hy
    rw [drop_cons hp] at w2
    have w3 : WP x ((asgT t p (wipeE env (own.map (·.2))) >>= fun env' => mif env' >>= fun b => if b then me env' >>= fun v => pure [v] else pure []) >>= fun a => flatM f (xs.drop (i + 1)) >>= fun b => pure (.lst (acc ++ (a ++ b)))) c F1 H1 P := by
      have e : (flatM f (p :: xs.drop (i + 1)) >>= fun r => pure (PV.lst (acc ++ r))) = (f p >>= fun a => flatM f (xs.drop (i + 1)) >>= fun b => pure (.lst (acc ++ (a ++ b)))) := by
        show ((f p >>= fun a => flatM f (xs.drop (i + 1)) >>= fun b => pure (a ++ b)) >>= fun r => pure (PV.lst (acc ++ r))) = _
        rw [bind_assocM]
        congr 1
        funext a
        rw [bind_assocM]
        rfl
      rw [e] at w2
      exact w2
    rw [bind_assocM] at w3
    obtain ⟨env', ea, w4⟩ := WP.optB w3
    have sl0 : Slots x F2 H2 σ env := ((sl.step s1).step st).step s2
    refine ⟨p, c, F2, wipeE env (own.map (·.2)), env', g2, sl0.wipe _, ry, ea, fun σ2 sl2 hw2 => ⟨by rw [hw2 _ hsub, wipe_wipe], ?_⟩⟩
    rw [bind_assocM] at w4
    refine ⟨c, F2, env', g2, sl2, ((WP.bindB w4).later (st.trans s2)).mono fun b c3 F3 H3 s3 g3 w5 => ?_⟩
    have ow : Own x F3 H3 (.lst acc) D := (show Own x F' H' (.lst acc) D from ⟨hFD, hCD, accV, hHD, by rw [← ra.length]; omega, ra⟩).step (s2.trans s3)
    cases b with
    | false =>
      obtain ⟨o1, o2, vs', o3, o4, o5⟩ := ow
      exact ⟨rfl, by omega, c3, F3, acc, vs', g3, (st.trans s2).trans s3, o1, o3, by omega, o5, w5⟩
    | true =>
      have w6 : WP x (me env' >>= fun v => flatM f (xs.drop (i + 1)) >>= fun b => pure (.lst (acc ++ ([v] ++ b)))) c3 F1 H1 P := by
        have w5 : WP x ((me env' >>= fun v => pure [v]) >>= fun a => flatM f (xs.drop (i + 1)) >>= fun b => pure (.lst (acc ++ (a ++ b)))) c3 F1 H1 P := w5
        rw [bind_assocM] at w5
        exact w5
      refine ⟨c3, F3, env', g3, sl2.step s3, ((WP.bindB w6).later ((st.trans s2).trans s3)).mono fun v c4 F4 H4 s4 g4 w7 yv rv => ?_⟩
      obtain ⟨o1, o2, vs', o3, o4, o5⟩ := ow.step s4
      have hlen := o5.length
      refine ⟨vs', o3, by rw [line_eq]; omega, rfl, by omega, c4, F4, acc ++ [v], vs' ++ [yv], g4.setOwn o1 (g1.dom _ hD) hCD, (((st.trans s2).trans s3).trans s4).setNew hD, o1, upd_same, by rw [List.length_append]; simp; omega, o5.append (.cons rv .nil), ?_⟩
      have e : (fun b => pure (PV.lst (acc ++ ([v] ++ b))) : List PV → M PV) = fun b => pure (PV.lst (acc ++ [v] ++ b)) := by
        funext b
        rw [List.append_assoc]
      rw [← e]
      exact w7
  · have e : i = xs.length := by omega
    subst e
    refine .inl ⟨gs.stop _ c F' H' g' st (Nat.le_refl _), ?_⟩
    rw [List.drop_length] at w2
    have w3 : WP x (pure (.lst (acc ++ [])) : M PV) c F1 H1 P := w2
    rw [List.append_nil] at w3
    subst hP
    exact w3.pureB st g' D ⟨hFD, hCD, accV, hHD, by rw [← ra.length]; omega, ra⟩ (s1.dom _ hD)

/-! ### two clauses -/
theorem wipeE_own {env : Ev} {i : Nat} {w : PV} : ∀ {vs : List Nat}, (wipeE env vs)[i]? = some (.own w) → env[i]? = some (.own w) ∧ i ∉ vs
  | [], h => ⟨h, by simp⟩
  | v :: vs, h => by
    have h : ((wipeE env vs).set v .no)[i]? = some (.own w) := h
    by_cases e : v = i
    · subst e
      by_cases hv : v < (wipeE env vs).length
      · rw [List.getElem?_set_self hv] at h; cases h
      · rw [List.getElem?_eq_none (by rw [List.length_set]; omega)] at h; cases h
    · rw [List.getElem?_set_ne e] at h
      obtain ⟨a, b⟩ := wipeE_own h
      exact ⟨a, by simp only [List.mem_cons, not_or]; exact ⟨fun q => e q.symm, b⟩⟩
mutual
theorem asgO_own {i : Nat} {w : PV} : ∀ {t : CT} {v : PV} {env env' : Ev}, asgO t v env = some env' → env'[i]? = some (.own w) → env[i]? = some (.own w)
  | .nm j, v, env, env', h, e => by
    have h : some (env.set j (.val v)) = some env' := h
    cases h
    by_cases q : j = i
    · subst q
      by_cases hv : j < env.length
      · rw [List.getElem?_set_self hv] at e; cases e
      · rw [List.getElem?_eq_none (by rw [List.length_set]; omega)] at e; cases e
    · rw [List.getElem?_set_ne q] at e
      exact e
  | .tup ts, .tup vs, env, env', h, e => asgOs_own (ts := ts) (vs := vs) h e
  | .tup _, .non, _, _, h, _ => by simp [asgO] at h
  | .tup _, .bl _, _, _, h, _ => by simp [asgO] at h
  | .tup _, .int _, _, _, h, _ => by simp [asgO] at h
  | .tup _, .str _, _, _, h, _ => by simp [asgO] at h
  | .tup ts, .lst vs, env, env', h, e => asgOs_own (ts := ts) (vs := vs) h e
  | .tup _, .dict _, _, _, h, _ => by simp [asgO] at h
  | .tup _, .set _, _, _, h, _ => by simp [asgO] at h
  | .tup _, .cell, _, _, h, _ => by simp [asgO] at h
  | .tup _, .fn _, _, _, h, _ => by simp [asgO] at h
theorem asgOs_own {i : Nat} {w : PV} : ∀ {ts : List CT} {vs : List PV} {env env' : Ev}, asgOs ts vs env = some env' → env'[i]? = some (.own w) → env[i]? = some (.own w)
  | [], [], env, env', h, e => by cases h; exact e
  | [], _ :: _, _, _, h, _ => by simp [asgOs] at h
  | _ :: _, [], _, _, h, _ => by simp [asgOs] at h
  | t :: ts, v :: vs, env, env', h, e => by
    unfold asgOs at h
    obtain ⟨e1, h1, h2⟩ := Option.bind_eq_some_iff.mp h
    exact asgO_own h1 (asgOs_own h2 e)
end
/-- slots behind a turn: what is one's own stands since the base, what is frozen since later -/
theorem Slots.mix {Fb Hb F2 H2 F' H' : Hp} {σ σ2 : L2.St} {env env2 : Ev} {vs : List Nat} (h : Slots x Fb Hb σ env) (h2 : Slots x F2 H2 σ2 env2) (ho : ∀ i w, env2[i]? = some (.own w) → env[i]? = some (.own w) ∧ i ∉ vs) (hw : L2.wipe σ2 vs = L2.wipe σ vs) (s : Step x.C Fb Hb F' H') (l : Le F2 F') : Slots x F' H' σ2 env2 where
  len := h2.len
  sep := h2.sep
  ok := fun i => by
    have k := h2.ok i
    cases e : env2[i]? with
    | none => trivial
    | some sl =>
      rw [e] at k
      cases sl with
      | no => trivial
      | val v => obtain ⟨y, e1, r⟩ := k; exact ⟨y, e1, r.le l⟩
      | own v =>
        obtain ⟨e1, hn⟩ := ho i v e
        have k2 := (h.step s).ok i
        rw [e1] at k2
        obtain ⟨a, e2, o⟩ := k2
        have a1 := wipe_get σ2 i vs
        have a2 := wipe_get σ i vs
        rw [if_neg hn] at a1 a2
        exact ⟨a, by rw [← a1, hw, a2]; exact e2, o⟩
def lcG (t1 : CT) (mif1 : Ev → M Bool) (me : ME) (env' : Ev) : PV → List PV → M (List PV) := fun y acc => do
  let env'' ← asgT t1 y (wipeE env' (tIx t1))
  let b ← mif1 env''
  if b then do let v ← me env''; pushV acc v else pure acc
def lcF2 (own : List Nat) (t : CT) (mif : Ev → M Bool) (mi1 : Ev → M (List PV)) (t1 : CT) (mif1 : Ev → M Bool) (me : ME) (env : Ev) : PV → List PV → M (List PV) := fun y acc => do
  let env' ← asgT t y (wipeE env own)
  let b ← mif env'
  if b then do let ys ← mi1 env'; flatA (lcG t1 mif1 me env') ys acc else pure acc
theorem push_ok {acc : List PV} {v : PV} {c F H} {α : Type} {k : List PV → M α} {P : α → Cup → Hp → Hp → Prop} (w : WP x (pushV acc v >>= k) c F H P) : acc.length < LINE ∧ WP x (k (acc ++ [v])) c F H P := by
  unfold pushV at w
  by_cases h : acc.length < LINE
  · rw [if_pos h] at w; exact ⟨h, w⟩
  · rw [if_neg h] at w; exact w.elim
theorem lc2_imp (hsub : ∀ i ∈ tIx t, i ∈ own.map (·.2)) (hsub1 : ∀ i ∈ tIx t1, i ∈ own.map (·.2)) :
    ∀ σ H Q, tN x (fun env => do let xs ← mi env; let vs ← flatA (lcF2 (own.map (·.2)) t mif mi1 t1 mif1 me env) xs []; pure (.lst vs)) σ H Q →
      tLc2 (iE x (stepR x) mi) (gE x t) (tTs x mif) (iE x leR mi1) (gE x t1) (tTs x mif1) (tE x me) (own.map (·.2)) (tIx t1) σ H Q := by
  intro σ H Q h
  obtain ⟨cup, F, env, g, sl, w⟩ := h
  refine ⟨cup, F, env, g, sl, (WP.bind w).mono fun xs c0 F1 H1 s1 g1 w1 J gs D hD => ?_⟩
  generalize hP : (fun v _ F' H' => ∀ a, Own x F' H' v a → H a = none → Q (.ref a) H' : PV → Cup → Hp → Hp → Prop) = P at w1
  let f := lcF2 (own.map (·.2)) t mif mi1 t1 mif1 me env
  refine ⟨fun i n H' => n = xs.length - i ∧ i ≤ xs.length ∧ ∃ c F' acc accV, Good x c F' H' ∧ Step x.C F1 H1 F' H' ∧ F' D = none ∧ H' D = some (.lst accV) ∧ acc.length ≤ LINE ∧ RepVs x.K F' x.C acc accV ∧ WP x (flatA f (xs.drop i) acc >>= fun r => pure (.lst r)) c F1 H1 P, ⟨xs.length, by simp, Nat.zero_le _, c0, F1, [], [], g1.own hD, Step.own g1 hD, g1.nF hD, upd_same, Nat.zero_le _, .nil, by rw [List.drop_zero]; exact w1⟩, ?_⟩
  rintro i n H' ⟨rfl, hi, c, F', acc, accV, g', st, hFD, hHD, hl, ra, w2⟩
  have hCD := g1.notC hD
  by_cases hlt : i < xs.length
  · obtain ⟨p, hp⟩ : ∃ p, xs[i]? = some p := ⟨_, List.getElem?_eq_getElem hlt⟩
    refine .inr ⟨gs.go i p c F' H' g' st hp, fun H' => _ = _ ∧ _, fun H'' hn => ⟨xs.length - (i + 1), by omega, hn⟩, fun y H2 hy => ?_⟩
    obtain ⟨F2, s2, g2, ry⟩ := gs.yld i p c F' H' y H2 g' st hp hy
    rw [drop_cons hp] at w2
    let kk : List PV → M PV := fun a => flatA f (xs.drop (i + 1)) a >>= fun r => pure (.lst r)
    have w3 : WP x ((asgT t p (wipeE env (own.map (·.2))) >>= fun env' => mif env' >>= fun b => if b then mi1 env' >>= fun ys => flatA (lcG t1 mif1 me env') ys acc else pure acc) >>= kk) c F1 H1 P := by
      have e : (flatA f (p :: xs.drop (i + 1)) acc >>= fun r => pure (PV.lst r)) = (f p acc >>= kk) := by
        show ((f p acc >>= fun a => flatA f (xs.drop (i + 1)) a) >>= fun r => pure (PV.lst r)) = _
        rw [bind_assocM]
      rw [e] at w2
      exact w2
    rw [bind_assocM] at w3
    obtain ⟨env', ea, w4⟩ := WP.optB w3
    have sl0 : Slots x F2 H2 σ env := ((sl.step s1).step st).step s2
    refine ⟨p, c, F2, wipeE env (own.map (·.2)), env', g2, sl0.wipe _, ry, ea, fun σ2 sl2 hw2 => ?_⟩
    have hw2' : L2.wipe σ2 (own.map (·.2)) = L2.wipe σ (own.map (·.2)) := by rw [hw2 _ hsub, wipe_wipe]
    refine ⟨hw2', ?_⟩
    have hown : ∀ j w, env'[j]? = some (.own w) → env[j]? = some (.own w) ∧ j ∉ own.map (·.2) := fun j w e => wipeE_own (asgO_own ea e)
    rw [bind_assocM] at w4
    refine ⟨c, F2, env', g2, sl2, ((WP.bindB w4).later (st.trans s2)).mono fun b c3 F3 H3 s3 g3 w5 => ?_⟩
    have ow : Own x F3 H3 (.lst acc) D := (show Own x F' H' (.lst acc) D from ⟨hFD, hCD, accV, hHD, by rw [← ra.length]; omega, ra⟩).step (s2.trans s3)
    have st3 := (st.trans s2).trans s3
    cases b with
    | false =>
      obtain ⟨o1, o2, vs', o3, o4, o5⟩ := ow
      exact ⟨rfl, by omega, c3, F3, acc, vs', g3, st3, o1, o3, hl, o5, w5⟩
    | true =>
      have w6 : WP x (mi1 env' >>= fun ys => flatA (lcG t1 mif1 me env') ys acc >>= kk) c3 F1 H1 P := by
        have w5 : WP x ((mi1 env' >>= fun ys => flatA (lcG t1 mif1 me env') ys acc) >>= kk) c3 F1 H1 P := w5
        rw [bind_assocM] at w5
        exact w5
      refine ⟨c3, F3, env', g3, sl2.step s3, ((WP.bindB w6).later st3).mono fun ys c4 F4 H4 s4 g4 w7 J1 gs1 => ?_⟩
      obtain ⟨o1, o2, vs', o3, o4, o5⟩ := ow.step s4
      refine ⟨fun j k H' => k = ys.length - j ∧ j ≤ ys.length ∧ ∃ c F' acc accV, Good x c F' H' ∧ Step x.C F1 H1 F' H' ∧ Le F4 F' ∧ F' D = none ∧ H' D = some (.lst accV) ∧ acc.length ≤ LINE ∧ RepVs x.K F' x.C acc accV ∧ WP x (flatA (lcG t1 mif1 me env') (ys.drop j) acc >>= kk) c F1 H1 P, ⟨ys.length, by simp, Nat.zero_le _, c4, F4, acc, vs', g4, st3.trans s4, Le.refl _, o1, o3, hl, o5, by rw [List.drop_zero]; exact w7⟩, ?_⟩
      rintro j k H5 ⟨rfl, hj, c5, F5, acc5, accV5, g5, st5, le5, hFD5, hHD5, hl5, ra5, w8⟩
      by_cases hlt1 : j < ys.length
      · obtain ⟨p1, hp1⟩ : ∃ p, ys[j]? = some p := ⟨_, List.getElem?_eq_getElem hlt1⟩
        refine .inr ⟨gs1.go j p1 c5 F5 H5 g5 le5 hp1, fun H' => _ = _ ∧ _, fun H'' hn => ⟨ys.length - (j + 1), by omega, hn⟩, fun y1 H6 hy1 => ?_⟩
        obtain ⟨F6, s6, g6, ry1⟩ := gs1.yld j p1 c5 F5 H5 y1 H6 g5 le5 hp1 hy1
        rw [drop_cons hp1] at w8
        have w9 : WP x ((asgT t1 p1 (wipeE env' (tIx t1)) >>= fun env'' => mif1 env'' >>= fun b => if b then me env'' >>= fun v => pushV acc5 v else pure acc5) >>= fun a => flatA (lcG t1 mif1 me env') (ys.drop (j + 1)) a >>= kk) c5 F1 H1 P := by
          have e : (flatA (lcG t1 mif1 me env') (p1 :: ys.drop (j + 1)) acc5 >>= kk) = (lcG t1 mif1 me env' p1 acc5 >>= fun a => flatA (lcG t1 mif1 me env') (ys.drop (j + 1)) a >>= kk) := by
            show ((lcG t1 mif1 me env' p1 acc5 >>= fun a => flatA (lcG t1 mif1 me env') (ys.drop (j + 1)) a) >>= kk) = _
            rw [bind_assocM]
          rw [e] at w8
          exact w8
        rw [bind_assocM] at w9
        obtain ⟨env'', ea1, w10⟩ := WP.optB w9
        have slm : Slots x F6 H6 σ2 env' := Slots.mix (sl.step s1) (sl2.step s3) hown hw2' (st5.trans s6) ((s4.grow.trans le5).trans s6.grow)
        refine ⟨p1, c5, F6, wipeE env' (tIx t1), env'', g6, slm.wipe _, ry1, ea1, fun σ3 sl3 hw3 => ⟨by rw [hw3 _ (fun i h => h), wipe_wipe], ?_⟩⟩
        rw [bind_assocM] at w10
        refine ⟨c5, F6, env'', g6, sl3, ((WP.bindB w10).later (st5.trans s6)).mono fun b c7 F7 H7 s7 g7 w11 => ?_⟩
        have ow5 : Own x F7 H7 (.lst acc5) D := (show Own x F5 H5 (.lst acc5) D from ⟨hFD5, hCD, accV5, hHD5, by rw [← ra5.length]; omega, ra5⟩).step (s6.trans s7)
        have st7 := (st5.trans s6).trans s7
        have le7 := (le5.trans s6.grow).trans s7.grow
        cases b with
        | false =>
          obtain ⟨o1, o2, vs', o3, o4, o5⟩ := ow5
          exact ⟨rfl, by omega, c7, F7, acc5, vs', g7, st7, le7, o1, o3, hl5, o5, w11⟩
        | true =>
          have w12 : WP x (me env'' >>= fun v => pushV acc5 v >>= fun a => flatA (lcG t1 mif1 me env') (ys.drop (j + 1)) a >>= kk) c7 F1 H1 P := by
            have w11 : WP x ((me env'' >>= fun v => pushV acc5 v) >>= fun a => flatA (lcG t1 mif1 me env') (ys.drop (j + 1)) a >>= kk) c7 F1 H1 P := w11
            rw [bind_assocM] at w11
            exact w11
          refine ⟨c7, F7, env'', g7, sl3.step s7, ((WP.bindB w12).later st7).mono fun v c8 F8 H8 s8 g8 w13 yv rv => ?_⟩
          obtain ⟨hlen, w14⟩ := push_ok w13
          obtain ⟨o1, o2, vs', o3, o4, o5⟩ := ow5.step s8
          have hlen2 := o5.length
          exact ⟨vs', o3, by rw [line_eq]; omega, rfl, by omega, c8, F8, acc5 ++ [v], vs' ++ [yv], g8.setOwn o1 (g1.dom _ hD) hCD, (st7.trans s8).setNew hD, le7.trans s8.grow, o1, upd_same, by rw [List.length_append]; simp; omega, o5.append (.cons rv .nil), w14⟩
      · have e : j = ys.length := by omega
        subst e
        refine .inl ⟨gs1.stop _ c5 F5 H5 g5 le5 (Nat.le_refl _), ?_⟩
        rw [List.drop_length] at w8
        exact ⟨rfl, by omega, c5, F5, acc5, accV5, g5, st5, hFD5, hHD5, hl5, ra5, w8⟩
  · have e : i = xs.length := by omega
    subst e
    refine .inl ⟨gs.stop _ c F' H' g' st (Nat.le_refl _), ?_⟩
    rw [List.drop_length] at w2
    have w3 : WP x (pure (.lst acc) : M PV) c F1 H1 P := w2
    subst hP
    exact w3.pureB st g' D ⟨hFD, hCD, accV, hHD, by rw [← ra.length]; omega, ra⟩ (s1.dom _ hD)

/-! ### dicts -/
theorem RepKs.any {K F C} {k : PV} {q : Key} (h : keyV k = some q) : ∀ {d : List (PV × PV)} {ks : List (Key × V)}, RepKs K F C d ks → (ks.any fun kv => decide (kv.1 = q)) = d.any (fun p => PV.beq k p.1)
  | _, _, .nil => rfl
  | (a, b) :: r, (q', v) :: ks, .cons hk hv t => by
    rw [List.any_cons, List.any_cons, RepKs.any h t]
    congr 1
    rw [beq_key h hk]
    exact decide_eq_decide.mpr ⟨fun e => e.symm, fun e => e.symm⟩
theorem RepKs.map {K F C} {k b : PV} {q : Key} {v : V} (h : keyV k = some q) (rv : RepV K F C b v) : ∀ {d : List (PV × PV)} {ks : List (Key × V)}, RepKs K F C d ks → RepKs K F C (d.map fun p => if PV.beq k p.1 then (p.1, b) else p) (ks.map fun kv => if kv.1 = q then (kv.1, v) else kv)
  | _, _, .nil => .nil
  | (a, b') :: r, (q', v') :: ks, .cons hk hv t => by
    have e := beq_key h hk
    have ih := RepKs.map h rv t
    show RepKs K F C ((if PV.beq k a = true then (a, b) else (a, b')) :: _) ((if q' = q then (q', v) else (q', v')) :: _)
    by_cases c : q = q'
    · rw [decide_eq_true c] at e
      rw [e, if_pos rfl, if_pos c.symm]
      exact .cons hk rv ih
    · rw [decide_eq_false c] at e
      rw [e, if_neg (by decide), if_neg fun z => c z.symm]
      exact .cons hk hv ih
theorem RepKs.append {K F C} : ∀ {d e : List (PV × PV)} {ks ls : List (Key × V)}, RepKs K F C d ks → RepKs K F C e ls → RepKs K F C (d ++ e) (ks ++ ls)
  | _, _, _, _, .nil, h => h
  | _, _, _, _, .cons hk hv t, h => .cons hk hv (RepKs.append t h)
theorem RepKs.put {K F C} {k b : PV} {q : Key} {v : V} (h : keyV k = some q) (rv : RepV K F C b v) {d : List (PV × PV)} {ks : List (Key × V)} (r : RepKs K F C d ks) : RepKs K F C (putD k b d) (putK ks q v) := by
  unfold putD putK
  rw [r.any h]
  by_cases c : d.any (fun p => PV.beq k p.1) = true
  · rw [if_pos c, if_pos c]; exact r.map h rv
  · rw [if_neg c, if_neg c]; exact r.append (.cons h rv .nil)
theorem putD_len (k v : PV) (d : List (PV × PV)) : (putD k v d).length ≤ d.length + 1 := by
  unfold putD
  split
  · rw [List.length_map]; omega
  · rw [List.length_append]; simp
def dcF (own : List Nat) (t : CT) (mif : Ev → M Bool) (mk mv : ME) (env : Ev) : PV → M (List PV) := fun y => do
  let env' ← asgT t y (wipeE env own)
  let b ← mif env'
  if b then do let a ← mk env'; let b ← mv env'; guardM (isKey a); pure [.tup [a, b]] else pure []
theorem guardB {b : Bool} {c F H} {α : Type} {k : Unit → M α} {P : α → Cup → Hp → Hp → Prop} (w : WP x (guardM b >>= k) c F H P) : b = true ∧ WP x (k ()) c F H P := by
  cases b with
  | true => exact ⟨rfl, w⟩
  | false => exact w.elim
theorem dc_imp (hsub : ∀ i ∈ tIx t, i ∈ own.map (·.2)) :
    ∀ σ H Q, tN x (fun env => do let xs ← mi env; let vs ← flatM (dcF (own.map (·.2)) t mif mk mv env) xs; mkD vs []) σ H Q → tDc (iE x (stepR x) mi) (gE x t) (tTs x mif) (tE x mk) (tE x mv) (own.map (·.2)) σ H Q := by
  intro σ H Q h
  obtain ⟨cup, F, env, g, sl, w⟩ := h
  refine ⟨cup, F, env, g, sl, (WP.bind w).mono fun xs c0 F1 H1 s1 g1 w1 J gs D hD => ?_⟩
  generalize hP : (fun v _ F' H' => ∀ a, Own x F' H' v a → H a = none → Q (.ref a) H' : PV → Cup → Hp → Hp → Prop) = P at w1
  let f := dcF (own.map (·.2)) t mif mk mv env
  refine ⟨fun i n H' => n = xs.length - i ∧ i ≤ xs.length ∧ ∃ c F' d ks, Good x c F' H' ∧ Step x.C F1 H1 F' H' ∧ F' D = none ∧ H' D = some (.dK ks) ∧ d.length ≤ i ∧ RepKs x.K F' x.C d ks ∧ WP x (flatM f (xs.drop i) >>= fun r => mkD r d) c F1 H1 P, ⟨xs.length, by simp, Nat.zero_le _, c0, F1, [], [], g1.own hD, Step.own g1 hD, g1.nF hD, upd_same, Nat.le_refl _, .nil, by rw [List.drop_zero]; exact w1⟩, ?_⟩
  rintro i n H' ⟨rfl, hi, c, F', acc, accV, g', st, hFD, hHD, hl, ra, w2⟩
  have zl := gs.len
  have hCD := g1.notC hD
  by_cases hlt : i < xs.length
  · obtain ⟨p, hp⟩ : ∃ p, xs[i]? = some p := ⟨_, List.getElem?_eq_getElem hlt⟩
    refine .inr ⟨gs.go i p c F' H' g' st hp, fun H' => _ = _ ∧ _, fun H'' hn => ⟨xs.length - (i + 1), by omega, hn⟩, fun y H2 hy => ?_⟩
    obtain ⟨F2, s2, g2, ry⟩ := gs.yld i p c F' H' y H2 g' st hp hy
    rw [drop_cons hp] at w2
    have w3 : WP x ((asgT t p (wipeE env (own.map (·.2))) >>= fun env' => mif env' >>= fun b => if b then mk env' >>= fun a => mv env' >>= fun b => guardM (isKey a) >>= fun _ => pure [.tup [a, b]] else pure []) >>= fun a => flatM f (xs.drop (i + 1)) >>= fun b => mkD (a ++ b) acc) c F1 H1 P := by
      have e : (flatM f (p :: xs.drop (i + 1)) >>= fun r => mkD r acc) = (f p >>= fun a => flatM f (xs.drop (i + 1)) >>= fun b => mkD (a ++ b) acc) := by
        show ((f p >>= fun a => flatM f (xs.drop (i + 1)) >>= fun b => pure (a ++ b)) >>= fun r => mkD r acc) = _
        rw [bind_assocM]
        congr 1
        funext a
        rw [bind_assocM]
        rfl
      rw [e] at w2
      exact w2
    rw [bind_assocM] at w3
    obtain ⟨env', ea, w4⟩ := WP.optB w3
    have sl0 : Slots x F2 H2 σ env := ((sl.step s1).step st).step s2
    refine ⟨p, c, F2, wipeE env (own.map (·.2)), env', g2, sl0.wipe _, ry, ea, fun σ2 sl2 hw2 => ⟨by rw [hw2 _ hsub, wipe_wipe], ?_⟩⟩
    rw [bind_assocM] at w4
    refine ⟨c, F2, env', g2, sl2, ((WP.bindB w4).later (st.trans s2)).mono fun b c3 F3 H3 s3 g3 w5 => ?_⟩
    have ow : Own x F3 H3 (.dict acc) D := (show Own x F' H' (.dict acc) D from ⟨hFD, hCD, accV, hHD, by rw [← ra.length]; omega, ra⟩).step (s2.trans s3)
    have st3 := (st.trans s2).trans s3
    cases b with
    | false =>
      obtain ⟨o1, o2, vs', o3, o4, o5⟩ := ow
      exact ⟨rfl, by omega, c3, F3, acc, vs', g3, st3, o1, o3, by omega, o5, w5⟩
    | true =>
      have w6 : WP x (mk env' >>= fun a => mv env' >>= fun b => guardM (isKey a) >>= fun _ => flatM f (xs.drop (i + 1)) >>= fun r => mkD (.tup [a, b] :: r) acc) c3 F1 H1 P := by
        have w5 : WP x ((mk env' >>= fun a => mv env' >>= fun b => guardM (isKey a) >>= fun _ => pure [.tup [a, b]]) >>= fun a => flatM f (xs.drop (i + 1)) >>= fun b => mkD (a ++ b) acc) c3 F1 H1 P := w5
        simp only [bind_assocM] at w5
        exact w5
      refine ⟨c3, F3, env', g3, sl2.step s3, ((WP.bindB w6).later st3).mono fun a c4 F4 H4 s4 g4 w7 y rv => ?_⟩
      refine ⟨c4, F4, env', g4, (sl2.step s3).step s4, ((WP.bindB w7).later (st3.trans s4)).mono fun b c5 F5 H5 s5 g5 w8 z rz => ?_⟩
      obtain ⟨hk, w9⟩ := guardB w8
      obtain ⟨q, hq, ey⟩ := isKey_keyV hk (x := x) (F := F4) (H := H4) (.inl rv)
      obtain ⟨o1, o2, vs', o3, o4, o5⟩ := (ow.step s4).step s5
      have hlen := o5.length
      refine ⟨vs', q, ey, o3, by rw [line_eq]; omega, rfl, by omega, c5, F5, putD a b acc, putK vs' q z, g5.setOwn o1 (g1.dom _ hD) hCD, ((st3.trans s4).trans s5).setNew hD, o1, upd_same, Nat.le_trans (putD_len _ _ _) (by omega), o5.put hq rz, ?_⟩
      have e : (fun r => mkD (.tup [a, b] :: r) acc) = fun r => mkD r (putD a b acc) := by
        funext r
        show (if isKey a = true then mkD r (putD a b acc) else fail) = _
        rw [if_pos hk]
      rw [← e]
      exact w9
  · have e : i = xs.length := by omega
    subst e
    refine .inl ⟨gs.stop _ c F' H' g' st (Nat.le_refl _), ?_⟩
    rw [List.drop_length] at w2
    have w3 : WP x (pure (.dict acc) : M PV) c F1 H1 P := w2
    subst hP
    exact w3.pureB st g' D ⟨hFD, hCD, accV, hHD, by rw [← ra.length]; omega, ra⟩ (s1.dom _ hD)
end
end EV

set_option maxRecDepth 100000
set_option maxHeartbeats 4000000
/-! EvX: what the translator gives runs as the evaluator says. -/
namespace EV
open PySem PySem.Spec PyProof.Rows L2

/-- a new dict is locked -/
theorem pe_ofN {X : Cx} {x : Fix} {e : Expr} {m : ME} (h : PE X e (tN x m)) : PE X e (tR x m) := by
  refine ⟨fun pins s σ H Q I q => ?_⟩
  obtain ⟨cup, F, env, g, sl, w⟩ := q
  by_cases hd : ∃ d c, m env cup = .ok (.dict d) c
  · obtain ⟨d, c, e1⟩ := hd
    have w' : ∀ F' H', Step x.C F H F' H' → Good x c F' H' → ∀ y, RepR x F' H' H (.dict d) y → Q y H' := by
      unfold WP at w
      rw [e1] at w
      exact w
    refine thn (h.run pins s σ H (fun y H1 => ∃ a ks F1, y = .ref a ∧ Good x c F1 H1 ∧ Step x.C F H F1 H1 ∧ H a = none ∧ F1 a = none ∧ x.C ≠ some a ∧ H1 a = some (.dK ks) ∧ ks.length ≤ LINE ∧ RepKs x.K F1 x.C d ks) I ⟨cup, F, env, g, sl, ?_⟩) fun v s1 ⟨y, H1, I1, r1, a, ks, F1, ey, g1, s1, n0, o1, o2, o3, z, r⟩ => ?_
    · unfold WP
      rw [e1]
      intro F1 H1 s1 g1 a ⟨o1, o2, ks, o3, z, r⟩ n
      exact ⟨a, ks, F1, rfl, g1, s1, n, o1, o2, o3, z, r⟩
    · subst ey
      obtain ⟨od, I2⟩ := I1.lock o3 trivial
      refine ⟨.ref a, _, I2, r1, w' (upd F1 a (.frz od (.dK ks))) _ ⟨?_, ?_, ?_, ?_⟩ (g1.lock o3 o1 (g.dom _ n0) o2) _ (.inl (.dict upd_same z (r.le (le_upd o1))))⟩
      · exact s1.grow.trans (le_upd o1)
      · intro b u hb
        by_cases e : b = a
        · subst e; exact .inr n0
        · rw [upd_ne e] at hb; exact s1.new b u hb
      · intro b u hb n t
        have : b ≠ a := fun e => by rw [e, n0] at hb; cases hb
        rw [upd_ne this]
        exact s1.frame b u hb n t
      · intro b hb
        by_cases e : b = a
        · subst e; exact n0
        · rw [upd_ne e] at hb; exact s1.dom b hb
  · refine h.run pins s σ H Q I ⟨cup, F, env, g, sl, w.monoV fun v c F1 H1 e1 s1 g1 q a o n => ?_⟩
    cases v with
    | lst l => exact q _ (.inr ⟨a, rfl, ⟨⟨l, rfl⟩, o⟩, n⟩)
    | dict d => exact absurd ⟨d, c, e1⟩ hd
    | _ => exact o.2.2.elim
theorem pe_toP {X : Cx} {x : Fix} {e : Expr} {m : ME} (h : PE X e (tR x m)) : PE X e (tP x m) := h.weak fun _ _ _ => tR_tP
theorem pe_toE {X : Cx} {x : Fix} {e : Expr} {m : ME} (h : PE X e (tR x m)) : PE X e (tE x m) := h.weak fun _ _ _ => tR_tE

/-! ### the context -/
def BI : List Str := ["len", "all", "any", "sum", "int", "str", "abs", "tuple", "list", "min", "max", "bool", "isinstance", "range", "enumerate", "zip", "set", "sorted"]
structure ECtx (X : Cx) (x : Fix) (call : Str → List PV → M PV) (g : Glb) (N : List Str) (sc : Scope) : Prop where
  K : X.K = x.K
  E : x.E = noE
  eN : X.N = N
  nd : N.Nodup
  sc : X.env.scope = sc
  calm : X.calm = true
  hu : X.A.units + 66 < cLine
  bi : ∀ b ∈ BI, X.mg b = none
  co : ∀ y v, g.consts.lookup y = some v → ∃ w u, X.mg y = some u ∧ RelV w u ∧ ∀ F C, RepV x.K F C v w
  ca : ∃ k j, k ≤ j ∧ Room j X.A ∧ ∀ f, g.funs.contains f = true → C8.Cal X.prog X.w X.K X.mg X.base k f (spF x.K (call f)) []
section
variable {X : Cx} {x : Fix} {call : Str → List PV → M PV} {g : Glb} {N : List Str} {sc : Scope}
theorem ECtx.blk (C : ECtx X x call g N sc) (s : Shared) (H : Hp) (scope : Scope) (cl : List (Str × Addr)) (a : Addr) (fp : List Addr) : ECtx (X.blk s H scope (compEnvC scope cl a X.env) fp) x call g N (relSc scope sc) where
  K := C.K
  E := C.E
  eN := C.eN
  nd := C.nd
  sc := by
    show relabel scope X.env = relSc scope sc
    rw [← C.sc]
    rfl
  calm := C.calm
  hu := C.hu
  bi := C.bi
  co := C.co
  ca := C.ca
theorem maySt_blk (C : ECtx X x call g N sc) (s : Shared) (H : Hp) (scope : Scope) (cl : List (Str × Addr)) (a : Addr) (fp : List Addr) : MaySt (X.blk s H scope (compEnvC scope cl a X.env) fp) scope := fun y h => by
  have e : (X.blk s H scope (compEnvC scope cl a X.env) fp).env.scope.names = (relabel scope X.env).names := rfl
  unfold isStore at h
  have key : ∀ k, k ≠ NameKind.free → scope.names.lookup y = some k → (relabel scope X.env).names.lookup y = some k := fun k hk hl => lookup_relS_keep (sc := X.env.scope) hk hl
  cases hl : scope.names.lookup y with
  | none => rw [hl] at h; cases h
  | some k =>
    rw [hl] at h
    cases k with
    | «local» => exact ⟨.inl (key _ (by decide) hl), .inr (key _ (by decide) hl)⟩
    | cell => exact ⟨.inr (key _ (by decide) hl), .inl (by show (scope.names.lookup y == some NameKind.cell) = true; rw [hl]; rfl)⟩
    | _ => cases h
theorem gl_of (C : ECtx X x call g N sc) {y : Str} (h : isGl sc y = true) : Gl X y := by
  have := of_decide_eq_true h
  rw [← C.sc] at this
  exact this
theorem vis_of (C : ECtx X x call g N sc) {y : Str} (h : isLoc sc y = true) : Vis X.env.scope y := by
  rw [C.sc]
  unfold isLoc at h
  unfold Vis
  cases hl : sc.names.lookup y with
  | none => rw [hl] at h; cases h
  | some k =>
    rw [hl] at h
    cases k with
    | «local» => exact .inl rfl
    | cell => exact .inr (.inl rfl)
    | free => exact .inr (.inr rfl)
    | _ => cases h

/-! ### what is translated -/
theorem trE_ns {n : Nat} {pk : Bool} {e : Expr} {c : CE} (h : trE g N n pk sc e = some c) : NotStar e := by
  cases n with
  | zero => cases h
  | succ n =>
    cases e <;> first
      | (intro es env; rfl)
      | cases h
/-- the claims of an expression -/
structure Ok (X : Cx) (x : Fix) (call : Str → List PV → M PV) (g : Glb) (N : List Str) (sc : Scope) (n : Nat) : Prop where
  e : ∀ e c, trE g N n false sc e = some c → PE X e (tR x (evalE call c))
  p : ∀ e c, trE g N n true sc e = some c → PE X e (tP x (evalE call c))
  i : ∀ e c, trE g N n true sc e = some c → PE X e (tI x (fun env => do guardM (!ownD env c); evalE call c env))
  t : ∀ pk e c, trE g N n pk sc e = some c → PT X e (tT x (evalE call c))
  n : ∀ e c, trE g N n false sc e = some c → fresh c = true → PE X e (tN x (evalE call c))

theorem allSome_mem {α β : Type} {f : α → Option β} : ∀ {es : List α} {l : List β}, allSome (es.map f) = some l → ∀ e ∈ es, ∃ c, f e = some c
  | [], l, _, e, he => by cases he
  | a :: es, l, h, e, he => by
    obtain ⟨b, l', h1, h2, e1⟩ := allSome_cons h
    rcases List.mem_cons.mp he with rfl | he
    · exact ⟨b, h1⟩
    · exact allSome_mem h2 e he
theorem allSome_len {α β : Type} {f : α → Option β} : ∀ {es : List α} {l : List β}, allSome (es.map f) = some l → l.length = es.length
  | [], l, h => by cases h; rfl
  | a :: es, l, h => by
    obtain ⟨b, l', h1, h2, e1⟩ := allSome_cons h
    subst e1
    exact congrArg (· + 1) (allSome_len h2)
theorem pasE {n : Nat} (O : Ok X x call g N sc n) : ∀ {es : List Expr} {l : List CE}, allSome (es.map (trE g N n false sc)) = some l → PA X es (tAs x (evalEs call l))
  | [], l, h => by cases h; exact pa_nilE
  | e :: es, l, h => by
    obtain ⟨c, l', h1, h2, e1⟩ := allSome_cons h
    subst e1
    exact pa_consE (trE_ns h1) (pe_toE (O.e e c h1)) (pasE O h2)
theorem pasP {n : Nat} (O : Ok X x call g N sc n) : ∀ {es : List Expr} {l : List CE}, allSome (es.map (trE g N n true sc)) = some l → PA X es (tPs x (evalEs call l))
  | [], l, h => by cases h; exact pa_nilP
  | e :: es, l, h => by
    obtain ⟨c, l', h1, h2, e1⟩ := allSome_cons h
    subst e1
    exact pa_consP (trE_ns h1) (O.p e c h1) (pasP O h2)
theorem boolR {n : Nat} (C : ECtx X x call g N sc) (O : Ok X x call g N sc n) {op : BoolOp} {pos : Pos} : ∀ {es : List Expr} {c : CE}, trBool (trE g N n) sc op es = some c → PE X (.BoolOp op es pos) (tR x (evalE call c)) ∧ PW X (.BoolOp op es pos) (tT x (evalE call c))
  | [], c, h => by cases h
  | [e], c, h => by
    have h : trE g N n false sc e = some c := h
    refine ⟨pe_one (O.e e c h), ?_⟩
    cases op
    · exact pw_and1 (O.t false e c h)
    · exact pw_or1 (O.t false e c h)
  | e :: e2 :: r, c, h => by
    unfold trBool at h
    cases h1 : trE g N n false sc e with
    | none => rw [h1] at h; cases h
    | some a =>
      cases h2 : trBool (trE g N n) sc op (e2 :: r) with
      | none => rw [h1, h2] at h; cases h
      | some b =>
        rw [h1, h2] at h
        obtain ⟨r1, r2⟩ := boolR C O (pos := pos) h2
        cases op
        · cases h
          exact ⟨pe_andE C.K (O.e e a h1) r1, pw_andE (O.t false e a h1) r2⟩
        · cases h
          exact ⟨pe_orE C.K (O.e e a h1) r1, pw_orE (O.t false e a h1) r2⟩
theorem behind_none {n : Nat} {pk : Bool} {e : Expr} {c : CE} (h : trE g N n pk sc e = some c) (op : CmpOp) : behindInMarks op e = false := by
  cases n with
  | zero => cases h
  | succ n =>
    cases e <;> first
      | rfl
      | cases h
theorem plainIx_of {n : Nat} {pk : Bool} {e : Expr} {c : CE} (h : trE g N n pk sc e = some c) : PlainIx e := by
  cases n with
  | zero => cases h
  | succ n =>
    cases e <;> first
      | (intro _ _; rfl)
      | cases h
theorem folded_of {e : Expr} (h : setless e = true) : ∀ env v, foldedSetIterable e env v = pure v := by
  intro env v
  cases e <;> first
    | rfl
    | cases h

/-! ### iterables -/
theorem pe_guardG {Rep : Hp → Hp → PV → V → Prop} {e : Expr} {m : ME} {b : Ev → Bool} (h : PE X e (tG x Rep m)) : PE X e (tG x Rep fun env => do guardM (b env); m env) := by
  refine h.weak fun σ H Q q => ?_
  obtain ⟨cup, F, env, g, sl, w⟩ := q
  exact ⟨cup, F, env, g, sl, (guardB (k := fun _ => m env) w).2⟩
/-- the parts of a comprehension's or a loop's iterable: looked at or frozen -/
structure Way (X : Cx) (x : Fix) (call : Str → List PV → M PV) (R : Bool → Scope → Expr → Option CE) (sc : Scope) (pk : Bool) (Rep : Hp → Hp → PV → V → Prop) (rel : Hp → Hp → Hp → Hp → Prop) : Prop where
  w : Walk x Rep rel
  st : ∀ F H F1 H1 v y, Rep F H v y → Step x.C F H F1 H1 → Rep F1 H1 v y
  e : ∀ e c, R pk sc e = some c → PE X e (tG x Rep fun env => do guardM (!ownD env c); evalE call c env)
theorem seq_ok (C : ECtx X x call g N sc) {R : Bool → Scope → Expr → Option CE} {pk : Bool} {Rep rel} (W : Way X x call R sc pk Rep rel) {tg e : Expr} {c : CE} (h : R pk sc e = some c) : PI X tg e (iE x rel (evalIt call (.seq c))) := by
  refine PI.weak (pi_seqG C.K W.w (W.e e c h)) fun σ H R h => ?_
  obtain ⟨cup, F, env, g, sl, w⟩ := h
  refine ⟨cup, F, env, g, sl, ?_⟩
  have e : ((guardM (!ownD env c) >>= fun _ => evalE call c env) >>= fun v => optM (seqOf v)) = evalIt call (.seq c) env := by
    rw [bind_assocM]
    rfl
  show WP x ((guardM (!ownD env c) >>= fun _ => evalE call c env) >>= fun v => optM (seqOf v)) cup F H _
  rw [e]
  exact w
theorem repI_step : ∀ F H F1 H1 v y, RepI x F H v y → Step x.C F H F1 H1 → RepI x F1 H1 v y := fun F H F1 H1 v y h s => h.elim (fun h => .inl (h.le s.grow)) fun ⟨a, e, o⟩ => .inr ⟨a, e, o.step s⟩
theorem wayI {n : Nat} (O : Ok X x call g N sc n) : Way X x call (trE g N n) sc true (RepI x) (stepR x) := ⟨walkI, repI_step, fun e c h => O.i e c h⟩
theorem wayE {n : Nat} (O : Ok X x call g N sc n) : Way X x call (trE g N n) sc false (fun F _ v y => RepV x.K F x.C v y) leR := ⟨walkE, fun _ _ _ _ _ _ h s => h.le s.grow, fun e c h => pe_guardG (pe_toE (O.e e c h))⟩

theorem iE_eq {rel} {m m' : Ev → M (List PV)} (h : ∀ env, m env = m' env) {X : Cx} {tg e : Expr} (p : PI X tg e (iE x rel m)) : PI X tg e (iE x rel m') := by
  have : m = m' := funext h
  rw [← this]
  exact p
theorem it_ok {n : Nat} (C : ECtx X x call g N sc) (O : Ok X x call g N sc n) {pk : Bool} {Rep rel} (W : Way X x call (trE g N n) sc pk Rep rel) {tg e : Expr} {ci : CIt} (h : trIt pk (trE g N n) g sc (isTup tg) e = some ci) : PI X tg e (iE x rel (evalIt call ci)) := by
  have seq : ∀ {e' : Expr} {ci : CIt}, (trE g N n pk sc e').map CIt.seq = some ci → PI X tg e' (iE x rel (evalIt call ci)) := fun {e' ci} h => by
    obtain ⟨c, h1, h2⟩ := Option.map_eq_some_iff.mp h
    subst h2
    exact seq_ok C W h1
  unfold trIt at h
  split at h
  · rename_i y p as q
    split at h
    · rename_i hgl
      have hgl : (isGl sc y && !(g.funs.contains y) && (g.consts.lookup y).isNone) = true := hgl
      have hgl1 : isGl sc y = true := (Bool.and_eq_true_iff.mp (Bool.and_eq_true_iff.mp hgl).1).1
      have hG := gl_of C hgl1
      split at h
      · rename_i hy
        have hy := eq_of_beq hy
        subst hy
        split at h
        · cases h
        · rename_i hlen
          obtain ⟨l, h1, h2⟩ := Option.map_eq_some_iff.mp h
          subst h2
          have hm : X.mg "range" = none := C.bi _ (by decide)
          match as, h1, hlen with
          | [], _, hlen => exact absurd rfl hlen
          | [a], h1, _ =>
            obtain ⟨c, l', e1, e2, e3⟩ := allSome_cons h1
            cases e2
            subst e3
            exact pi_rng1 hG hm (trE_ns e1) (O.p a c e1)
          | [a, b], h1, _ =>
            obtain ⟨c, l', e1, e2, e3⟩ := allSome_cons h1
            obtain ⟨c2, l2, e4, e5, e6⟩ := allSome_cons e2
            cases e5
            subst e3 e6
            exact pi_rng2 hG hm (trE_ns e1) (trE_ns e4) (O.p a c e1) (O.p b c2 e4)
          | [a, b, d], h1, _ =>
            obtain ⟨c, l', e1, e2, e3⟩ := allSome_cons h1
            obtain ⟨c2, l2, e4, e5, e6⟩ := allSome_cons e2
            obtain ⟨c3, l3, e7, e8, e9⟩ := allSome_cons e5
            cases e8
            subst e3 e6 e9
            exact pi_rng3 hG hm (trE_ns e1) (trE_ns e4) (trE_ns e7) (O.p a c e1) (O.p b c2 e4) (O.p d c3 e7)
          | _ :: _ :: _ :: _ :: r, _, hlen => exact absurd (by simp) hlen
      · split at h
        · rename_i hy
          have hy := eq_of_beq hy
          subst hy
          split at h
          · rename_i a
            split at h
            · rename_i htt
              obtain ⟨c, h1, h2⟩ := Option.map_eq_some_iff.mp h
              subst h2
              cases tg with
              | Tuple elts kk tpos =>
                refine iE_eq (fun env => ?_) (pi_enmG C.K W.w hG (C.bi _ (by decide)) (trE_ns h1) (W.e a c h1))
                show ((guardM (!ownD env c) >>= fun _ => evalE call c env) >>= fun v => _) = _
                rw [bind_assocM]
                rfl
              | _ => cases htt
            · cases h
          · cases h
        · split at h
          · rename_i hy
            have hy := eq_of_beq hy
            subst hy
            split at h
            · rename_i a b
              cases h1 : trE g N n pk sc a with
              | none => rw [h1] at h; cases h
              | some c =>
                cases h2 : trE g N n pk sc b with
                | none => rw [h1, h2] at h; cases h
                | some c2 =>
                  rw [h1, h2] at h
                  have h : (if isTup tg = true then some (CIt.zip c c2) else none) = some ci := h
                  split at h
                  · rename_i htt
                    cases h
                    cases tg with
                    | Tuple elts kk tpos =>
                      refine iE_eq (fun env => ?_) (pi_zipE C.K W.w W.st hG (C.bi _ (by decide)) (trE_ns h1) (trE_ns h2) (W.e a c h1) (W.e b c2 h2))
                      show ((guardM (!ownD env c) >>= fun _ => evalE call c env) >>= fun v => (guardM (!ownD env c2) >>= fun _ => evalE call c2 env) >>= fun w => zipM v w) = _
                      rw [bind_assocM]
                      show _ = (guardM (!ownD env c) >>= fun _ => evalE call c env >>= fun v => guardM (!ownD env c2) >>= fun _ => evalE call c2 env >>= fun w => zipM v w)
                      congr 1
                      funext _
                      congr 1
                      funext v
                      rw [bind_assocM]
                    | _ => cases htt
                  · cases h
            · cases h
          · exact seq h
    · exact seq h
  · exact seq h

/-! ### comprehensions -/
theorem cl_ok {n : Nat} {own : List (Str × Nat)} {scs : Scope} {c : Comprehension} {c' : CCl} {pk : Bool} {sci : Scope} (h : trCl pk (trE g N n) g N (own.map (·.2)) scs sci sc c = some c') :
    ∃ tg it ifs t it' ifs', c = ⟨tg, it, ifs, 0⟩ ∧ c' = .mk t it' ifs' ∧ trT 8 N scs tg = some t ∧ trIt pk (trE g N n) g sci (isTup tg) it = some it' ∧ allSome (ifs.map (trE g N n true sc)) = some ifs' ∧ (∀ i ∈ tIx t, i ∈ own.map (·.2)) ∧ ifs.length ≤ 1 ∧ setless it = true := by
  unfold trCl at h
  split at h
  · rename_i hc
    obtain ⟨hc, h3⟩ := Bool.and_eq_true_iff.mp hc
    obtain ⟨h1, h2⟩ := Bool.and_eq_true_iff.mp hc
    obtain ⟨tg, it, ifs, asy⟩ := c
    have h1 : asy = 0 := eq_of_beq h1
    subst h1
    cases e1 : trT 8 N scs tg with
    | none => simp only [e1] at h; cases h
    | some t =>
      cases e2 : trIt pk (trE g N n) g sci (isTup tg) it with
      | none => simp only [e1, e2] at h; cases h
      | some it' =>
        cases e3 : allSome (ifs.map (trE g N n true sc)) with
        | none => simp only [e1, e2, e3] at h; cases h
        | some ifs' =>
          simp only [e1, e2, e3] at h
          split at h
          · rename_i hs
            cases h
            exact ⟨tg, it, ifs, t, it', ifs', rfl, rfl, e1, e2, e3, fun i hi => by
              have := List.all_eq_true.mp hs i hi
              exact List.contains_iff_mem.mp this, of_decide_eq_true h2, h3⟩
          · cases h
  · cases h
theorem pts_ok {n : Nat} (O : Ok X x call g N sc n) : ∀ {ifs : List Expr} {l : List CE}, allSome (ifs.map (trE g N n true sc)) = some l → ifs.length ≤ 1 → PTs X ifs (tTs x (evalIfs call l))
  | [], l, h, _ => by cases h; exact pts_nilE
  | [e], l, h, _ => by
    obtain ⟨c, l', e1, e2, e3⟩ := allSome_cons h
    cases e2
    subst e3
    exact pts_oneE (O.t true e c e1)
  | _ :: _ :: _, _, _, h => by simp at h
theorem ownIx_ok {scope : Scope} {own : List (Str × Nat)} (h : ownIx N sc scope = some own) : BlkOk N sc scope own := by
  unfold ownIx at h
  split at h
  · split at h
    · rename_i hb
      cases h
      exact blkOk_by hb
    · cases h
  · cases h
theorem lc1_ok {n : Nat} (C : ECtx X x call g N sc) (O : Ok X x call g N sc n) (OB : ∀ X sc, ECtx X x call g N sc → Ok X x call g N sc n) {el : Expr} {c : Comprehension} {scope : Scope} {own : List (Str × Nat)} {c' : CCl} {e' : CE} {pos : Pos}
    (ho : ownIx N sc scope = some own) (h1 : trCl true (trE g N n) g N (own.map (·.2)) scope sc (relSc scope sc) c = some c') (h2 : trE g N n false (relSc scope sc) el = some e') : PE X (.ListComp el [c] scope pos) (tN x (evalE call (.comp e' (own.map (·.2)) c' []))) := by
  obtain ⟨tg, it, ifs, t, it', ifs', rfl, rfl, a1, a2, a3, a4, a5, a6⟩ := cl_ok h1
  have B := fun s H a cl fp => C.blk s H scope cl a fp
  refine (pe_lc C.calm (by rw [C.eN]; exact C.nd) (it_ok C O (wayI O) a2) (by rw [C.eN, C.sc]; exact ownIx_ok ho)
    (fun s H a cl fp => pg_ok (x := x) (B s H a cl fp).K (B s H a cl fp).calm (B s H a cl fp).eN (B s H a cl fp).nd (maySt_blk C s H scope cl a fp) 8 tg t a1)
    (fun s H a cl fp => pts_ok (OB _ _ (B s H a cl fp)) a3 a5) (fun s H a cl fp => pe_toE ((OB _ _ (B s H a cl fp)).e el e' h2)) (fun v => folded_of a6 _ v)).weak fun σ H Q h => ?_
  exact lc_imp a4 σ H Q h
theorem lc2_ok {n : Nat} (C : ECtx X x call g N sc) (O : Ok X x call g N sc n) (OB : ∀ X sc, ECtx X x call g N sc → Ok X x call g N sc n) {el : Expr} {c c2 : Comprehension} {scope : Scope} {own : List (Str × Nat)} {c' c2' : CCl} {e' : CE} {pos : Pos}
    (ho : ownIx N sc scope = some own) (h1 : trCl true (trE g N n) g N (own.map (·.2)) scope sc (relSc scope sc) c = some c') (h1' : trCl false (trE g N n) g N (own.map (·.2)) scope (relSc scope sc) (relSc scope sc) c2 = some c2') (h2 : trE g N n false (relSc scope sc) el = some e') :
    PE X (.ListComp el [c, c2] scope pos) (tN x (evalE call (.comp e' (own.map (·.2)) c' [c2']))) := by
  obtain ⟨tg, it, ifs, t, it', ifs', rfl, rfl, a1, a2, a3, a4, a5, a6⟩ := cl_ok h1
  obtain ⟨tg2, it2, ifs2, t2, it2', ifs2', rfl, rfl, b1, b2, b3, b4, b5, b6⟩ := cl_ok h1'
  have B := fun s H a cl fp => C.blk s H scope cl a fp
  refine (pe_lc2 C.calm (by rw [C.eN]; exact C.nd) (it_ok C O (wayI O) a2) (by rw [C.eN, C.sc]; exact ownIx_ok ho) b4
    (fun s H a cl fp => pg_ok (x := x) (B s H a cl fp).K (B s H a cl fp).calm (B s H a cl fp).eN (B s H a cl fp).nd (maySt_blk C s H scope cl a fp) 8 tg t a1)
    (fun s H a cl fp => pts_ok (OB _ _ (B s H a cl fp)) a3 a5)
    (fun s H a cl fp => it_ok (B s H a cl fp) (OB _ _ (B s H a cl fp)) (wayE (OB _ _ (B s H a cl fp))) b2)
    (fun s H a cl fp => pg_ok (x := x) (B s H a cl fp).K (B s H a cl fp).calm (B s H a cl fp).eN (B s H a cl fp).nd (maySt_blk C s H scope cl a fp) 8 tg2 t2 b1)
    (fun s H a cl fp => pts_ok (OB _ _ (B s H a cl fp)) b3 b5)
    (fun s H a cl fp => pe_toE ((OB _ _ (B s H a cl fp)).e el e' h2)) (fun v => folded_of a6 _ v) (fun env v => folded_of b6 env v)).weak fun σ H Q h => ?_
  exact lc2_imp a4 b4 σ H Q h
theorem dc1_ok {n : Nat} (C : ECtx X x call g N sc) (O : Ok X x call g N sc n) (OB : ∀ X sc, ECtx X x call g N sc → Ok X x call g N sc n) {k v : Expr} {c : Comprehension} {scope : Scope} {own : List (Str × Nat)} {c' : CCl} {k' v' : CE} {pos : Pos}
    (ho : ownIx N sc scope = some own) (h1 : trCl true (trE g N n) g N (own.map (·.2)) scope sc (relSc scope sc) c = some c') (h2 : trE g N n false (relSc scope sc) k = some k') (h3 : trE g N n false (relSc scope sc) v = some v') : PE X (.DictComp k v [c] scope pos) (tN x (evalE call (.dcomp k' v' (own.map (·.2)) c' []))) := by
  obtain ⟨tg, it, ifs, t, it', ifs', rfl, rfl, a1, a2, a3, a4, a5, a6⟩ := cl_ok h1
  have B := fun s H a cl fp => C.blk s H scope cl a fp
  refine (pe_dc C.calm (by rw [C.eN]; exact C.nd) (it_ok C O (wayI O) a2) (by rw [C.eN, C.sc]; exact ownIx_ok ho)
    (fun s H a cl fp => pg_ok (x := x) (B s H a cl fp).K (B s H a cl fp).calm (B s H a cl fp).eN (B s H a cl fp).nd (maySt_blk C s H scope cl a fp) 8 tg t a1)
    (fun s H a cl fp => pts_ok (OB _ _ (B s H a cl fp)) a3 a5) (fun s H a cl fp => pe_toE ((OB _ _ (B s H a cl fp)).e k k' h2)) (fun s H a cl fp => pe_toE ((OB _ _ (B s H a cl fp)).e v v' h3)) (fun v => folded_of a6 _ v)).weak fun σ H Q h => ?_
  exact dc_imp a4 σ H Q h
end
end EV

set_option maxRecDepth 100000
set_option maxHeartbeats 4000000
/-! EvSet: a set of tuples of ints and texts, its search and its growth (the table's laws are L2's). -/
namespace EV
open PySem PySem.Spec PyProof.Rows L2
section
variable {P : Program} {w : World} {A : Around} {E : Value → Shared → Prop} {s : Shared}
abbrev tHash (P : Program) (w : World) (k : List Key) : Int := tupleKeyHash (mixKind P w) k
abbrev TupAt (P : Program) (w : World) (h : Heap) (k : List Key) (a : Addr) : Prop := IsTupleKey (mixKind P w) h k a
theorem flat_vals {k : List Key} {vs : List Value} (h : ItemsAre (mixKind P w) k vs) : ∀ u ∈ vs, ∃ q, keyIs q u = true := by
  induction h with
  | nil => exact fun u hu => nomatch hu
  | @cons q v qs vs hq _ ih =>
    intro u hu
    cases hu with
    | head => exact ⟨q, hq⟩
    | tail _ hu => exact ih u hu
theorem flat_class (n : Nat) {q : Key} {u : Value} (h : keyIs q u = true) : ofAClassStatement n u = pure false := by
  rcases keyIs_shape h with ⟨i, t, _, rfl⟩ | ⟨x, t, _, rfl⟩ <;> cases n <;> rfl
theorem flat_byval (n : Nat) {q : Key} {u : Value} (h : keyIs q u = true) : ∃ b, hashByValue n u = pure b := by
  rcases keyIs_shape h with ⟨i, t, _, rfl⟩ | ⟨x, t, _, rfl⟩
  · exact ⟨true, by cases n <;> rfl⟩
  · exact ⟨false, by cases n <;> rfl⟩
theorem tup_class {k : List Key} {b : Addr} {Q : Bool → Shared → Prop} (hk : TupAt P w s.heap k b) (h : Q false s) : wpAny (model P w) A (ofAClassStatement 8 (.ref b)) Q E s := by
  have ht := hk.typeIs
  obtain ⟨ob, its, n, hob, -, hdat, hits⟩ := hk
  unfold ofAClassStatement
  apply wpAny_bind
  apply wpAny_typeOf ht
  dsimp only
  have et : (("tuple" : String) == "tuple") = true := by decide
  simp only [et, if_true, Bool.not_true, Bool.false_eq_true, if_false]
  try apply wpAny_bind (wpAny_pure _)
  try simp only [Bool.not_true, Bool.false_eq_true, if_false]
  apply wpAny_bind
  apply wpAny_seqItems hob hdat
  dsimp only
  apply wpAny_bind
  show wpAny _ _ (forIn its _ _) _ _ s
  rw [← Array.forIn_toList]
  apply wpAny_forIn_list _ (fun todo r z => r.1 = none ∧ z = s ∧ ∀ u ∈ todo, ∃ q, keyIs q u = true)
  · rintro u todo r z ⟨e0, rfl, hu⟩
    obtain ⟨q, hq⟩ := hu u List.mem_cons_self
    rw [flat_class _ hq]
    apply wpAny_bind
    apply wpAny_pure
    simp only [Bool.false_eq_true, if_false]
    exact wpAny_pure ⟨rfl, rfl, fun y hy => hu y (List.mem_cons_of_mem _ hy)⟩
  · rintro ⟨r1, r2⟩ z ⟨e0, rfl, _⟩
    simp only at e0
    subst e0
    exact wpAny_pure h
  · exact ⟨rfl, rfl, flat_vals hits⟩
theorem tup_byval {k : List Key} {b : Addr} {Q : Bool → Shared → Prop} (hk : TupAt P w s.heap k b) (h : ∀ c, Q c s) : wpAny (model P w) A (hashByValue 8 (.ref b)) Q E s := by
  have ht := hk.typeIs
  obtain ⟨ob, its, n, hob, -, hdat, hits⟩ := hk
  unfold hashByValue
  apply wpAny_bind
  apply wpAny_specialOf ht F.slot_tuple_hash.lookup
  show wpAny _ _ (seqItems? (.ref b) >>= _) _ _ s
  apply wpAny_bind
  apply wpAny_seqItems hob hdat
  apply wpAny_bind
  show wpAny _ _ (forIn its _ _) _ _ s
  rw [← Array.forIn_toList]
  apply wpAny_forIn_list _ (fun todo r z => r.1 = none ∧ z = s ∧ ∀ u ∈ todo, ∃ q, keyIs q u = true)
  · rintro u todo r z ⟨-, rfl, hu⟩
    obtain ⟨q, hq⟩ := hu u List.mem_cons_self
    obtain ⟨c, hc⟩ := flat_byval 7 hq
    rw [hc]
    apply wpAny_bind
    apply wpAny_pure
    cases c with
    | true =>
      simp only [Bool.not_true, Bool.false_eq_true, if_false]
      exact wpAny_pure ⟨rfl, rfl, fun y hy => hu y (List.mem_cons_of_mem _ hy)⟩
    | false =>
      simp only [Bool.not_false, if_true]
      exact wpAny_pure (wpAny_pure (h _))
  · rintro ⟨r1, r2⟩ z ⟨e0, rfl, _⟩
    simp only at e0
    subst e0
    exact wpAny_pure (h _)
  · exact ⟨rfl, rfl, flat_vals hits⟩

/-- asking whether a search among such tuples shows anything -/
theorem quiet_search {k : List Key} {b : Addr} {Q : Bool → Shared → Prop} (hk : TupAt P w s.heap k b) {ys : List Value} (hy : ∀ y ∈ ys, ∃ q c, y = Value.ref c ∧ TupAt P w s.heap q c) (h : Q false s) :
    wpAny (model P w) A (searchCouldBeSeen (.ref b) ys) Q E s := by
  unfold searchCouldBeSeen
  apply wpAny_bind
  apply wpAny_forIn_list _ (fun todo r z => r.1 = none ∧ z = s ∧ ∀ y ∈ todo, ∃ q c, y = Value.ref c ∧ TupAt P w s.heap q c)
  · rintro y todo r z ⟨e0, rfl, hall⟩
    obtain ⟨q, c, rfl, hc⟩ := hall y List.mem_cons_self
    have more : ∀ y ∈ todo, ∃ q c, y = Value.ref c ∧ TupAt P w z.heap q c := fun y hy => hall y (List.mem_cons_of_mem _ hy)
    dsimp only
    by_cases same : (b == c || (carriedByValue (.ref b) && carriedByValue (.ref c))) = true
    · exact wp_if_pos same (wpAny_pure ⟨rfl, rfl, more⟩)
    · apply wp_if_neg same
      apply wpAny_bind
      apply wpAny_eqIsQuiet_tuple hk
      simp only [Bool.not_true, Bool.false_eq_true, if_false]
      apply wpAny_bind
      apply wpAny_eqIsQuiet_tuple hc
      simp only [Bool.not_true, Bool.false_eq_true, if_false]
      apply wpAny_bind
      apply tup_class hk
      simp only [Bool.false_eq_true, if_false]
      apply wpAny_bind
      apply tup_class hc
      simp only [Bool.false_eq_true, if_false]
      exact wpAny_pure ⟨rfl, rfl, more⟩
  · rintro ⟨r1, r2⟩ z ⟨e0, rfl, _⟩
    simp only at e0
    subst e0
    exact wpAny_pure h
  · exact ⟨rfl, rfl, hy⟩

abbrev Ent := Addr × List Key
def entRows (P : Program) (w : World) (L : List Ent) : List (Int × Value) := L.map fun e => (tHash P w e.2, Value.ref e.1)
def entHash (P : Program) (w : World) (L : List Ent) : List Int := L.map fun e => tHash P w e.2
/-- the set at a has these tuples -/
structure HoldsT (P : Program) (w : World) (h : Heap) (a : Addr) (L : List Ent) (es : Array (Int × Value)) (ep : Nat) (t : SetTable) : Prop where
  ob : ∃ o, h.get? a = some o ∧ o.ExactSet ∧ o.data = .set es ep t
  rows : es.toList = entRows P w L
  tab : TabOk t (entHash P w L)
  nd : (L.map Prod.snd).Nodup
  at_ : ∀ e ∈ L, TupAt P w h e.2 e.1
  room : L.length * 5 < t.mask * 3
  few : L.length < 64
variable {a : Addr} {L : List Ent} {es : Array (Int × Value)} {ep : Nat} {t : SetTable}
theorem rows_size (h : es.toList = entRows P w L) : es.size = L.length := by
  rw [← Array.length_toList, h, entRows, List.length_map]
theorem hash_len : (entHash P w L).length = L.length := by rw [entHash, List.length_map]
theorem rows_at (hr : es.toList = entRows P w L) {i : Nat} {e : Ent} (h : L[i]? = some e) : es[i]? = some (tHash P w e.2, Value.ref e.1) := by
  rw [← Array.getElem?_toList, hr, entRows, List.getElem?_map, h]
  rfl
theorem hash_at {i : Nat} {e : Ent} (h : L[i]? = some e) : (entHash P w L)[i]? = some (tHash P w e.2) := by
  rw [entHash, List.getElem?_map, h]
  rfl
theorem HoldsT.tsz (R : HoldsT P w s.heap a L es ep t) : t.place.size = L.length := R.tab.sz.trans hash_len
theorem fits_of {n : Nat} (h1 : t.place.size = n) (h2 : t.dummies = #[]) (h3 : n ≤ t.mask) : t.fits n = true := by
  unfold SetTable.fits SetTable.fill
  simp only [h1, h2, Bool.and_eq_true, beq_iff_eq, decide_eq_true_eq]
  exact ⟨trivial, h3⟩
theorem HoldsT.fit (R : HoldsT P w s.heap a L es ep t) : t.fits es.size = true := by
  have hm := R.room
  rw [rows_size R.rows]
  exact fits_of R.tsz R.tab.dm (by omega)
theorem HoldsT.stays (R : HoldsT P w s.heap a L es ep t) : ¬ t.gaveWay = true := by
  have ho := mask_odd R.tab.mok
  unfold SetTable.gaveWay
  rw [ho]
  decide
theorem nodummy : ∀ (n : Nat) (q : SetTable.Probe) (m : Nat), q.dummy = none → (nth m q n).dummy = none
  | 0, _, _, h => h
  | n + 1, q, m, h => nodummy n (adv m q) m (by unfold adv; split <;> exact h)
abbrev begin_ (m : Nat) (z : Int) : SetTable.Probe := runAt m (SetTable.bits z % (m + 1)) (SetTable.bits z)
/-- the search, from step c of the way on; the way's first empty slot is its step K -/
theorem find_from (R : HoldsT P w s.heap a L es ep t) {b : Addr} {k : List Key} (hb : TupAt P w s.heap k b) (hu : A.units < cLine) {K : Nat} (hKt : K < 10 * SetTable.turns t.mask)
    (hK : way t.mask (tHash P w k) K ∉ t.place.toList) (hKb : ∀ c, c < K → way t.mask (tHash P w k) c ∈ t.place.toList) {Q : SetFound → Shared → Prop}
    (yes : k ∈ L.map Prod.snd → Q (.there none) s) (no : k ∉ L.map Prod.snd → Q (.free (way t.mask (tHash P w k) K) false) s) (f : Nat) :
    ∀ (c : Nat) (stand : Option SetTable.Probe), stand.getD (t.probeStart (tHash P w k)) = nth t.mask (begin_ t.mask (tHash P w k)) c → c ≤ K → K - c < f →
      (∀ (i : Nat) e, L[i]? = some e → e.2 = k → ∃ d, c ≤ d ∧ d < K ∧ t.place.toList[i]? = some (way t.mask (tHash P w k) d)) →
      wpAny (model P w) A (setSearchFrom a (.ref b) (tHash P w k) true f stand) Q E s := by
  generalize hz : tHash P w k = z at hK hKb no ⊢
  induction f with
  | zero => exact fun c stand _ _ hf _ => absurd hf (Nat.not_lt_zero _)
  | succ f ih =>
    intro c stand hst hc hf hre
    obtain ⟨o, ho, -, hd⟩ := R.ob
    rw [setSearchFrom_succ]
    apply wpAny_bind
    apply wpAny_setState_of ho hd R.fit
    dsimp only
    apply wp_if_neg R.stays
    try apply wpAny_bind (wpAny_pure _)
    have shift : ∀ q, nth t.mask (nth t.mask (begin_ t.mask z) c) q = nth t.mask (begin_ t.mask z) (c + q) := fun q => (nth_add t.mask c _ q).symm
    have slotAt : ∀ q, (nth t.mask (nth t.mask (begin_ t.mask z) c) q).j = way t.mask z (c + q) := fun q => congrArg SetTable.Probe.j (shift q)
    have toK : c + (K - c) = K := by omega
    have hashOf : ∀ (i : Nat) e, L[i]? = some e → (es[i]?.map (·.1)).getD 0 = tHash P w e.2 := fun i e he => by
      rw [rows_at R.rows he]
      rfl
    rcases go_spec t R.tab.ris R.tab.dm (fun i => (es[i]?.map (·.1)).getD 0) z (10 * SetTable.turns t.mask) (K - c) _ (nodummy c _ _ rfl) (by omega)
      (fun q hq => by rw [slotAt]; exact hKb (c + q) (by omega)) (by rw [slotAt, toK]; exact hK) with ⟨q, i, hq, hi, hh, hno, hpr⟩ | ⟨hno, hpr⟩
    · rw [hst]
      have hpr2 : t.probe (fun i => (es[i]?.map (·.1)).getD 0) z (nth t.mask (begin_ t.mask z) c) = some (.candidate (way t.mask z (c + q)) i (nth t.mask (begin_ t.mask z) (c + (q + 1)))) := by
        rw [← slotAt, ← shift]
        exact hpr
      rw [hpr2]
      dsimp only
      rw [slotAt] at hi
      have hil : i < L.length := by
        have u := (List.getElem?_eq_some_iff.mp hi).1
        rw [Array.length_toList, R.tsz] at u
        exact u
      obtain ⟨e, he⟩ : ∃ e, L[i]? = some e := ⟨_, List.getElem?_eq_getElem hil⟩
      have hem : e ∈ L := List.mem_of_getElem? he
      have live : t.slot (way t.mask z (c + q)) = .live i := slot_live R.tab.ris hi
      have after : wpAny (model P w) A (searchRest a (.ref b) z true f es t (way t.mask z (c + q)) i (nth t.mask (begin_ t.mask z) (c + (q + 1)))) Q E s := by
        unfold searchRest
        rw [rows_at R.rows he]
        dsimp only
        apply wpAny_bind
        apply wpAny_holding
        apply wpAny_eqBool_tuple hu (R.at_ e hem) hb
        apply wpAny_bind
        apply wpAny_setState_of ho hd R.fit
        dsimp only
        by_cases eq : e.2 = k
        · exact wp_if_pos (by simp [eq]) (wpAny_pure (yes (List.mem_map.mpr ⟨e, hem, eq⟩)))
        · apply wp_if_neg (by simp [eq])
          try apply wpAny_bind (wpAny_pure _)
          rw [sameMem]
          dsimp only
          simp only [if_true, live, rows_at R.rows he]
          apply wpAny_bind
          apply wpAny_isSame_ref_self
          apply wpAny_bind
          apply wpAny_pure
          simp only [if_true]
          apply wp_if_neg (by simp [eq])
          refine ih (c + (q + 1)) _ rfl (by omega) (by omega) fun i0 e0 h0 hk0 => ?_
          obtain ⟨d, d1, d2, d3⟩ := hre i0 e0 h0 hk0
          refine ⟨d, ?_, d2, d3⟩
          have hd0 : (es[i0]?.map (·.1)).getD 0 = z := by rw [hashOf i0 e0 h0, hk0, hz]
          rcases Nat.lt_trichotomy d (c + q) with lt | eq2 | gt
          · refine absurd hd0 (hno (d - c) i0 (by omega) ?_)
            rw [slotAt, show c + (d - c) = d by omega]
            exact d3
          · rw [eq2] at d3
            have same := (slot_live R.tab.ris d3).symm.trans live
            injection same with same
            rw [same, he] at h0
            cases h0
            exact absurd hk0 eq
          · omega
      by_cases hl : t.led = true
      · apply wp_if_neg (by simp [hl])
        try apply wpAny_bind (wpAny_pure _)
        exact after
      · apply wp_if_pos (by simp [hl])
        apply wpAny_bind
        refine quiet_search hb (fun y hy => ?_) ?_
        · simp only [List.mem_map] at hy
          obtain ⟨r, hr, ey⟩ := hy
          have hr2 : r ∈ es.toList := by
            have : r ∈ es ∧ r.1 = z := by simpa using hr
            simpa using this.1
          rw [R.rows, entRows] at hr2
          obtain ⟨e2, he2, er⟩ := List.mem_map.mp hr2
          exact ⟨e2.2, e2.1, by rw [← ey, ← er], R.at_ e2 he2⟩
        · apply wp_if_neg (by decide)
          try apply wpAny_bind (wpAny_pure _)
          exact after
    · rw [hst]
      have hpr2 : t.probe (fun i => (es[i]?.map (·.1)).getD 0) z (nth t.mask (begin_ t.mask z) c) = some (.empty (way t.mask z K) none) := by
        have e2 : (nth t.mask (nth t.mask (begin_ t.mask z) c) (K - c)).j = way t.mask z K := by rw [slotAt, toK]
        rw [← e2]
        exact hpr
      rw [hpr2]
      dsimp only
      refine wpAny_pure (no fun hin => ?_)
      obtain ⟨e0, he0, hk0⟩ := List.mem_map.mp hin
      obtain ⟨i0, h0⟩ := List.mem_iff_getElem?.mp he0
      obtain ⟨d, d1, d2, d3⟩ := hre i0 e0 h0 hk0
      refine hno (d - c) i0 (by omega) ?_ ((hashOf i0 e0 h0).trans (by rw [hk0, hz]))
      rw [slotAt, show c + (d - c) = d by omega]
      exact d3
theorem find_new (R : HoldsT P w s.heap a L es ep t) {b : Addr} {k : List Key} (hb : TupAt P w s.heap k b) (hu : A.units < cLine) {Q : SetFound → Shared → Prop}
    (yes : k ∈ L.map Prod.snd → Q (.there none) s)
    (no : ∀ K, k ∉ L.map Prod.snd → way t.mask (tHash P w k) K ∉ t.place.toList → (∀ c, c < K → way t.mask (tHash P w k) c ∈ t.place.toList) → Q (.free (way t.mask (tHash P w k) K) false) s) :
    wpAny (model P w) A (setSearch a (.ref b) (tHash P w k) true) Q E s := by
  have hm := R.room
  obtain ⟨K, hKt, hK, hKb⟩ := R.tab.first (by rw [hash_len]; omega) (tHash P w k)
  have small : 10 * SetTable.turns t.mask ≤ 1420 := by
    unfold SetTable.turns
    rcases R.tab.mok with q | q | q <;> omega
  unfold setSearch
  refine find_from R hb hu hKt hK hKb yes (fun hn => no K hn hK hKb) 100000 0 none rfl (Nat.zero_le _) (by omega) fun i e he hk => ?_
  have hil : i < t.place.toList.length := by
    rw [Array.length_toList, R.tsz]
    exact (List.getElem?_eq_some_iff.mp he).1
  have hj := List.getElem?_eq_getElem hil
  obtain ⟨d, d1, d2⟩ := R.tab.before hK (by rw [← hk]; exact hash_at he) hj
  exact ⟨d, Nat.zero_le _, d1, by rw [hj, d2]⟩

theorem tup_stays {h h' : Heap} {k : List Key} {b : Addr} {o : Obj} (hb : TupAt P w h k b) (ho : h.get? a = some o) (hd : o.data = .set es ep t) (hs : Heap.SameBut a h h') : TupAt P w h' k b := by
  obtain ⟨o2, its, n, ho2, hc, hd2, hi⟩ := hb
  have ne : b ≠ a := fun e => by
    rw [e, ho] at ho2
    cases ho2
    rw [hd] at hd2
    cases hd2
  exact ⟨o2, its, n, by rw [hs.2 b ne]; exact ho2, hc, hd2, hi⟩
/-- a permutation of the rows -/
theorem reorder (hr : es.toList = entRows P w L) {order : Array Nat} (hp : order.toList.Perm (List.range L.length)) :
    ∃ M, (order.filterMap (es[·]?)).toList = entRows P w M ∧ M.Perm L ∧ entHash P w M = order.toList.map fun i => (es.map (·.1)).getD i 0 := by
  have go : ∀ l : List Nat, (∀ i ∈ l, i < L.length) → l.filterMap (fun i => es[i]?) = entRows P w (l.filterMap fun i => L[i]?) ∧ entHash P w (l.filterMap fun i => L[i]?) = l.map fun i => (es.map (·.1)).getD i 0 := by
    intro l
    induction l with
    | nil => exact fun _ => ⟨rfl, rfl⟩
    | cons i l ih =>
      intro hl
      obtain ⟨u1, u2⟩ := ih fun j hj => hl j (List.mem_cons_of_mem _ hj)
      have hL := List.getElem?_eq_getElem (hl i List.mem_cons_self)
      have hE := rows_at hr hL
      have hG : (es.map (·.1)).getD i 0 = tHash P w (L[i]'(hl i List.mem_cons_self)).2 := by
        rw [Array.getD_eq_getD_getElem?, Array.getElem?_map, hE]
        rfl
      rw [List.filterMap_cons_some hE, List.filterMap_cons_some hL, u1]
      refine ⟨rfl, ?_⟩
      rw [List.map_cons, hG, ← u2]
      rfl
  obtain ⟨u1, u2⟩ := go order.toList fun i hi => List.mem_range.mp (hp.mem_iff.mp hi)
  refine ⟨order.toList.filterMap fun i => L[i]?, by simpa using u1, ?_, u2⟩
  have all : ∀ n, n ≤ L.length → (List.range n).filterMap (fun i => L[i]?) = L.take n := by
    intro n
    induction n with
    | zero => exact fun _ => rfl
    | succ n ih =>
      intro hn
      rw [List.range_succ, List.filterMap_append, ih (by omega), List.take_succ, List.filterMap_cons_some (List.getElem?_eq_getElem hn), List.getElem?_eq_getElem hn]
      rfl
  have e2 := hp.filterMap fun i => L[i]?
  rw [all _ (Nat.le_refl _), List.take_length] at e2
  exact e2
/-- the table laid anew -/
theorem relaid_set {o : Obj} (ho : s.heap.get? a = some o) (hex : o.ExactSet) (hd : o.data = .set es ep t) (hr : es.toList = entRows P w L) (hsz : t.place.size = L.length) (hdm : t.dummies = #[]) (hm : L.length ≤ t.mask)
    (nd : (L.map Prod.snd).Nodup) (at_ : ∀ e ∈ L, TupAt P w s.heap e.2 e.1) (few : L.length < 64) {want M : Nat}
    (hw : SetTable.sizeAbove want - 1 = M) (hM : MaskOk M) (hw2 : SetTable.sizeAbove want ≤ 128) (room : L.length * 5 < M * 3) {Q : Unit → Shared → Prop}
    (hQ : ∀ h2 L2 es2 ep2 t2, Heap.SameBut a s.heap h2 → HoldsT P w h2 a L2 es2 ep2 t2 → L2.Perm L → Q () { s with heap := h2 }) : wpAny (model P w) A (setRelay a want) Q E s := by
  have hn := rows_size hr
  obtain ⟨t2, order, q, hp, T, em, -, -, -⟩ := relaid_ok t (hs := es.map (·.1)) hw hM (by rw [Array.size_map, hn]; omega)
  rw [Array.size_map, hn] at hp
  obtain ⟨L2, r1, r2, r3⟩ := reorder hr hp
  rw [← r3] at T
  have hn2 : (order.filterMap (es[·]?)).size = es.size := by rw [rows_size r1, r2.length_eq, hn]
  rw [setRelay_eq]
  apply wpAny_bind
  apply wpAny_setState_of ho hd (by rw [hn]; exact fits_of hsz hdm hm)
  dsimp only
  apply wp_if_neg (by rw [sizeLine_eq]; omega)
  try apply wpAny_bind (wpAny_pure _)
  rw [q]
  dsimp only
  apply wpAny_bind
  apply wp_if_neg (by rw [hn2]; simp)
  try apply wpAny_bind (wpAny_pure _)
  apply wpAny_pure
  dsimp only
  have only_ : Heap.SameBut a s.heap (s.heap.update a (Obj.putSet (order.filterMap (es[·]?)) t2)) := Heap.SameBut.update ..
  refine wpAny_storeSet_of ho hd (hQ _ L2 _ (ep + 1) t2 only_ { ob := ⟨_, store_at ho hd, ⟨hex.1, hex.2.1, hex.2.2⟩, rfl⟩, rows := r1, tab := T, nd := (r2.map Prod.snd).nodup_iff.mpr nd, at_ := fun e he => tup_stays (at_ e (r2.mem_iff.mp he)) ho hd only_, room := by rw [r2.length_eq, em]; exact room, few := by rw [r2.length_eq]; exact few } r2) (by rw [hn2, hn, sizeLine_eq]; omega)
/-- one more -/
theorem add_one (R : HoldsT P w s.heap a L es ep t) {b : Addr} {k : List Key} (hb : TupAt P w s.heap k b) (hu : A.units < cLine) (few : L.length + 1 < 64) {Q : Bool → Shared → Prop}
    (hQ : ∀ c h2 L2 es2 ep2 t2, Heap.SameBut a s.heap h2 → HoldsT P w h2 a L2 es2 ep2 t2 → (k ∈ L.map Prod.snd → L2 = L) → (k ∉ L.map Prod.snd → L2.Perm ((b, k) :: L)) → Q c { s with heap := h2 }) :
    wpAny (model P w) A (setAddHashed a (.ref b) (tHash P w k)) Q E s := by
  obtain ⟨o, ho, hex, hd⟩ := R.ob
  have hn := rows_size R.rows
  have hroom := R.room
  unfold setAddHashed
  apply wpAny_holding
  rw [show (100000 : Nat) = 99999 + 1 from rfl, setAddHashedIn_succ]
  apply wpAny_bind
  apply wpAny_setState_of ho hd R.fit
  dsimp only
  apply wp_if_neg (by simp [byScan, Value.scannable])
  refine wpAny_bind (?_ : wpAny (model P w) A (setSearch a (.ref b) (tHash P w k) true) _ E s)
  refine find_new R hb hu (fun hin => ?_) fun K hout hK hKb => ?_
  · dsimp only
    exact wpAny_pure (hQ false s.heap L es ep t (Heap.SameBut.refl a s.heap) R (fun _ => rfl) fun q => absurd hin q)
  · dsimp only
    apply wpAny_bind
    apply wpAny_setState_of ho hd R.fit
    dsimp only
    obtain ⟨u1, u2, u3, u4, u5, u6, u7, u8, u9⟩ := R.tab.put hK hKb
    generalize hput : t.put (way t.mask (tHash P w k) K) = put at u1 u3 u4 u9 ⊢
    obtain ⟨t0, at0⟩ := put
    dsimp only at u1 u3 u4 u9 ⊢
    subst u1
    generalize SetTable.below t.place (way t.mask (tHash P w k) K) = pl at u2 u3 ⊢
    have pm := put_perm L pl (b, k)
    have newRows : (SetTable.insertAt es pl (tHash P w k, Value.ref b)).toList = entRows P w (L.take pl ++ (b, k) :: L.drop pl) := by
      rw [SetTable.toList_insertAt, R.rows]
      simp only [entRows, List.map_append, List.map_cons, List.map_take, List.map_drop]
    have newHash : (entHash P w L).take pl ++ tHash P w k :: (entHash P w L).drop pl = entHash P w (L.take pl ++ (b, k) :: L.drop pl) := by
      simp only [entHash, List.map_append, List.map_cons, List.map_take, List.map_drop]
    rw [newHash] at u3
    have len1 : (L.take pl ++ (b, k) :: L.drop pl).length = L.length + 1 := pm.length_eq
    generalize L.take pl ++ (b, k) :: L.drop pl = L1 at pm newRows u3 len1
    generalize SetTable.insertAt es pl (tHash P w k, Value.ref b) = es1 at newRows ⊢
    have nd1 : (L1.map Prod.snd).Nodup := (pm.map Prod.snd).nodup_iff.mpr (List.nodup_cons.mpr ⟨hout, R.nd⟩)
    have hn1 : es1.size = L.length + 1 := (rows_size newRows).trans len1
    rw [hash_len] at u9
    have cont : ∀ t1 : SetTable, TabOk t1 (entHash P w L1) → t1.mask = t.mask → t1.fill = L.length + 1 →
        wpAny (model P w) A (do
          storeSet a es1 t1
          if (!false && t1.tooFull) = true then setRelay a (SetTable.grown (es.size + 1)) else pure PUnit.unit
          pure true) Q E s := by
      intro t1 T1 em ef
      apply wpAny_bind
      refine wpAny_storeSet_of ho hd ?_ (by rw [hn1, sizeLine_eq]; omega)
      have only_ : Heap.SameBut a s.heap (s.heap.update a (Obj.putSet es1 t1)) := Heap.SameBut.update ..
      have ho1 := store_at (es' := es1) (t' := t1) ho hd
      generalize s.heap.update a (Obj.putSet es1 t1) = h1 at only_ ho1 ⊢
      have at1 : ∀ e ∈ L1, TupAt P w h1 e.2 e.1 := fun e he => by
        cases pm.mem_iff.mp he with
        | head => exact tup_stays hb ho hd only_
        | tail _ he => exact tup_stays (R.at_ e he) ho hd only_
      have full : t1.tooFull = decide ((L.length + 1) * 5 ≥ t.mask * 3) := by
        unfold SetTable.tooFull
        rw [ef, em]
      rw [full, hn]
      by_cases hf : (L.length + 1) * 5 ≥ t.mask * 3
      · dsimp only
        apply wp_if_pos (by simp [hf])
        apply wpAny_bind
        have grow : ∀ M, SetTable.sizeAbove (SetTable.grown (L.length + 1)) - 1 = M → MaskOk M → SetTable.sizeAbove (SetTable.grown (L.length + 1)) ≤ 128 → (L.length + 1) * 5 < M * 3 →
            wpAny (model P w) A (setRelay a (SetTable.grown (L.length + 1))) (fun _ z => wpAny (model P w) A (pure true) Q E z) E { s with heap := h1 } := fun M g1 g2 g3 g4 =>
          relaid_set (s := { s with heap := h1 }) ho1 ⟨hex.1, hex.2.1, hex.2.2⟩ rfl newRows (T1.sz.trans hash_len) T1.dm (by rw [em, len1]; have := R.tab.mok; unfold MaskOk at this; omega) nd1 at1 (by omega) g1 g2 g3 (by rw [len1]; exact g4) fun h2 L2 es2 ep2 t2 sb2 R2 pm2 =>
            wpAny_pure (hQ true h2 L2 es2 ep2 t2 (only_.trans sb2) R2 (fun q => absurd q hout) fun _ => pm2.trans pm)
        rcases R.tab.mok with q | q | q <;> rw [q] at hf hroom
        · obtain e4 : L.length = 4 := by omega
          exact grow 31 (by rw [e4, size_20]) (.inr (.inl rfl)) (by rw [e4, size_20]; decide) (by omega)
        · obtain e18 : L.length = 18 := by omega
          exact grow 127 (by rw [e18, size_76]) (.inr (.inr rfl)) (by rw [e18, size_76]; decide) (by omega)
        · omega
      · dsimp only
        apply wp_if_neg (by simp [hf])
        exact wpAny_pure (hQ true h1 L1 es1 (ep + 1) t1 only_ { ob := ⟨_, ho1, ⟨hex.1, hex.2.1, hex.2.2⟩, rfl⟩, rows := newRows, tab := T1, nd := nd1, at_ := at1, room := by rw [len1, em]; omega, few := by omega } (fun q => absurd q hout) fun _ => pm)
    have off_ : TabOk { t0 with plain := false } (entHash P w L1) := ⟨u3.ris, u3.dm, u3.sz, u3.mok, u3.bd, u3.reach⟩
    by_cases hp : t0.plain = true
    · apply wp_if_pos hp
      apply wpAny_bind
      refine tup_byval hb fun c => ?_
      cases c
      · exact cont { t0 with plain := false } off_ u4 u9
      · exact cont t0 u3 u4 u9
    · apply wp_if_neg hp
      exact cont t0 u3 u4 u9

/-- the keys met so far, each once -/
def once (acc : List (List Key)) (k : List Key) : List (List Key) := if acc.any (fun u => decide (u = k)) = true then acc else acc ++ [k]
theorem any_in {acc : List (List Key)} {k : List Key} : acc.any (fun u => decide (u = k)) = true ↔ k ∈ acc := by
  rw [List.any_eq_true]
  exact ⟨fun ⟨u, h, e⟩ => of_decide_eq_true e ▸ h, fun h => ⟨k, h, decide_eq_true rfl⟩⟩
def onces (ks : List Ent) : List (List Key) := ks.foldl (fun acc e => once acc e.2) []
theorem onces_next (ks : List Ent) (e : Ent) : onces (ks ++ [e]) = once (onces ks) e.2 := by
  unfold onces
  rw [List.foldl_append]
  rfl
theorem once_len (acc : List (List Key)) (k : List Key) : (once acc k).length ≤ acc.length + 1 := by
  unfold once
  split
  · exact Nat.le_succ _
  · rw [List.length_append]
    exact Nat.le_refl _
theorem onces_len (ks : List Ent) : (onces ks).length ≤ ks.length := by
  have go : ∀ (l : List Ent) (acc : List (List Key)), (l.foldl (fun acc e => once acc e.2) acc).length ≤ acc.length + l.length := by
    intro l
    induction l with
    | nil => exact fun acc => Nat.le_refl _
    | cons e l ih =>
      intro acc
      have h1 := ih (once acc e.2)
      have h2 := once_len acc e.2
      rw [List.foldl_cons, List.length_cons]
      omega
  have h := go ks []
  rw [List.length_nil, Nat.zero_add] at h
  exact h
/-- what the set has of the first i entries -/
structure Has (ks : List Ent) (i : Nat) (L : List Ent) : Prop where
  sub : ∀ e ∈ L, e ∈ ks
  keys : (L.map Prod.snd).Perm (onces (ks.take i))
theorem Has.len {ks : List Ent} {i : Nat} (g : Has ks i L) : L.length ≤ i := by
  have h1 := g.keys.length_eq
  have h2 := onces_len (ks.take i)
  rw [List.length_map] at h1
  rw [List.length_take] at h2
  omega
theorem Has.more {ks : List Ent} {i : Nat} {e : Ent} {L2 : List Ent} (g : Has ks i L) (h : ks[i]? = some e) (h1 : e.2 ∈ L.map Prod.snd → L2 = L) (h2 : e.2 ∉ L.map Prod.snd → L2.Perm (e :: L)) : Has ks (i + 1) L2 := by
  have et : ks.take (i + 1) = ks.take i ++ [e] := by
    rw [List.take_succ, h]
    rfl
  by_cases hin : e.2 ∈ L.map Prod.snd
  · rw [h1 hin]
    refine ⟨g.sub, ?_⟩
    rw [et, onces_next, once, if_pos (any_in.mpr (g.keys.mem_iff.mp hin))]
    exact g.keys
  · have pm := h2 hin
    refine ⟨fun u hu => ?_, ?_⟩
    · cases pm.mem_iff.mp hu with
      | head => exact List.mem_of_getElem? h
      | tail _ hu => exact g.sub u hu
    · rw [et, onces_next, once, if_neg fun q => hin (g.keys.mem_iff.mpr (any_in.mp q))]
      refine (pm.map Prod.snd).trans ?_
      rw [List.map_cons]
      exact (g.keys.cons e.2).trans (List.perm_append_singleton _ _).symm
theorem tup_kept {h h' : Heap} {k : List Key} {b : Addr} (q : TupAt P w h k b) (keep : ∀ c o, h.get? c = some o → h'.get? c = some o) : TupAt P w h' k b := by
  obtain ⟨o, its, n, ho, rest⟩ := q
  exact ⟨o, its, n, keep b o ho, rest⟩
theorem HoldsT.kept {h h' : Heap} (R : HoldsT P w h a L es ep t) (keep : ∀ o, h.get? a = some o → h'.get? a = some o) (kt : ∀ e ∈ L, TupAt P w h' e.2 e.1) : HoldsT P w h' a L es ep t :=
  let ⟨o, ho, rest⟩ := R.ob
  { ob := ⟨o, keep o ho, rest⟩, rows := R.rows, tab := R.tab, nd := R.nd, at_ := kt, room := R.room, few := R.few }
/-- set.update goes through the walk -/
theorem fill_set {I : Addr} {fp wr : List Addr} {G : Array GenState → Array GenState → Prop} {n : Nat} {Pv : Nat → Value → Prop} {St : Nat → Shared → Prop} {R : Result → Shared → Prop}
    (W : WalksS P w A.in1 I fp wr G n Pv St) (S : Addr) (hSf : S ∉ fp) (ks : List Ent) (hn : n = ks.length) (few : ks.length < 64) (hval : ∀ i v, Pv i v → ∃ e, ks[i]? = some e ∧ v = .ref e.1)
    (h0 : Heap) (hk : ∀ e ∈ ks, TupAt P w h0 e.2 e.1) (hS0 : h0.get? S = none) (hw0 : ∀ b ∈ wr, h0.get? b = none) (hu : A.in1.units < cLine) (k : Nat) :
    ∀ (i : Nat) (s : Shared), n - i = k → i ≤ n → St i s → (∀ b o, h0.get? b = some o → s.heap.get? b = some o) → (∃ L es ep t, HoldsT P w s.heap S L es ep t ∧ Has ks i L) →
      (∀ s' L es ep t, Moved (S :: wr) G s s' → HoldsT P w s'.heap S L es ep t → Has ks n L → (∀ b o, h0.get? b = some o → s'.heap.get? b = some o) → R (.ok (.ret .none)) s') →
      codeAny (model P w) A (.builtin "set.update.loop" ⟨[.ref S, .ref I], []⟩) R s := by
  have nW : S ∉ wr := fun q => hSf (W.sub _ q)
  have up : ∀ b ∈ wr, b ∈ S :: wr := fun b hb => .tail _ hb
  have hold : ∀ {s s' : Shared}, Moved wr G s s' → (∀ b o, h0.get? b = some o → s.heap.get? b = some o) → ∀ b o, h0.get? b = some o → s'.heap.get? b = some o := fun m kp b o e => by
    refine m.heap b o (fun q => ?_) (kp b o e)
    rw [hw0 b q] at e
    cases e
  induction k with
  | zero =>
    intro i s hik hi hst kp ⟨L, es, ep, t, T, g⟩ fin
    have e : i = n := by omega
    subst e
    apply codeAny_builtin F.entry_set_update_loop
    rw [Around.under_plainId F.plain_set_update_loop _]
    show wpAny _ A.in1 (pyNext (.ref I) >>= _) _ _ s
    apply wpAny_bind
    refine W.done s _ _ hst fun s2 m => ?_
    show wpAny _ A.in1 (ret Value.none) _ _ s2
    exact wpAny_pure (fin s2 L es ep t (m.mono up) (T.kept (fun o e => m.heap S o nW e) fun e he => tup_kept (hk e (g.sub e he)) (hold m kp)) g (hold m kp))
  | succ k ih =>
    intro i s hik hi hst kp ⟨L, es, ep, t, T, g⟩ fin
    have lt : i < n := by omega
    apply codeAny_builtin F.entry_set_update_loop
    rw [Around.under_plainId F.plain_set_update_loop _]
    show wpAny _ A.in1 (pyNext (.ref I) >>= _) _ _ s
    apply wpAny_bind
    refine W.item i s _ _ lt hst fun v s2 hv hst2 m => ?_
    obtain ⟨e, he, rfl⟩ := hval i v hv
    have kp2 := hold m kp
    have T2 : HoldsT P w s2.heap S L es ep t := T.kept (fun o q => m.heap S o nW q) fun u hu => tup_kept (hk u (g.sub u hu)) kp2
    have hb : TupAt P w s2.heap e.2 e.1 := tup_kept (hk e (List.mem_of_getElem? he)) kp2
    show wpAny _ A.in1 (holding [Value.ref e.1] (setAdd S (.ref e.1)) >>= _) _ _ s2
    apply wpAny_bind
    apply wpAny_holding
    unfold setAdd
    apply wpAny_holding
    apply wpAny_bind
    apply wpAny_pyHash_tuple hu hb
    refine add_one (s := { s2 with toks := s2.toks + (e.2.length + 1) }) T2 hb hu (by have := g.len; omega) fun c h3 L3 es3 ep3 t3 sb T3 c1 c2 => ?_
    have kp3 : ∀ b o, h0.get? b = some o → h3.get? b = some o := fun b o q => by
      rw [sb.2 b fun z => by rw [z, hS0] at q; cases q]
      exact kp2 b o q
    refine wpAny_pure ⟨plainId_quiet F.plain_set_update_loop _, ih (i + 1) _ (by omega) lt (W.frame _ s2 _ _ hst2 (Nat.le_add_right _ _) fun b hb o q => ?_) kp3 ⟨L3, es3, ep3, t3, T3, g.more he c1 c2⟩ fun s4 L4 es4 ep4 t4 m4 T4 g4 kp4 => fin s4 L4 es4 ep4 t4 ?_ T4 g4 kp4⟩
    · rw [sb.2 b fun z : b = S => hSf (z ▸ hb)]
      exact q
    · refine Moved.trans W.gtrans ((m.mono up).then_heap (Nat.le_add_right _ _) fun b o nb q => ?_) m4
      rw [sb.2 b fun z : b = S => nb (z ▸ List.mem_cons_self)]
      exact q
theorem set_born {h : Heap} {a : Addr} (ho : h.get? a = some { cls := .type "set", dict := none, data := .set #[] 0 (.fresh 0 0 (!w.params.followText "set-order")) }) : HoldsT P w h a [] #[] 0 (.fresh 0 0 (!w.params.followText "set-order")) where
  ob := ⟨_, ho, ⟨rfl, rfl, rfl⟩, rfl⟩
  rows := rfl
  tab := { ris := List.Pairwise.nil, dm := rfl, sz := rfl, mok := .inl rfl, bd := (fun _ q => by cases q), reach := fun i h j q => by simp [entHash] at q }
  nd := List.nodup_nil
  at_ := fun _ q => nomatch q
  room := show 0 * 5 < 7 * 3 by decide
  few := show 0 < 64 by decide

/-- a new empty set -/
abbrev newSet (w : World) : Obj := { cls := .type "set", dict := none, data := .set #[] 0 (.fresh 0 0 (!w.params.followText "set-order")) }
/-- set(t), t a tuple of such tuples -/
theorem set_of_tup {l : Addr} {its : Array Value} (ks : List Ent) {Q : Value → Shared → Prop} (hh : A.handled = none) (hl : s.heap.IsTuple l its) (hit : its.toList = ks.map fun e => Value.ref e.1)
    (hk : ∀ e ∈ ks, TupAt P w s.heap e.2 e.1) (few : ks.length < 64) (hu : A.units + 3 < cLine)
    (h : ∀ (h2 : Heap) (tk : Nat) L es ep t, HoldsT P w h2 s.heap.objs.size L es ep t → Has ks ks.length L → (∀ b o, s.heap.get? b = some o → h2.get? b = some o) → Q (.ref s.heap.objs.size) { s with heap := h2, toks := tk }) :
    wpAny (model P w) A (call (.type "set") [.ref l]) Q E s := by
  have size_its : its.size = ks.length := by rw [← Array.length_toList, hit, List.length_map]
  obtain ⟨c, tl, hmro⟩ := F.called_set.mro
  have k1 := F.called_set.made
  have k2 := F.called_set.sub
  have k3 := F.called_set.notType
  have k4 := F.called_set.canCreate
  have k5 := F.typeCall_set_1 (.ref l)
  apply wpAny_call
  apply codeAny_of_tree
  show wpAny _ _ (callAny (.type "set") _) _ _ _
  refine wpAny_pure ⟨Code.quiet_builtin _ (by decide +kernel), codeAny_builtin F.entry_type_call ?_⟩
  rw [Around.under_plain (weight_type_call_type "set" [.ref l] []) rfl]
  repeat (any_goals (first | assumption | wp_step))
  apply codeAny_mono
  · exact code_set_led1 (.ref l) (E := E) (Q₁ := fun v z => v = .ref s.heap.objs.size ∧ z = { s with heap := s.heap.push (newSet w) }) ⟨rfl, rfl⟩
  intro r z hz
  cases r with
  | error e => exact hz
  | ok fl =>
    cases fl with
    | ret v =>
      obtain ⟨rfl, rfl⟩ := hz
      have hS : (s.heap.push (newSet w)).get? s.heap.objs.size = some (newSet w) := Heap.get?_push_size _ rfl
      have hT : Shared.TypeIs { s with heap := s.heap.push (newSet w) } (.ref s.heap.objs.size) "set" := ⟨_, hS, rfl⟩
      have k6 := F.called_set.init.lookup
      have k7 := F.called_set.init.bind (.ref s.heap.objs.size)
      repeat (any_goals (first | assumption | wp_step))
      apply codeAny_mono
      · refine codeAny_call_builtin (R := wants (fun v z => v = .none ∧ ∃ h2 tk L es ep t, z = { s with heap := h2, toks := tk } ∧ HoldsT P w h2 s.heap.objs.size L es ep t ∧ Has ks ks.length L ∧ (∀ b o, s.heap.get? b = some o → h2.get? b = some o)) E) F.called_set.init.plain F.entry_set_init (check_set_init_1 hT ?_)
        obtain ⟨⟨oc, od, oda, osl⟩, hol, hoc, nl, hod⟩ := hl
        simp only at hoc hod
        subst hoc hod
        have hol2 : (s.heap.push (newSet w)).get? l = some { cls := .type "tuple", dict := od, data := .seq its nl, slots := osl } := Heap.get?_push_of_some _ hol
        have hl2 : (s.heap.push (newSet w)).IsTuple l its := ⟨_, hol2, rfl, nl, rfl⟩
        have m1 := F.sub_tuple_set
        have m2 := F.sub_tuple_frozenset
        have m3 : (Value.type "tuple" == Value.type "dict") = false := by decide
        unfold Builtin.«set.__init__» noKeywords Builtin.Frozenset.updateFrom
        generalize hgen : pyIter = gen
        wp_walk
        subst hgen
        apply wpAny_pyIter_tuple hl2
        apply wpAny_bind
        apply wpAny_runValue
        have hlS : l < s.heap.objs.size := Heap.lt_size hol
        have hin : A.in1.in1.in1.handled = none := by simp [hh]
        have hsz : (s.heap.push (newSet w)).objs.size = s.heap.objs.size + 1 := Heap.size_push ..
        have lI : l ≠ (s.heap.push (newSet w)).objs.size := by rw [hsz]; exact Nat.ne_of_lt (Nat.lt_succ_of_lt hlS)
        have gone : ∀ b, s.heap.objs.size ≤ b → s.heap.get? b = none := fun b hb => by
          cases q : s.heap.get? b with
          | none => rfl
          | some o => exact absurd (Nat.lt_of_lt_of_le (Heap.lt_size q) hb) (Nat.lt_irrefl _)
        refine fill_set ((Walks.tuple hin _ l lI its).toS) s.heap.objs.size (fun q => ?_) ks size_its few (fun i v hv => ?_) s.heap hk (gone _ (Nat.le_refl _)) (fun b hb => gone b ?_) hu (its.size - 0) 0 _ (by omega) (Nat.zero_le _)
          ⟨⟨_, Heap.get?_push_size _ rfl, rfl, rfl⟩, (hl2.push _)⟩ (fun b o e => Heap.get?_push_of_some _ (Heap.get?_push_of_some _ e)) ?_ ?_
        · rw [hsz] at q
          simp only [List.mem_cons, List.not_mem_nil, or_false] at q
          rcases q with q | q
          · exact absurd q (Nat.ne_of_lt (Nat.lt_succ_self _))
          · exact absurd q (Nat.ne_of_gt hlS)
        · have q : its.toList[i]? = some v := by rw [Array.getElem?_toList]; exact hv
          rw [hit, List.getElem?_map] at q
          obtain ⟨e, q1, q2⟩ := Option.map_eq_some_iff.mp q
          exact ⟨e, q1, q2.symm⟩
        · rw [List.mem_singleton.mp hb, hsz]
          exact Nat.le_succ _
        · exact ⟨[], #[], 0, _, set_born (Heap.get?_push_of_some _ hS), fun e he => (nomatch he), .refl _⟩
        · intro z L es ep t m T g kp
          obtain ⟨h2, g2, d2, tk2, os2⟩ := z
          obtain rfl : g2 = s.gens := m.gens
          obtain rfl : d2 = s.drawn := m.drawn
          obtain rfl : os2 = s.os := m.os
          rw [size_its] at g
          show wpAny _ _ _ _ _ _
          apply wpAny_pure
          show wpAny _ _ (ret Value.none) _ _ _
          exact wpAny_pure ⟨rfl, h2, tk2, L, es, ep, t, rfl, T, g, kp⟩
      · intro r2 z2 hz2
        cases r2 with
        | error e => exact hz2
        | ok fl2 =>
          cases fl2 with
          | ret v2 =>
            obtain ⟨rfl, h2, tk, L, es, ep, t, rfl, T, g, kp⟩ := hz2
            repeat (any_goals (first | assumption | wp_step))
            exact h _ _ _ _ _ _ T g kp
          | _ => exact hz2.elim
    | _ => exact hz.elim
end
end EV

set_option maxRecDepth 100000
set_option maxHeartbeats 4000000
/-! EvLs: len(set(t)), t a tuple of tuples of ints and texts. -/
namespace EV
open PySem PySem.Spec PyProof.Rows L2
def keysV : List PV → Option (List Key)
  | [] => some []
  | p :: ps => match keyV p, keysV ps with
    | some k, some ks => some (k :: ks)
    | _, _ => none
theorem keysV_cons {p : PV} {ps : List PV} {u : List Key} (h : keysV (p :: ps) = some u) : ∃ k ks, keyV p = some k ∧ keysV ps = some ks ∧ u = k :: ks := by
  unfold keysV at h
  split at h
  · rename_i k ks h1 h2
    cases h
    exact ⟨k, ks, h1, h2, rfl⟩
  · cases h
theorem beqs_keys : ∀ {as bs : List PV} {p q : List Key}, keysV as = some p → keysV bs = some q → PV.beqs as bs = decide (p = q)
  | [], [], _, _, h1, h2 => by cases h1; cases h2; rfl
  | [], _ :: _, _, _, h1, h2 => by
    obtain ⟨k, ks, -, -, rfl⟩ := keysV_cons h2
    cases h1
    rfl
  | _ :: _, [], _, _, h1, h2 => by
    obtain ⟨k, ks, -, -, rfl⟩ := keysV_cons h1
    cases h2
    rfl
  | a :: as, b :: bs, _, _, h1, h2 => by
    obtain ⟨k, ks, a1, a2, rfl⟩ := keysV_cons h1
    obtain ⟨k2, ks2, b1, b2, rfl⟩ := keysV_cons h2
    have e : PV.beqs (a :: as) (b :: bs) = (PV.beq a b && PV.beqs as bs) := by simp only [PV.beqs]
    rw [e, beq_key a1 b1, beqs_keys a2 b2]
    by_cases c : k = k2
    · by_cases d : ks = ks2
      · subst c d; simp
      · simp [c, d]
    · simp [c]
inductive TK : List PV → List (List Key) → Prop
  | nil : TK [] []
  | cons {l : List PV} {k : List Key} {ps : List PV} {ks : List (List Key)} (h : keysV l = some k) (t : TK ps ks) : TK (.tup l :: ps) (k :: ks)
theorem TK.append : ∀ {ps qs : List PV} {ks js : List (List Key)}, TK ps ks → TK qs js → TK (ps ++ qs) (ks ++ js)
  | _, _, _, _, .nil, h => h
  | _, _, _, _, .cons a t, h => .cons a (t.append h)
theorem TK.any {l : List PV} {k : List Key} (h : keysV l = some k) : ∀ {ps : List PV} {ks : List (List Key)}, TK ps ks → ps.any (PV.beq (.tup l)) = ks.any fun u => decide (u = k)
  | _, _, .nil => rfl
  | _, _, .cons (l := l2) (k := k2) a t => by
    have e : PV.beq (.tup l) (.tup l2) = PV.beqs l l2 := by simp only [PV.beq]
    rw [List.any_cons, List.any_cons, TK.any h t, e, beqs_keys h a]
    congr 1
    exact decide_eq_decide.mpr ⟨Eq.symm, Eq.symm⟩
theorem dedup_once : ∀ {ps : List PV} {es : List Ent} {acc : List PV} {ak : List (List Key)}, TK ps (es.map Prod.snd) → TK acc ak → TK (dedup acc ps) (es.foldl (fun acc e => once acc e.2) ak)
  | [], [], _, _, _, h => h
  | [], _ :: _, _, _, h, _ => nomatch h
  | _ :: _, [], _, _, h, _ => nomatch h
  | p :: ps, (b, k) :: es, acc, ak, h0, h => by
    have h0 : TK (p :: ps) (k :: es.map Prod.snd) := h0
    cases h0 with
    | cons a t =>
      unfold dedup
      rw [List.foldl_cons]
      refine dedup_once t ?_
      unfold once
      rw [TK.any a h]
      split
      · exact h
      · exact h.append (.cons a .nil)
theorem TK.length : ∀ {ps : List PV} {ks : List (List Key)}, TK ps ks → ps.length = ks.length
  | _, _, .nil => rfl
  | _, _, .cons _ t => congrArg (· + 1) t.length
section
variable {x : Fix} {F H : Hp}
theorem keys_rep : ∀ {ps : List PV} {vs : List V}, ps.all flatKey = true → RepVs x.K F x.C ps vs → ∃ ks, keysV ps = some ks ∧ vs = ks.map kV
  | [], _, _, .nil => ⟨[], rfl, rfl⟩
  | p :: ps, _ :: _, h, r => by
    obtain ⟨a, t⟩ : RepV x.K F x.C p _ ∧ RepVs x.K F x.C ps _ := by cases r with | cons a t => exact ⟨a, t⟩
    rw [List.all_cons, Bool.and_eq_true] at h
    obtain ⟨ks, e1, e2⟩ := keys_rep h.2 t
    cases a with
    | int i => exact ⟨.inl i :: ks, by simp only [keysV, keyV, e1], by rw [e2]; rfl⟩
    | str s hs => exact ⟨.inr (toS s) :: ks, by simp only [keysV, keyV_str_of hs, e1], by rw [e2]; rfl⟩
    | _ => cases h.1
theorem tups_rep : ∀ {ps : List PV} {vs : List V}, ps.all isTupKey = true → RepVs x.K F x.C ps vs →
    ∃ es : List Ent, vs = es.map (fun e => V.ref e.1) ∧ TK ps (es.map Prod.snd) ∧ ∀ e ∈ es, FT x.K F e.1 (e.2.map kV)
  | [], _, _, .nil => ⟨[], rfl, .nil, fun _ h => nomatch h⟩
  | p :: ps, _ :: _, h, r => by
    obtain ⟨a, t⟩ : RepV x.K F x.C p _ ∧ RepVs x.K F x.C ps _ := by cases r with | cons a t => exact ⟨a, t⟩
    rw [List.all_cons, Bool.and_eq_true] at h
    obtain ⟨es, e1, e2, e3⟩ := tups_rep h.2 t
    cases a with
    | tup hf hz hr =>
      obtain ⟨ks, k1, k2⟩ := keys_rep h.1 hr
      subst k2
      refine ⟨(_, ks) :: es, by rw [e1]; rfl, .cons k1 e2, fun e he => ?_⟩
      cases he with
      | head => exact hf
      | tail _ he => exact e3 e he
    | _ => cases h.1
end
section
variable {X : Cx} {x : Fix} {call : Str → List PV → M PV} {g : Glb} {N : List Str} {sc : Scope}
def tLS (K : PySem.W.Frag) (ta : TE) : TE := fun σ H Q => ta σ H fun y H1 => ∃ (l : Addr) (es : List Ent), y = V.ref l ∧ SqT K H1 l (es.map fun e => V.ref e.1) ∧ (∀ e ∈ es, SqT K H1 e.1 (e.2.map kV)) ∧ es.length < 64 ∧ Q (.int (onces es).length) H1
theorem flat_items : ∀ {k : List Key} {us : List Value}, Vals (k.map kV) us → ItemsAre (mixKind X.prog X.w) k us
  | [], _, .nil => .nil
  | k :: ks, _, .cons r t => .cons (kV_is r) (flat_items t)
theorem refs_are : ∀ {es : List Ent} {us : List Value}, Vals (es.map fun e => V.ref e.1) us → us = es.map fun e => Value.ref e.1
  | [], _, .nil => rfl
  | e :: es, _, .cons r t => by
    cases r
    rw [refs_are t]
    rfl
theorem pe_lenset {a : Expr} {ta : TE} {p p2 q pos : Pos} (hc : X.calm = true) (hu : X.A.units + 66 < cLine) (hg : Gl X "len") (hm : X.mg "len" = none) (hg2 : Gl X "set") (hm2 : X.mg "set" = none) (ha : PE X a ta) (ns : NotStar a) :
    PE X (.Call (.Name "len" p) [.Call (.Name "set" p2) [a] [] q] [] pos) (tLS X.K ta) := by
  have na : starEach [a] X.env = (false, eval a X.env) :: starEach [] X.env := ns [] X.env
  refine ⟨fun pins s σ H Q I h => Call_ (ld_blt I hg hm PySem.boot_len ?_)⟩
  apply PyProof.Rows.callWith_builtin1 _ rfl rfl
  apply PyProof.Rows.args_cons _ rfl
  refine Call_ (ld_blt I hg2 hm2 PyProof.Rows.boot_set ?_)
  refine PyProof.Rows.callWith_type1 ?_ na rfl
  refine PyProof.Rows.args_cons (thn (ha.run pins s σ H _ I h) fun v s1 ⟨y, H1, I1, r1, l, es, ey, hl, he, few, q1⟩ => PyProof.Rows.args_nil ?_) na
  subst ey
  cases r1
  obtain ⟨its, rv, ht, hz⟩ := I1.tuple hl
  refine set_of_tup es (I1.ok.hd hc) ht (refs_are rv) (fun e m => ?_) few (by omega) fun h2 tk L rows ep t T gt kp => ?_
  · obtain ⟨its2, rv2, ⟨o, ho, hcl, n, hd⟩, _⟩ := I1.tuple (he e m)
    exact ⟨o, its2.toArray, n, ho, hcl, hd, by simpa using flat_items rv2⟩
  · apply PyProof.Rows.args_nil
    have I2 : Inv X pins σ H1 { s1 with heap := h2, toks := tk } := I1.kept kp
    obtain ⟨o, ho, hex, hd⟩ := T.ob
    have hn : rows.size = (onces es).length := by
      have u := gt.keys.length_eq
      rw [List.length_map, List.take_length] at u
      rw [rows_size T.rows, u]
    have hle := onces_len es
    have T' : HoldsT X.prog X.w ({ s1 with heap := h2, toks := tk } : Shared).heap s1.heap.objs.size L rows ep t := T
    refine call_len_set ho hex hd T'.fit (by rw [hn]; omega) ⟨.int (onces es).length, H1, I2.tok _, ⟨_, by rw [hn]⟩, q1⟩
theorem lenset_ok (C : ECtx X x call g N sc) {p p2 q pos : Pos} {a : Expr} {ca : CE} (hg : Gl X "len") (hg2 : Gl X "set") (ns : NotStar a) (ha : PE X a (tP x (evalE call ca))) :
    PE X (.Call (.Name "len" p) [.Call (.Name "set" p2) [a] [] q] [] pos) (tR x (evalE call (.blt .lenset [ca]))) := by
  refine (pe_lenset C.calm C.hu hg (C.bi _ (by decide)) hg2 (C.bi _ (by decide)) ha ns).weak fun σ H Q h => ?_
  obtain ⟨cup, F, env, gd, sl, w⟩ := h
  have eqm : evalE call (.blt .lenset [ca]) env = evalE call ca env >>= lensetV := by
    show ((evalE call ca env >>= fun v => (pure [] : M (List PV)) >>= fun vs => pure (v :: vs)) >>= fun vs => bltV .lenset vs) = _
    rw [bind_assocM]
    rfl
  rw [eqm] at w
  refine ⟨cup, F, env, gd, sl, (WP.bind w).mono fun v c F1 H1 s1 g1 w1 y1 r1 => ?_⟩
  cases v with
  | tup l =>
    obtain ⟨hl, w1⟩ := WP.ite w1
    rw [Bool.and_eq_true, decide_eq_true_eq] at hl
    obtain ⟨a0, vs, ey, ft, hz, rv⟩ := r1.tup
    obtain ⟨es, e1, e2, e3⟩ := tups_rep hl.1 rv
    subst e1
    have len1 := e2.length
    rw [List.length_map] at len1
    refine ⟨a0, es, ey, ?_, fun e he => ?_, by omega, ?_⟩
    · rw [C.K]
      exact ft.sq g1.sub
    · rw [C.K]
      exact (e3 e he).sq g1.sub
    · have e4 : (dedup [] l).length = (onces es).length := (dedup_once e2 .nil).length
      rw [← e4]
      exact end_int (w1.mono fun v c F H s g q y r => q y (r.old s1.dom)) g1
  | _ => exact w1.elim
end
end EV

set_option maxRecDepth 100000
set_option maxHeartbeats 4000000
/-! EvSp: sorting, in plain words. -/
namespace EV
open PySem
/-! ### sorting, in plain words -/
theorem insB_perm {α : Type} (le : α → α → Bool) (x : α) : ∀ l : List α, (insB le x l).Perm (x :: l)
  | [] => .refl _
  | y :: r => by
    unfold insB
    split
    · exact .refl _
    · exact ((insB_perm le x r).cons y).trans (.swap x y r)
theorem srtB_perm {α : Type} (le : α → α → Bool) : ∀ l : List α, (srtB le l).Perm l
  | [] => .refl _
  | x :: r => (insB_perm le x (srtB le r)).trans ((srtB_perm le r).cons x)
structure Ord {α : Type} (le : α → α → Bool) : Prop where
  tot : ∀ a b, le a b = true ∨ le b a = true
  tr : ∀ a b c, le a b = true → le b c = true → le a c = true
  anti : ∀ a b, le a b = true → le b a = true → a = b
theorem insB_srt {α : Type} {le : α → α → Bool} (o : Ord le) (x : α) : ∀ {l : List α}, l.Pairwise (fun a b => le a b = true) → (insB le x l).Pairwise (fun a b => le a b = true)
  | [], _ => by unfold insB; exact List.pairwise_singleton _ _
  | y :: r, h => by
    unfold insB
    obtain ⟨h1, h2⟩ := List.pairwise_cons.mp h
    by_cases e : le x y = true
    · rw [if_pos e]
      refine List.pairwise_cons.mpr ⟨fun z hz => ?_, h⟩
      rcases List.mem_cons.mp hz with rfl | hz
      · exact e
      · exact o.tr _ _ _ e (h1 z hz)
    · rw [if_neg e]
      refine List.pairwise_cons.mpr ⟨fun z hz => ?_, insB_srt o x h2⟩
      rcases List.mem_cons.mp ((insB_perm le x r).mem_iff.mp hz) with rfl | hz
      · exact (o.tot z y).resolve_left e
      · exact h1 z hz
theorem srtB_srt {α : Type} {le : α → α → Bool} (o : Ord le) : ∀ l : List α, (srtB le l).Pairwise (fun a b => le a b = true)
  | [] => .nil
  | x :: r => insB_srt o x (srtB_srt o r)
theorem srt_uniq {α : Type} {le : α → α → Bool} (o : Ord le) : ∀ {l m : List α}, l.Perm m → l.Pairwise (fun a b => le a b = true) → m.Pairwise (fun a b => le a b = true) → l = m
  | [], m, p, _, _ => (List.nil_perm.mp p).symm
  | x :: l, [], p, _, _ => absurd (List.perm_nil.mp p) (by simp)
  | x :: l, y :: m, p, h1, h2 => by
    obtain ⟨a1, a2⟩ := List.pairwise_cons.mp h1
    obtain ⟨b1, b2⟩ := List.pairwise_cons.mp h2
    have e : x = y := by
      rcases List.mem_cons.mp (p.mem_iff.mp List.mem_cons_self) with e | hx
      · exact e
      rcases List.mem_cons.mp (p.mem_iff.mpr (List.mem_cons_self (a := y))) with e | hy
      · exact e.symm
      exact o.anti _ _ (a1 y hy) (b1 x hx)
    subst e
    rw [srt_uniq o ((List.perm_cons x).mp p) a2 b2]
theorem ordI : Ord leI where
  tot := fun a b => by unfold leI; rw [decide_eq_true_eq, decide_eq_true_eq]; omega
  tr := fun a b c h1 h2 => by unfold leI at *; rw [decide_eq_true_eq] at *; omega
  anti := fun a b h1 h2 => by unfold leI at *; rw [decide_eq_true_eq] at *; omega
theorem leP_iff {p q : Int × Int} : leP p q = true ↔ p.1 < q.1 ∨ (p.1 = q.1 ∧ p.2 ≤ q.2) := by
  unfold leP
  split
  · rw [decide_eq_true_eq]; omega
  · rw [decide_eq_true_eq]; omega
theorem ordP : Ord leP where
  tot := fun a b => by rw [leP_iff, leP_iff]; omega
  tr := fun a b c h1 h2 => by rw [leP_iff] at *; omega
  anti := fun a b h1 h2 => by rw [leP_iff] at *; exact Prod.ext (by omega) (by omega)
theorem ltS_irr : ∀ a : List Nat, ltS a a = false
  | [] => rfl
  | c :: a => by unfold ltS; rw [if_pos rfl]; exact ltS_irr a
theorem ltS_tri : ∀ a b : List Nat, ltS a b = true ∨ a = b ∨ ltS b a = true
  | [], [] => .inr (.inl rfl)
  | [], _ :: _ => .inl rfl
  | _ :: _, [] => .inr (.inr rfl)
  | c :: a, d :: b => by
    unfold ltS
    by_cases e : c = d
    · subst e
      rw [if_pos rfl, if_pos rfl]
      rcases ltS_tri a b with h | h | h
      · exact .inl h
      · exact .inr (.inl (by rw [h]))
      · exact .inr (.inr h)
    · rw [if_neg e, if_neg (Ne.symm e)]
      rcases Nat.lt_or_gt_of_ne e with h | h
      · exact .inl (decide_eq_true h)
      · exact .inr (.inr (decide_eq_true h))
theorem ltS_tr : ∀ a b c : List Nat, ltS a b = true → ltS b c = true → ltS a c = true
  | [], [], _, h, _ => by cases h
  | [], _ :: _, [], _, h => by cases h
  | [], _ :: _, _ :: _, _, _ => rfl
  | _ :: _, [], _, h, _ => by cases h
  | _ :: _, _ :: _, [], _, h => by cases h
  | x :: a, y :: b, z :: c, h1, h2 => by
    unfold ltS at *
    by_cases e : x = y
    · subst e
      rw [if_pos rfl] at h1
      by_cases f : x = z
      · subst f
        rw [if_pos rfl] at h2 ⊢
        exact ltS_tr a b c h1 h2
      · rw [if_neg f] at h2 ⊢
        exact h2
    · rw [if_neg e] at h1
      have h1 := of_decide_eq_true h1
      by_cases f : y = z
      · subst f
        rw [if_neg e]
        exact decide_eq_true h1
      · rw [if_neg f] at h2
        have h2 := of_decide_eq_true h2
        rw [if_neg (by omega)]
        exact decide_eq_true (by omega)
theorem leS_iff {a b : List Nat} : leS a b = true ↔ ltS a b = true ∨ a = b := by
  unfold leS
  rw [Bool.not_eq_true']
  constructor
  · intro h
    rcases ltS_tri a b with q | q | q
    · exact .inl q
    · exact .inr q
    · rw [q] at h; cases h
  · rintro (h | rfl)
    · cases q : ltS b a with
      | false => rfl
      | true => have := ltS_tr _ _ _ h q; rw [ltS_irr] at this; cases this
    · exact ltS_irr a
theorem ordS : Ord leS where
  tot := fun a b => by
    rw [leS_iff, leS_iff]
    rcases ltS_tri a b with h | h | h
    · exact .inl (.inl h)
    · exact .inl (.inr h)
    · exact .inr (.inl h)
  tr := fun a b c h1 h2 => by
    rw [leS_iff] at *
    rcases h1 with h1 | rfl
    · rcases h2 with h2 | rfl
      · exact .inl (ltS_tr _ _ _ h1 h2)
      · exact .inl h1
    · exact h2
  anti := fun a b h1 h2 => by
    rw [leS_iff] at *
    rcases h1 with h1 | rfl
    · rcases h2 with h2 | rfl
      · have := ltS_tr _ _ _ h1 h2; rw [ltS_irr] at this; cases this
      · rfl
    · rfl
end EV

set_option maxRecDepth 100000
set_option maxHeartbeats 4000000
/-! EvSo: sorted of whole numbers, of pairs of them, of fewer than 64 texts. -/
namespace EV
open PySem PySem.Spec PyProof.Rows L2
/-! ### the call -/
theorem pairs_rep {K F C} : ∀ {l : List PV} {ps : List (Int × Int)} {vs : List V}, pairsOf l = some ps → RepVs K F C l vs → l = ps.map pairP
  | [], ps, _, h, .nil => by cases h; rfl
  | p :: l, ps, _, h, .cons hp t => by
    unfold pairsOf at h
    cases h1 : pairOf p with
    | none => rw [h1] at h; cases h
    | some q =>
      cases h2 : pairsOf l with
      | none => rw [h1, h2] at h; cases h
      | some qs =>
        rw [h1, h2] at h
        cases h
        rw [pairs_rep h2 t, List.map_cons]
        congr 1
        unfold pairOf at h1
        split at h1
        · cases h1; rfl
        · cases h1
section
variable {X : Cx} {x : Fix}
/-- the two numbers of a pair, as the heap has them -/
def TwoAt (s : Shared) (v : V) (q : Int × Int) : Prop := ∃ t its, v = V.ref t ∧ PySem.Heap.IsTuple s.heap t its ∧ ∃ a b, its = #[Value.int q.1 a, Value.int q.2 b]
theorem TwoAt.uniq {s : Shared} {v : V} {p q : Int × Int} (h1 : TwoAt s v p) (h2 : TwoAt s v q) : p = q := by
  obtain ⟨t, its, rfl, ⟨ob, e1, _, n, d1⟩, a, b, i1⟩ := h1
  obtain ⟨t2, its2, e, ⟨ob2, e2, _, m, d2⟩, c, d, i2⟩ := h2
  cases e
  rw [e1] at e2
  cases e2
  rw [d1] at d2
  cases d2
  rw [i1] at i2
  have i2 := congrArg Array.toList i2
  simp only [List.cons.injEq, Value.int.injEq] at i2
  exact Prod.ext i2.1.1 i2.2.1.1
open Classical in
noncomputable def twoOf (s : Shared) (v : V) : Int × Int := if h : ∃ q, TwoAt s v q then h.choose else (0, 0)
theorem twoOf_eq {s : Shared} {v : V} {q : Int × Int} (h : TwoAt s v q) : twoOf s v = q := by
  have ex : ∃ q, TwoAt s v q := ⟨q, h⟩
  unfold twoOf
  rw [dif_pos ex]
  exact TwoAt.uniq ex.choose_spec h
theorem twoAt_of {pins : List (Addr × Obj)} {σ : L2.St} {H : Hp} {s : Shared} (I : Inv X pins σ H s) {t : Addr} {q : Int × Int} (h : SqT X.K H t [.int q.1, .int q.2]) : TwoAt s (.ref t) q := by
  obtain ⟨its, rv, isT, _⟩ := I.tuple h
  obtain ⟨u1, u2, rfl, r1, r2⟩ := vals2 rv
  obtain ⟨t1, rfl⟩ := r1
  obtain ⟨t2, rfl⟩ := r2
  exact ⟨t, _, rfl, isT, t1, t2, rfl⟩
/-- sorted(xs), xs a list of pairs of ints of any length, wherever these lie -/
theorem sorted_two {pins : List (Addr × Obj)} {σ : L2.St} {H : Hp} {s : Shared} (I : Inv X pins σ H s) {a : Addr} {xs : List V} {Q : VK} (hs : SqL X.K H a xs) (hx : ∀ v ∈ xs, ∃ (t : Addr) (q : Int × Int), v = V.ref t ∧ SqT X.K H t [.int q.1, .int q.2])
    (fin : ∀ ys p, ys.Perm xs → ys.Pairwise (fun u v => leP (twoOf s u) (twoOf s v) = true) → H p = none → Q (.ref p) (upd H p (.lst ys))) :
    wpAny (model X.prog X.w) X.A (call (.builtin "sorted") [.ref a]) (fun v s' => ∃ y H', Inv X pins σ H' s' ∧ RelV y v ∧ Q y H') X.xe s := by
  obtain ⟨its, rv, isL, small⟩ := I.list hs
  have all2 : ∀ v ∈ xs, TwoAt s v (twoOf s v) := fun v hv => by
    obtain ⟨t, q, rfl, hq⟩ := hx v hv
    have := twoAt_of I hq
    rw [twoOf_eq this]
    exact this
  obtain ⟨e1, e2⟩ := refs_back rv fun v hv => by
    obtain ⟨t, _, e, _⟩ := hx v hv
    exact ⟨t, e⟩
  refine SrtO.sorted_pairsO (k := fun u => twoOf s (backV u)) isL.isList (by rw [← rv.length]; exact small) (fun u hu => ?_) fun h' d out srt stb kept young there => ?_
  · obtain ⟨t, rfl⟩ := e2 u hu
    have hm : V.ref t ∈ xs := by rw [e1]; exact List.mem_map.mpr ⟨_, hu, rfl⟩
    obtain ⟨t', its', e, ⟨ob, g1, g2, n, g3⟩, b, c, e3⟩ := all2 _ hm
    cases e
    rw [e3] at g3
    exact ⟨t, ob, b, c, n, rfl, g1, g2, g3⟩
  · have refs : ∀ u ∈ out, ∃ t, u = Value.ref t := fun u hu => e2 u (stb.perm.mem_iff.mp hu)
    obtain ⟨n, there⟩ := there
    have perm : (out.map backV).Perm xs := by rw [e1]; exact stb.perm.map _
    refine ⟨.ref d, upd H d (.lst (out.map backV)), I.laid (t' := s.toks) kept young ⟨by rw [perm.length_eq]; exact small, out, n, vals_back refs, there⟩, rfl, fin _ d perm ?_ (I.hok.fresh young)⟩
    rw [List.pairwise_map]
    refine List.Pairwise.imp (fun {u v} q => ?_) srt
    have q := SrtO.lexB_no.mp q
    rw [leP_iff]
    omega
theorem two_reps {K F C} {s : Shared} : ∀ {ps : List (Int × Int)} {vs : List V}, RepVs K F C (ps.map pairP) vs → (∀ v ∈ vs, ∀ q : Int × Int, RepV K F C (pairP q) v → TwoAt s v q) → vs.map (twoOf s) = ps ∧ ∀ v ∈ vs, RepV K F C (pairP (twoOf s v)) v
  | [], _, .nil, _ => ⟨rfl, fun _ z => nomatch z⟩
  | q :: ps, v :: vs, .cons h t, hs => by
    obtain ⟨h1, h2⟩ := two_reps t fun u hu => hs u (List.mem_cons_of_mem _ hu)
    have e := twoOf_eq (hs v List.mem_cons_self q h)
    refine ⟨by rw [List.map_cons, h1, e], fun u hu => ?_⟩
    rcases List.mem_cons.mp hu with rfl | hu
    · rw [e]; exact h
    · exact h2 u hu
theorem reps_of {K F C} {s : Shared} : ∀ {vs : List V}, (∀ v ∈ vs, RepV K F C (pairP (twoOf s v)) v) → RepVs K F C ((vs.map (twoOf s)).map pairP) vs
  | [], _ => .nil
  | v :: vs, h => .cons (h v List.mem_cons_self) (reps_of fun u hu => h u (List.mem_cons_of_mem _ hu))
theorem ints_reps {K F C} : ∀ ns : List Int, RepVs K F C (ns.map PV.int) (ns.map V.int)
  | [] => .nil
  | n :: ns => .cons (.int n) (ints_reps ns)
theorem strs_reps {K F C} : ∀ {ss : List (List Nat)}, (∀ b ∈ ss, okL b) → RepVs K F C (ss.map PV.str) ((ss.map toS).map V.str)
  | [], _ => .nil
  | b :: ss, h => .cons (.str b (h b List.mem_cons_self)) (strs_reps fun c hc => h c (List.mem_cons_of_mem _ hc))
theorem toS_perm {ys : List Str} {ss : List (List Nat)} (h : ys.Perm (ss.map toS)) : ∃ zs : List (List Nat), ys = zs.map toS ∧ zs.Perm ss := by
  refine ⟨ys.map fun s => s.cps.toList, ?_, ?_⟩
  · rw [List.map_map]
    exact ((List.map_congr_left fun s _ => toS_of s).trans (List.map_id _)).symm
  · have := h.map fun s : Str => s.cps.toList
    rw [List.map_map] at this
    have e : (ss.map ((fun s : Str => s.cps.toList) ∘ toS)) = ss := (List.map_congr_left fun s _ => toS_cps s).trans (List.map_id _)
    rw [e] at this
    exact this
theorem ltCps_ltS : ∀ a b : List Nat, ltCps a b = ltS a b
  | [], [] => rfl
  | [], _ :: _ => rfl
  | _ :: _, [] => rfl
  | c :: a, d :: b => by
    unfold ltCps ltS
    rw [ltCps_ltS a b]
    by_cases e : c = d
    · subst e
      simp
    · simp [e]
theorem rising_head : ∀ {zs : List (List Nat)} {p : List Nat}, risingS (toS p) (zs.map toS) = true → (∀ z ∈ zs, leS p z = true) ∧ zs.Pairwise (fun a b => leS a b = true)
  | [], _, _ => ⟨(fun _ q => nomatch q), List.Pairwise.nil⟩
  | z :: zs, p, h => by
    obtain ⟨h1, h2⟩ := Bool.and_eq_true_iff.mp (show (!ltCps (toS z).cps.toList (toS p).cps.toList && risingS (toS z) (zs.map toS)) = true from h)
    rw [toS_cps, toS_cps, ltCps_ltS] at h1
    obtain ⟨k1, k2⟩ := rising_head h2
    have h1 : leS p z = true := h1
    refine ⟨fun u hu => ?_, List.pairwise_cons.mpr ⟨k1, k2⟩⟩
    rcases List.mem_cons.mp hu with rfl | hu
    · exact h1
    · exact ordS.tr _ _ _ h1 (k1 u hu)
theorem rising_pair : ∀ {zs : List (List Nat)}, sortedS (zs.map toS) = true → zs.Pairwise (fun a b => leS a b = true)
  | [], _ => .nil
  | z :: zs, h => List.pairwise_cons.mpr (rising_head (show risingS (toS z) (zs.map toS) = true from h))
theorem call_sortN (hK : X.K = x.K) : CallR X (.builtin "sorted") (rC1n x sortV) := by
  intro pins s σ H ys us Q I r ⟨y, p, cup, F, e, g, h, w⟩
  subst e
  cases p with
  | lst l =>
    obtain ⟨a, vs, e, m, z, r1⟩ := h.lst g.sub
    unfold sortV at w
    dsimp only at w
    cases h1 : intsOf l with
    | some ns =>
      rw [h1] at w
      dsimp only at w
      have ev := ints_rep h1 r1
      subst ev
      refine cr_sortedI pins s σ H _ us Q I r ⟨a, ns, by rw [e], .inl (.inl m), fun ns' p perm srt hp => ?_⟩
      have e2 : ns' = srtB leI ns := srt_uniq ordI (perm.trans (srtB_perm leI ns).symm) (srt.imp fun q => decide_eq_true q) (srtB_srt ordI ns)
      rw [← e2] at w
      refine end_lstN w g ?_ (ints_reps ns') p hp
      rw [List.length_map] at z ⊢
      rw [perm.length_eq]
      exact z
    | none =>
      rw [h1] at w
      dsimp only at w
      cases h2 : pairsOf l with
      | some ps =>
        rw [h2] at w
        dsimp only at w
        have el := pairs_rep h2 r1
        subst el
        obtain ⟨u, rfl, ru⟩ := vals1 r
        subst e
        cases ru
        have tw : ∀ v ∈ vs, ∀ q : Int × Int, RepV x.K F x.C (pairP q) v → TwoAt s v q := fun v hv q rq => by
          cases rq with
          | tup hf _ rr =>
            cases rr with
            | cons p1 t1 => cases t1 with
              | cons p2 t2 =>
                cases t2
                cases p1
                cases p2
                exact twoAt_of I (by rw [hK]; exact hf.sq g.sub)
        obtain ⟨k1, k2⟩ := two_reps r1 tw
        refine sorted_two I (.inl (.inl m)) (fun v hv => ?_) fun ys p perm srt hp => ?_
        · have rq := k2 v hv
          generalize twoOf s v = q at rq
          cases rq with
          | tup hf _ rr =>
            cases rr with
            | cons p1 t1 => cases t1 with
              | cons p2 t2 =>
                cases t2
                cases p1
                cases p2
                exact ⟨_, q, rfl, by rw [hK]; exact hf.sq g.sub⟩
        · have e2 : ys.map (twoOf s) = srtB leP ps := by
            refine srt_uniq ordP ?_ (List.pairwise_map.mpr srt) (srtB_srt ordP ps)
            have := perm.map (twoOf s)
            rw [k1] at this
            exact this.trans (srtB_perm leP ps).symm
          rw [← e2] at w
          exact end_lstN w g (by rw [perm.length_eq]; exact z) (reps_of fun v hv => k2 v (perm.mem_iff.mp hv)) p hp
      | none =>
        rw [h2] at w
        dsimp only at w
        cases h3 : strsOf l with
        | none => rw [h3] at w; exact w.elim
        | some ss =>
          rw [h3] at w
          dsimp only at w
          obtain ⟨few, w⟩ := WP.ite w
          obtain ⟨ev, oks⟩ := strs_rep h3 r1
          subst ev
          refine cr_sortedS pins s σ H _ us Q I r ⟨a, ss.map toS, by rw [e], .inl (.inl m), by rw [List.length_map]; exact few, fun ys p perm srt hp => ?_⟩
          obtain ⟨zs, rfl, perm2⟩ := toS_perm perm
          have e2 : zs = srtB leS ss := srt_uniq ordS (perm2.trans (srtB_perm leS ss).symm) (rising_pair srt) (srtB_srt ordS ss)
          rw [← e2] at w
          refine end_lstN w g ?_ (strs_reps fun b hb => oks b (perm2.mem_iff.mp hb)) p hp
          rw [List.length_map, List.length_map] at z ⊢
          rw [perm2.length_eq]
          exact z
  | _ => exact w.elim
/-! ### list(range(..)), tuple(range(..)) -/
theorem rng_one {v : PV} {c F H} {P : PV → Cup → Hp → Hp → Prop} {k : List PV → PV} (w : WP x (rngM [v] >>= fun l => pure (k l)) c F H P) (g : Good x c F H) : ∃ j : Int, v = .int j ∧ RgOk 0 j ∧ ∃ l, RepVs x.K F x.C l (rgV 0 j) ∧ WP x (pure (k l)) c F H P := by
  obtain ⟨j, e, h1, h2, w⟩ := rng1_ok (WP.bind w) g
  have hL : (LINE : Int) = 2 ^ 24 := by decide
  refine ⟨j, e, ⟨by omega, by omega, h1, by omega, by omega⟩, _, ?_, w⟩
  unfold rgV
  rw [Int.sub_zero, show ((List.range j.toNat).map fun (k : Nat) => PV.int k) = ((List.range j.toNat).map fun (k : Nat) => (k : Int)).map PV.int by rw [List.map_map]; rfl, show ((List.range j.toNat).map fun i => V.int (0 + (i : Nat))) = ((List.range j.toNat).map fun (k : Nat) => (k : Int)).map V.int by rw [List.map_map]; exact List.map_congr_left fun k _ => by show V.int (0 + (k : Int)) = V.int (k : Int); rw [Int.zero_add]]
  exact ints_reps _
theorem rng_two {v u : PV} {c F H} {P : PV → Cup → Hp → Hp → Prop} {k : List PV → PV} (w : WP x (rngM [v, u] >>= fun l => pure (k l)) c F H P) (g : Good x c F H) : ∃ i j : Int, v = .int i ∧ u = .int j ∧ RgOk i j ∧ ∃ l, RepVs x.K F x.C l (rgV i j) ∧ WP x (pure (k l)) c F H P := by
  obtain ⟨i, j, e, e2, hb, h2, w⟩ := rng2_ok (WP.bind w) g
  have hL : (LINE : Int) = 2 ^ 24 := by decide
  refine ⟨i, j, e, e2, ⟨hb.1, hb.2.1, hb.2.2.1, hb.2.2.2, by omega⟩, _, ?_, w⟩
  unfold rgV
  rw [show ((List.range (j - i).toNat).map fun (k : Nat) => PV.int (i + k)) = ((List.range (j - i).toNat).map fun (k : Nat) => i + (k : Int)).map PV.int by rw [List.map_map]; rfl, show ((List.range (j - i).toNat).map fun m => V.int (i + (m : Nat))) = ((List.range (j - i).toNat).map fun (k : Nat) => i + (k : Int)).map V.int by rw [List.map_map]; rfl]
  exact ints_reps _
theorem rgV_small {i j : Int} (h : RgOk i j) : (rgV i j).length ≤ LINE := by
  rw [rgV_length]
  exact h.2.2.2.2
variable {p q r pos : Pos} {e e2 : Expr} {ma mb : ME}
theorem pe_lrng1 (hc : X.calm = true) (hg : Gl X "list") (hm : X.mg "list" = none) (hgr : Gl X "range") (hmr : X.mg "range" = none) (ns : NotStar e) (he : PE X e (tP x ma)) :
    PE X (.Call (.Name "list" p) [.Call (.Name "range" q) [e] [] r] [] pos) (tN x fun env => do let v ← ma env; let l ← rngM [v]; pure (.lst l)) := by
  refine (pe_listRg hc hg hm (prg_1 hgr hmr he (ns [] X.env))).weak fun σ H Q h => ?_
  obtain ⟨cup, F, env, g, sl, w⟩ := h
  refine ⟨cup, F, env, g, sl, (WP.bind w).mono fun v c F1 H1 s1 g1 w1 y1 r1 => ?_⟩
  obtain ⟨j, ev, ok, l, rv, w2⟩ := rng_one (k := PV.lst) w1 g1
  subst ev
  exact ⟨j, r1.int, ok, fun a ha => end_lstN (w2.mono fun v3 c3 F3 H3 s3 g3 z b o n => z b o (s1.dom _ n)) g1 (rgV_small ok) rv a ha⟩
theorem pe_lrng2 (hc : X.calm = true) (hg : Gl X "list") (hm : X.mg "list" = none) (hgr : Gl X "range") (hmr : X.mg "range" = none) (ns : NotStar e) (ns2 : NotStar e2) (he : PE X e (tP x ma)) (he2 : PE X e2 (tP x mb)) :
    PE X (.Call (.Name "list" p) [.Call (.Name "range" q) [e, e2] [] r] [] pos) (tN x fun env => do let v ← ma env; let u ← mb env; let l ← rngM [v, u]; pure (.lst l)) := by
  refine (pe_listRg hc hg hm (prg_2 hgr hmr he he2 (ns [e2] X.env) (ns2 [] X.env) (stars_none fun d hd => by rw [List.mem_singleton.mp hd]; exact ns2))).weak fun σ H Q h => ?_
  obtain ⟨cup, F, env, g, sl, w⟩ := h
  refine ⟨cup, F, env, g, sl, (WP.bind w).mono fun v c F1 H1 s1 g1 w1 y1 r1 => ⟨c, F1, env, g1, sl.step s1, (WP.bind w1).mono fun v2 c2 F2 H2 s2 g2 w2 y2 r2 => ?_⟩⟩
  obtain ⟨i, j, ev, ev2, ok, l, rv, w3⟩ := rng_two (k := PV.lst) w2 g2
  subst ev ev2
  exact ⟨i, j, r1.int, r2.int, ok, fun a ha => end_lstN (w3.mono fun v3 c3 F3 H3 s3 g3 z b o n => z b o ((s1.trans s2).dom _ n)) g2 (rgV_small ok) rv a ha⟩
theorem pe_trng1 (hc : X.calm = true) (hg : Gl X "tuple") (hm : X.mg "tuple" = none) (hgr : Gl X "range") (hmr : X.mg "range" = none) (ns : NotStar e) (he : PE X e (tP x ma)) :
    PE X (.Call (.Name "tuple" p) [.Call (.Name "range" q) [e] [] r] [] pos) (tR x fun env => do let v ← ma env; let l ← rngM [v]; pure (.tup l)) := by
  refine (pe_tupRg hc hg hm (prg_1 hgr hmr he (ns [] X.env))).weak fun σ H Q h => ?_
  obtain ⟨cup, F, env, g, sl, w⟩ := h
  refine ⟨cup, F, env, g, sl, (WP.bind w).mono fun v c F1 H1 s1 g1 w1 y1 r1 => ?_⟩
  obtain ⟨j, ev, ok, l, rv, w2⟩ := rng_one (k := PV.tup) w1 g1
  subst ev
  exact ⟨j, r1.int, ok, fun a ha => end_tup (w2.mono fun v3 c3 F3 H3 s3 g3 z y r => z y (r.old s1.dom)) g1 (rgV_small ok) rv a ha⟩
theorem pe_trng2 (hc : X.calm = true) (hg : Gl X "tuple") (hm : X.mg "tuple" = none) (hgr : Gl X "range") (hmr : X.mg "range" = none) (ns : NotStar e) (ns2 : NotStar e2) (he : PE X e (tP x ma)) (he2 : PE X e2 (tP x mb)) :
    PE X (.Call (.Name "tuple" p) [.Call (.Name "range" q) [e, e2] [] r] [] pos) (tR x fun env => do let v ← ma env; let u ← mb env; let l ← rngM [v, u]; pure (.tup l)) := by
  refine (pe_tupRg hc hg hm (prg_2 hgr hmr he he2 (ns [e2] X.env) (ns2 [] X.env) (stars_none fun d hd => by rw [List.mem_singleton.mp hd]; exact ns2))).weak fun σ H Q h => ?_
  obtain ⟨cup, F, env, g, sl, w⟩ := h
  refine ⟨cup, F, env, g, sl, (WP.bind w).mono fun v c F1 H1 s1 g1 w1 y1 r1 => ⟨c, F1, env, g1, sl.step s1, (WP.bind w1).mono fun v2 c2 F2 H2 s2 g2 w2 y2 r2 => ?_⟩⟩
  obtain ⟨i, j, ev, ev2, ok, l, rv, w3⟩ := rng_two (k := PV.tup) w2 g2
  subst ev ev2
  exact ⟨i, j, r1.int, r2.int, ok, fun a ha => end_tup (w3.mono fun v3 c3 F3 H3 s3 g3 z y r => z y (r.old (s1.trans s2).dom)) g2 (rgV_small ok) rv a ha⟩
/-- a new value of a built-in function -/
theorem pe_b1BN {id : String} {n : Str} {f : PV → M PV} (hc : CallR X (.builtin id) (rC1n x f)) (hg : Gl X n) (hm : X.mg n = none) (hv : bootBuiltins n = some (.builtin id)) (hn : n ≠ "__name__") (hdb : (n == ("__debug__" : Str)) = false) (ns : NotStar e) (he : PE X e (tP x ma)) :
    PE X (.Call (.Name n p) [e] [] pos) (tN x fun env => do let v ← ma env; f v) := by
  refine (pe_callB hc hg hm hv (pa_cons he pa_nil (ns [] X.env)) hn hdb (ns [] X.env) rfl).weak fun σ H Q h => ?_
  obtain ⟨cup, F, env, g, sl, w⟩ := h
  exact ⟨cup, F, env, g, sl, (WP.bind w).mono fun v c F1 H1 s1 g1 w1 y1 r1 => ⟨y1, v, c, F1, rfl, g1, r1, w1.mono fun v3 c3 F3 H3 s3 g3 z a o n => z a o (s1.dom _ n)⟩⟩
/-! ### dicts, written out -/
def PRep (x : Fix) (F : Hp) : List PV → List (V × V) → Prop
  | [], [] => True
  | .tup [a, b] :: vs, (y, z) :: ps => RepV x.K F x.C a y ∧ RepV x.K F x.C b z ∧ PRep x F vs ps
  | _, _ => False
theorem PRep.le {F F' : Hp} (s : Le F F') : ∀ {vs : List PV} {ps : List (V × V)}, PRep x F vs ps → PRep x F' vs ps
  | [], [], _ => trivial
  | v :: vs, (y, z) :: ps, h => by
    match v, h with
    | .tup [a, b], ⟨h1, h2, h3⟩ => exact ⟨h1.le s, h2.le s, h3.le s⟩
  | [], _ :: _, h => h.elim
  | v :: vs, [], h => by
    match v, h with
    | .tup [a, b], h => exact h.elim
variable {call : Str → List PV → M PV}
def entP (p : CE × CE) : CE := .tup [p.1, p.2]
theorem pairs_run {σ : L2.St} {env : Ev} {F0 H0 : Hp} {P : PV → Cup → Hp → Hp → Prop} : ∀ {es : List (CE × CE)} {k : List PV → M PV} {cup : Cup} {F H : Hp} {Z : List (V × V) → Hp → Prop}, Good x cup F H → Slots x F H σ env → Step x.C F0 H0 F H → WP x (evalEs call (es.map entP) env >>= k) cup F0 H0 P →
    (∀ vs ps c F2 H2, vs.length = es.length → Good x c F2 H2 → Step x.C F H F2 H2 → PRep x F2 vs ps → WP x (k vs) c F0 H0 P → Z ps H2) → tPairs (es.map fun p => (tE x (evalE call p.1), tE x (evalE call p.2))) σ H Z
  | [], k, cup, F, H, Z, g, sl, st, w, fin => fin [] [] cup F H rfl g (Step.refl _ _ _) trivial w
  | (a, b) :: es, k, cup, F, H, Z, g, sl, st, w, fin => by
    have e : (evalEs call (((a, b) :: es).map entP) env >>= k) = (evalE call a env >>= fun u => evalE call b env >>= fun v => evalEs call (es.map entP) env >>= fun vs => k (.tup [u, v] :: vs)) := by
      show (((evalE call a env >>= fun u => (evalE call b env >>= fun v => (pure [] : M (List PV)) >>= fun vs => pure (v :: vs)) >>= fun vs => pure (u :: vs)) >>= fun vs => pure (.tup vs)) >>= fun v => evalEs call (es.map entP) env >>= fun vs => pure (v :: vs)) >>= k = _
      simp only [bind_assocM]
      rfl
    rw [e] at w
    refine ⟨cup, F, env, g, sl, ((WP.bindB w).later st).mono fun u c2 F2 H2 s2 g2 w2 y ry => ?_⟩
    refine ⟨c2, F2, env, g2, sl.step s2, ((WP.bindB w2).later (st.trans s2)).mono fun v c3 F3 H3 s3 g3 w3 z rz => ?_⟩
    exact pairs_run g3 ((sl.step s2).step s3) ((st.trans s2).trans s3) w3 fun vs ps c F4 H4 len g4 s4 pr w4 => fin (.tup [u, v] :: vs) ((y, z) :: ps) c F4 H4 (congrArg (· + 1) len) g4 ((s2.trans s3).trans s4) ⟨ry.le (s3.trans s4).grow, rz.le s4.grow, pr⟩ w4
theorem mk_run {F : Hp} {c : Cup} {F0 H0 : Hp} {P : PV → Cup → Hp → Hp → Prop} : ∀ {vs : List PV} {ps : List (V × V)} {acc : List (PV × PV)} {accV : List (Key × V)}, PRep x F vs ps → RepKs x.K F x.C acc accV → WP x (mkD vs acc) c F0 H0 P →
    ∃ kvs : List (Key × V), ps = kvs.map (fun kv => (kV kv.1, kv.2)) ∧ kvs.length = vs.length ∧ ∃ d, RepKs x.K F x.C d (mergeK accV kvs) ∧ d.length ≤ acc.length + vs.length ∧ WP x (pure (.dict d) : M PV) c F0 H0 P
  | [], [], acc, accV, _, r, w => ⟨[], rfl, rfl, acc, r, Nat.le_refl _, w⟩
  | v :: vs, (y, z) :: ps, acc, accV, pr, r, w => by
    match v, pr, w with
    | .tup [a, b], ⟨h1, h2, h3⟩, w =>
      have w : WP x (if isKey a = true then mkD vs (putD a b acc) else fail) c F0 H0 P := w
      obtain ⟨hk, w⟩ := WP.ite w
      obtain ⟨q, hq, ey⟩ := isKey_keyV hk (x := x) (F := F) (H := F) (.inl h1)
      obtain ⟨kvs, e1, e2, d, r2, hl, w2⟩ := mk_run h3 (r.put hq h2) w
      refine ⟨(q, z) :: kvs, by rw [List.map_cons, ← e1, ey], by rw [List.length_cons, e2, List.length_cons], d, r2, ?_, w2⟩
      have := putD_len a b acc
      rw [List.length_cons]
      omega
  | [], _ :: _, _, _, h, _, _ => h.elim
  | v :: vs, [], _, _, h, _, _ => by
    match v, h with
    | .tup [a, b], h => exact h.elim
theorem disp_ok {keys : List (Option Expr)} {values : List Expr} {es : List (CE × CE)} (h : PPs X pos keys values (es.map fun p => (tE x (evalE call p.1), tE x (evalE call p.2)))) (hall : keys.all (·.isSome) = true) (hl : keys.length = values.length) (h0 : keys ≠ []) (h15 : keys.length ≤ 15) (he : es.length ≤ 15) :
    PE X (.Dict keys values pos) (tN x (evalE call (.dict (es.map entP)))) := by
  refine (pe_disp h hall hl h0 h15).weak fun σ H Q q => ?_
  obtain ⟨cup, F, env, g, sl, w⟩ := q
  intro D hD
  have s1 : Step x.C F H F (upd H D (.dK [])) := Step.own g hD
  have w : WP x (evalEs call (es.map entP) env >>= fun vs => mkD vs []) cup F H _ := w
  have ow0 : Own x F (upd H D (.dK [])) (.dict []) D := ⟨g.nF hD, g.notC hD, [], upd_same, Nat.zero_le _, .nil⟩
  refine pairs_run (g.own hD) (sl.step s1) s1 w fun vs ps c F2 H2 len g2 s2 pr w2 => ?_
  obtain ⟨o1, o2, vs', o3, _, o5⟩ := ow0.step s2
  cases o5
  refine ⟨o3, ?_⟩
  obtain ⟨kvs, e1, e2, d, r2, hd, w3⟩ := mk_run pr .nil w2
  have few : d.length ≤ LINE := by
    have : LINE = 16777216 := rfl
    rw [List.length_nil] at hd
    omega
  refine ⟨kvs, e1, by omega, ?_⟩
  exact w3.pureB ((s1.trans s2).setNew hD) (g2.setOwn o1 (g.dom _ hD) o2) D ⟨o1, o2, mergeK [] kvs, upd_same, by rw [← r2.length]; exact few, r2⟩ hD
end
end EV

set_option maxRecDepth 100000
set_option maxHeartbeats 4000000
/-! EvY: every translated expression. -/
namespace EV
open PySem PySem.Spec PyProof.Rows L2
section
variable {X : Cx} {x : Fix} {call : Str → List PV → M PV} {g : Glb} {N : List Str} {sc : Scope}
theorem lookup_mem {α : Type} {y : Str} {v : α} : ∀ {l : List (Str × α)}, l.lookup y = some v → (y, v) ∈ l
  | [], h => by cases h
  | (a, w) :: r, h => by
    rw [List.lookup_cons] at h
    by_cases e : (y == a) = true
    · rw [e] at h
      cases h
      rw [eq_of_beq e]
      exact List.mem_cons_self
    · rw [Bool.eq_false_iff.mpr e] at h
      exact List.mem_cons_of_mem _ (lookup_mem h)
/-- how a built-in function is called -/
theorem b1_ok (C : ECtx X x call g N sc) {y : Str} {f : Bf} {a : Expr} {ca : CE} {p pos : Pos} (h : bfs.lookup y = some f) (hG : Gl X y) (ns : NotStar a) (ha : PE X a (tP x (evalE call ca))) :
    PE X (.Call (.Name y p) [a] [] pos) (tR x (evalE call (.blt f [ca]))) := by
  have key : ∀ {m : ME}, PE X (.Call (.Name y p) [a] [] pos) (tR x m) → m = evalE call (.blt f [ca]) → PE X (.Call (.Name y p) [a] [] pos) (tR x (evalE call (.blt f [ca]))) := fun h e => by rw [← e]; exact h
  have eqm : ∀ f : Bf, (fun env => do let v ← evalE call ca env; blt1 f v) = evalE call (.blt f [ca]) := fun f => by
    funext env
    show _ = ((evalE call ca env >>= fun v => (pure [] : M (List PV)) >>= fun vs => pure (v :: vs)) >>= fun vs => bltV f vs)
    rw [bind_assocM]
    rfl
  have hm := lookup_mem h
  simp only [bfs, List.mem_cons, Prod.mk.injEq, List.mem_nil_iff, or_false] at hm
  rcases hm with ⟨rfl, rfl⟩ | ⟨rfl, rfl⟩ | ⟨rfl, rfl⟩ | ⟨rfl, rfl⟩ | ⟨rfl, rfl⟩ | ⟨rfl, rfl⟩ | ⟨rfl, rfl⟩ | ⟨rfl, rfl⟩ | ⟨rfl, rfl⟩ | ⟨rfl, rfl⟩ | ⟨rfl, rfl⟩ | ⟨rfl, rfl⟩
  · exact key (pe_b1 (call_lenE C.K) hG (C.bi _ (by decide)) (by decide +kernel) (by decide) (by decide) ns ha) (eqm .len)
  · exact key (pe_b1 (call_allE C.calm) hG (C.bi _ (by decide)) (by decide +kernel) (by decide) (by decide) ns ha) (eqm .all)
  · exact key (pe_b1 (call_anyE C.calm) hG (C.bi _ (by decide)) (by decide +kernel) (by decide) (by decide) ns ha) (eqm .any)
  · exact key (pe_b1 (call_sumE C.K C.calm) hG (C.bi _ (by decide)) (by decide +kernel) (by decide) (by decide) ns ha) (eqm .sum)
  · exact key (pe_b1T call_intE hG (C.bi _ (by decide)) (by decide +kernel) (by decide) (by decide) ns ha) (eqm .int)
  · exact key (pe_b1T call_strE hG (C.bi _ (by decide)) (by decide +kernel) (by decide) (by decide) ns ha) (eqm .str)
  · exact key (pe_b1 call_absE hG (C.bi _ (by decide)) (by decide +kernel) (by decide) (by decide) ns ha) (eqm .abs)
  · exact key (pe_b1T (call_tupE C.K) hG (C.bi _ (by decide)) (by decide +kernel) (by decide) (by decide) ns ha) (eqm .tuple)
  · exact key (pe_ofN (pe_b1N (call_listN C.K C.calm) hG (C.bi _ (by decide)) (by decide +kernel) (by decide) (by decide) ns ha)) (eqm .list)
  · exact key (pe_b1 (call_minE C.K C.calm C.hu) hG (C.bi _ (by decide)) (by decide +kernel) (by decide) (by decide) ns ha) (eqm .min)
  · exact key (pe_b1 (call_maxE C.K C.calm C.hu) hG (C.bi _ (by decide)) (by decide +kernel) (by decide) (by decide) ns ha) (eqm .max)
  · exact key (pe_ofN (pe_b1BN (call_sortN C.K) hG (C.bi _ (by decide)) (by decide +kernel) (by decide) (by decide) ns ha)) (eqm .sorted)
theorem b2_ok (C : ECtx X x call g N sc) {y : Str} {f : Bf} {a b : Expr} {ca cb : CE} {p pos : Pos} (h : bfs.lookup y = some f) (hf : (f == .max || f == .min) = true) (hG : Gl X y) (ns : NotStar a) (ns2 : NotStar b) (ha : PE X a (tP x (evalE call ca))) (hb : PE X b (tP x (evalE call cb))) :
    PE X (.Call (.Name y p) [a, b] [] pos) (tR x (evalE call (.blt f [ca, cb]))) := by
  have key : ∀ {m : ME}, PE X (.Call (.Name y p) [a, b] [] pos) (tR x m) → m = evalE call (.blt f [ca, cb]) → PE X (.Call (.Name y p) [a, b] [] pos) (tR x (evalE call (.blt f [ca, cb]))) := fun h e => by rw [← e]; exact h
  have eqm : ∀ f : Bf, (fun env => do let v ← evalE call ca env; let u ← evalE call cb env; blt2 f v u) = evalE call (.blt f [ca, cb]) := fun f => by
    funext env
    show _ = ((evalE call ca env >>= fun v => (evalE call cb env >>= fun u => (pure [] : M (List PV)) >>= fun vs => pure (u :: vs)) >>= fun vs => pure (v :: vs)) >>= fun vs => bltV f vs)
    rw [bind_assocM]
    congr 1
    funext v
    rw [bind_assocM, bind_assocM]
    rfl
  have hm := lookup_mem h
  simp only [bfs, List.mem_cons, Prod.mk.injEq, List.mem_nil_iff, or_false] at hm
  rcases hm with ⟨rfl, rfl⟩ | ⟨rfl, rfl⟩ | ⟨rfl, rfl⟩ | ⟨rfl, rfl⟩ | ⟨rfl, rfl⟩ | ⟨rfl, rfl⟩ | ⟨rfl, rfl⟩ | ⟨rfl, rfl⟩ | ⟨rfl, rfl⟩ | ⟨rfl, rfl⟩ | ⟨rfl, rfl⟩ | ⟨rfl, rfl⟩
  · cases hf
  · cases hf
  · cases hf
  · cases hf
  · cases hf
  · cases hf
  · cases hf
  · cases hf
  · cases hf
  · exact key (pe_b2 (call_min2E C.calm) hG (C.bi _ (by decide)) (by decide +kernel) (by decide) (by decide) ns ns2 ha hb) (eqm .min)
  · exact key (pe_b2 (call_max2E C.calm) hG (C.bi _ (by decide)) (by decide +kernel) (by decide) (by decide) ns ns2 ha hb) (eqm .max)
  · cases hf
theorem mfs_ok {m : Str} {f : Mf} (h : mfs.lookup m = some f) : m = mName f := by
  have hm := lookup_mem h
  simp only [mfs, List.mem_cons, Prod.mk.injEq, List.mem_nil_iff, or_false] at hm
  rcases hm with ⟨rfl, rfl⟩ | ⟨rfl, rfl⟩ | ⟨rfl, rfl⟩ | ⟨rfl, rfl⟩ | ⟨rfl, rfl⟩ | ⟨rfl, rfl⟩ <;> rfl
theorem tys_ok {m : Str} {t : Ty} (h : tys.lookup m = some t) : bootBuiltins m = some (.type (tyS t)) ∧ m ≠ "__name__" ∧ (m == ("__debug__" : Str)) = false ∧ m ∈ BI := by
  have hm := lookup_mem h
  simp only [tys, List.mem_cons, Prod.mk.injEq, List.mem_nil_iff, or_false] at hm
  rcases hm with ⟨rfl, rfl⟩ | ⟨rfl, rfl⟩ | ⟨rfl, rfl⟩ | ⟨rfl, rfl⟩ | ⟨rfl, rfl⟩ <;> exact ⟨by decide +kernel, by decide, by decide, by decide⟩
theorem base_of {o : Expr} (h : bareCall o = false) (m : Str) (env : Env) (t : Sem Value) : attributeBase o m env t = t := by
  unfold attributeBase
  split
  · cases h
  · rfl
theorem trN_ok (C : ECtx X x call g N sc) {pk : Bool} {y : Str} {c : CE} {pos : Pos} (h : trN g N sc pk y = some c) :
    (pk = false → PE X (.Name y pos) (tR x (evalE call c))) ∧ (pk = true → PE X (.Name y pos) (tP x (evalE call c)) ∧ PE X (.Name y pos) (tI x (fun env => do guardM (!ownD env c); evalE call c env))) := by
  unfold trN at h
  split at h
  · cases h
  · rename_i hd
    have hd1 : (y == ("__debug__" : Str)) = false := by
      cases e : (y == ("__debug__" : Str)) with
      | false => rfl
      | true => rw [e] at hd; exact absurd rfl hd
    have hd2 : (y == ("__classdict__" : Str)) = false := by
      cases e : (y == ("__classdict__" : Str)) with
      | false => rfl
      | true => rw [e, Bool.or_true] at hd; exact absurd rfl hd
    split at h
    · rename_i hl
      have hv := vis_of C hl
      obtain ⟨i, h1, h2⟩ := Option.map_eq_some_iff.mp h
      have hN : X.N[i]? = some y := by rw [C.eN]; exact ixIn_get h1
      subst h2
      refine ⟨fun e => ?_, fun e => ?_⟩
      · subst e
        exact pe_varE hN hv hd1 hd2
      · subst e
        refine ⟨pe_peekE hN hv hd1 hd2, ?_⟩
        refine (pe_var hN hv hd1 hd2).weak fun σ H Q q => ?_
        obtain ⟨cup, F, env, g', sl, w⟩ := q
        obtain ⟨hg, w⟩ := guardB (k := fun _ => getP env i) w
        have ok := sl.ok i
        cases e : env[i]? with
        | none => dsimp only [getP] at w; rw [e] at w; exact w.elim
        | some s =>
          dsimp only [getP] at w
          rw [e] at w ok
          cases s with
          | val v =>
            obtain ⟨z, h1, h2⟩ := ok
            exact ⟨z, h1, WP.pure w g' z (.inl h2)⟩
          | own v =>
            obtain ⟨z, h1, h2, _⟩ := ok
            refine ⟨_, h1, WP.pure w g' _ (.inr ⟨z, rfl, ?_, h2⟩)⟩
            cases v with
            | lst l => exact ⟨l, rfl⟩
            | dict d =>
              have : ownD env (.peek i) = true := by
                show (match env[i]? with | some (.own (.dict _)) => true | _ => false) = true
                rw [e]
              have hg : (!ownD env (.peek i)) = true := hg
              rw [this] at hg
              cases hg
            | _ => exact h2.2.2.elim
          | no => exact w.elim
    · split at h
      · rename_i hg
        obtain ⟨v, h1, h2⟩ := Option.map_eq_some_iff.mp h
        subst h2
        obtain ⟨w, u, hm, rw', rep⟩ := C.co y v h1
        have hp : PE X (.Name y pos) (tR x fun _ => pure v) := pe_conE (pe_glob (gl_of C hg) hm rw' hd1) fun F => rep F x.C
        refine ⟨fun _ => hp, fun _ => ⟨pe_toP hp, ?_⟩⟩
        refine hp.weak fun σ H Q q => ?_
        obtain ⟨cup, F, env, g', sl, w⟩ := q
        exact ⟨cup, F, env, g', sl, WP.mono (show WP x (pure v : M PV) cup F H _ from w) fun v c F' H' _ _ q y r => q y (r.elim .inl fun ⟨a, e, o, _⟩ => .inr ⟨a, e, o⟩)⟩
      · cases h

theorem op_un {m m' : ME} {e : Expr} (h : PE X e (tR x m)) (q : m = m') : PE X e (tR x m') := by rw [← q]; exact h
theorem pt_un {m m' : ME} {e : Expr} (h : PT X e (tT x m)) (q : m = m') : PT X e (tT x m') := by rw [← q]; exact h
theorem po_ok {n : Nat} (O : Ok X x call g N sc n) {lo : Option Expr} {l : Option CE} (h : trO (trE g N n) sc lo = some l) : PO X lo (tPO x fun env => do let l ← evalO call l env; partM l) := by
  cases lo with
  | none => cases h; exact po_noneE
  | some e =>
    obtain ⟨c, h1, h2⟩ := Option.map_eq_some_iff.mp (show (trE g N n true sc e).map some = some l from h)
    subst h2
    exact po_someE (O.p e c h1)
theorem m1_ok {st : Option Expr} (h : isM1 st = true) : ∃ k p1 p2, st = some (.UnaryOp .USub (.Constant (.int 1) k p1) p2) := by
  unfold isM1 at h
  split at h
  · exact ⟨_, _, _, rfl⟩
  · cases h
theorem sub_step {n : Nat} (C : ECtx X x call g N sc) (O : Ok X x call g N sc n) {pk : Bool} {a i : Expr} {pos : Pos} {c : CE} (h : trE g N (n + 1) pk sc (.Subscript a i pos) = some c) : PE X (.Subscript a i pos) (tR x (evalE call c)) ∧ (fresh c = true → PE X (.Subscript a i pos) (tN x (evalE call c))) := by
  by_cases hs : ∃ lo hi st p, i = .Slice lo hi st p
  · obtain ⟨lo, hi, st, p, rfl⟩ := hs
    replace h : (if st.isNone = true then match trE g N n true sc a, trO (trE g N n) sc lo, trO (trE g N n) sc hi with
        | some a', some l, some h => some (CE.slc a' l h)
        | _, _, _ => none
      else if (lo.isNone && hi.isNone && isM1 st) = true then (trE g N n true sc a).map CE.rev
      else none) = some c := h
    split at h
    · rename_i hst
      cases st with
      | some _ => cases hst
      | none =>
        cases h1 : trE g N n true sc a with
        | none => rw [h1] at h; cases h
        | some a' =>
          cases h2 : trO (trE g N n) sc lo with
          | none => rw [h1, h2] at h; cases h
          | some l =>
            cases h3 : trO (trE g N n) sc hi with
            | none => rw [h1, h2, h3] at h; cases h
            | some u =>
              rw [h1, h2, h3] at h
              cases h
              exact ⟨pe_slcE C.K (O.p a a' h1) (po_ok O h2) (po_ok O h3), fun q => by cases q⟩
    · split at h
      · rename_i hm
        obtain ⟨hm, hm3⟩ := Bool.and_eq_true_iff.mp hm
        obtain ⟨hm1, hm2⟩ := Bool.and_eq_true_iff.mp hm
        obtain ⟨k, p1, p2, rfl⟩ := m1_ok hm3
        cases lo with
        | some _ => cases hm1
        | none => cases hi with
          | some _ => cases hm2
          | none =>
            obtain ⟨a', h1, h2⟩ := Option.map_eq_some_iff.mp h
            subst h2
            exact ⟨pe_revE C.K (O.p a a' h1), fun q => by cases q⟩
      · cases h
  · have h : (match trE g N n true sc a, trE g N n true sc i with
      | some a', some i' => some (CE.idx a' i')
      | _, _ => none) = some c := by
      cases i <;> first | exact h | exact absurd ⟨_, _, _, _, rfl⟩ hs
    cases h1 : trE g N n true sc a with
    | none => rw [h1] at h; cases h
    | some a' =>
      cases h2 : trE g N n true sc i with
      | none => rw [h1, h2] at h; cases h
      | some i' =>
        rw [h1, h2] at h
        cases h
        exact ⟨pe_idxE (ix_E C.K (by have := C.hu; omega)) (O.p a a' h1) (O.p i i' h2) (plainIx_of h2), fun q => by cases q⟩
theorem meth_step {n : Nat} (C : ECtx X x call g N sc) (O : Ok X x call g N sc n) {o : Expr} {m : Str} {ap cp : Pos} {as : List Expr} {c : CE}
    (h : (if (as.isEmpty || decide (29 < as.length) || !(ap.endLine == cp.line) || bareCall o) = true then none else match mfs.lookup m, trE g N n true sc o, allSome (as.map (trE g N n (m == ("join" : Str)) sc)) with
      | some f, some o', some l => some (CE.mth f o' l)
      | _, _, _ => none) = some c) : PE X (.Call (.Attribute o m ap) as [] cp) (tR x (evalE call c)) ∧ (fresh c = true → PE X (.Call (.Attribute o m ap) as [] cp) (tN x (evalE call c))) := by
  split at h
  · cases h
  · rename_i hc
    simp only [Bool.or_eq_true, not_or, Bool.not_eq_true, Bool.not_eq_false, decide_eq_true_eq, Nat.not_lt, Bool.not_eq_eq_eq_not, Bool.not_true] at hc
    obtain ⟨⟨⟨c1, c2⟩, c3⟩, c4⟩ := hc
    cases h1 : mfs.lookup m with
    | none => rw [h1] at h; cases h
    | some f =>
      cases h2 : trE g N n true sc o with
      | none => rw [h1, h2] at h; cases h
      | some o' =>
        cases h3 : allSome (as.map (trE g N n (m == ("join" : Str)) sc)) with
        | none => rw [h1, h2, h3] at h; cases h
        | some l =>
          rw [h1, h2, h3] at h
          cases h
          have hm := mfs_ok h1
          subst hm
          cases as with
          | nil => cases c1
          | cons a as =>
            have ns : ∀ d ∈ a :: as, NotStar d := fun d hd => by
              obtain ⟨cc, hc⟩ := allSome_mem h3 d hd
              exact trE_ns hc
            refine ⟨pe_mthE C.K C.hu (base_of c4 _ _ _) (by simpa using c3) (by omega) ns (O.p o o' h2) ?_, fun q => by cases q⟩
            by_cases hj : f = .join
            · rw [if_pos hj]
              subst hj
              exact pasP O h3
            · rw [if_neg hj]
              have e : (mName f == ("join" : Str)) = false := by cases f <;> first | rfl | decide | exact absurd rfl hj
              rw [e] at h3
              exact pasE O h3
theorem setArg_ok {y : Str} {as : List Expr} {f : Bf} {a : Expr} (h : setArg g sc y as = some (f, a)) : ∃ z p q, as = [.Call (.Name z p) [a] [] q] ∧ z = "set" ∧ isGl sc z = true ∧ ((y = "len" ∧ f = .lenset) ∨ (y = "sorted" ∧ f = .sortset)) := by
  unfold setArg at h
  split at h
  · split at h
    · rename_i hc
      simp only [Bool.and_eq_true] at hc
      obtain ⟨⟨⟨h1, h2⟩, h3⟩, h4⟩ := hc
      split at h
      · rename_i hy
        cases h
        exact ⟨_, _, _, rfl, eq_of_beq h1, h2, .inl ⟨eq_of_beq hy, rfl⟩⟩
      · split at h
        · rename_i hy
          cases h
          exact ⟨_, _, _, rfl, eq_of_beq h1, h2, .inr ⟨eq_of_beq hy, rfl⟩⟩
        · cases h
    · cases h
  · cases h
theorem rngArg_ok {y : Str} {as : List Expr} {f : Bf} {l : List Expr} (h : rngArg g sc y as = some (f, l)) : ∃ z p q, as = [.Call (.Name z p) l [] q] ∧ z = "range" ∧ isGl sc z = true ∧ ((y = "list" ∧ f = .lrng) ∨ (y = "tuple" ∧ f = .trng)) := by
  unfold rngArg at h
  split at h
  · split at h
    · rename_i hc
      simp only [Bool.and_eq_true] at hc
      obtain ⟨⟨⟨h1, h2⟩, h3⟩, h4⟩ := hc
      split at h
      · rename_i hy
        cases h
        exact ⟨_, _, _, rfl, eq_of_beq h1, h2, .inl ⟨eq_of_beq hy, rfl⟩⟩
      · split at h
        · rename_i hy
          cases h
          exact ⟨_, _, _, rfl, eq_of_beq h1, h2, .inr ⟨eq_of_beq hy, rfl⟩⟩
        · cases h
    · cases h
  · cases h
theorem blt1_eq (f : Bf) (a' : CE) : (fun env => do let v ← evalE call a' env; blt1 f v) = evalE call (.blt f [a']) := by
  funext env
  show _ = ((evalE call a' env >>= fun v => (pure [] : M (List PV)) >>= fun vs => pure (v :: vs)) >>= fun vs => bltV f vs)
  rw [bind_assocM]
  rfl
theorem blt2_eq (f : Bf) (a' b' : CE) : (fun env => do let v ← evalE call a' env; let u ← evalE call b' env; blt2 f v u) = evalE call (.blt f [a', b']) := by
  funext env
  show _ = ((evalE call a' env >>= fun v => (evalE call b' env >>= fun u => (pure [] : M (List PV)) >>= fun vs => pure (u :: vs)) >>= fun vs => pure (v :: vs)) >>= fun vs => bltV f vs)
  rw [bind_assocM]
  congr 1
  funext v
  rw [bind_assocM, bind_assocM]
  rfl
theorem call_step {n : Nat} (C : ECtx X x call g N sc) (O : Ok X x call g N sc n) {pk : Bool} {f : Expr} {as : List Expr} {kws : List Keyword} {pos : Pos} {c : CE} (h : trE g N (n + 1) pk sc (.Call f as kws pos) = some c) : PE X (.Call f as kws pos) (tR x (evalE call c)) ∧ (fresh c = true → PE X (.Call f as kws pos) (tN x (evalE call c))) := by
  cases kws with
  | cons _ _ => cases f <;> cases h
  | nil =>
    cases f with
    | Attribute o m ap => exact meth_step C O h
    | Name y p =>
      replace h : trCallN (trE g N n) g sc y as = some c := h
      unfold trCallN at h
      split at h
      · rename_i hgl
        obtain ⟨hgl, hdb⟩ := Bool.and_eq_true_iff.mp hgl
        have hdb : (y == ("__debug__" : Str)) = false := by simpa using hdb
        have hG := gl_of C hgl
        split at h
        · rename_i hfun
          split at h
          · cases h
          · rename_i hne
            obtain ⟨l, h1, h2⟩ := Option.map_eq_some_iff.mp h
            subst h2
            cases as with
            | nil => exact absurd rfl hne
            | cons a as =>
              obtain ⟨k, j, hk, hr, hc⟩ := C.ca
              exact ⟨pe_callE C.K C.E (hc y hfun) hr hk hG hdb (fun d hd => by obtain ⟨cc, hc⟩ := allSome_mem h1 d hd; exact trE_ns hc) (pasE O h1), fun q => by cases q⟩
        · split at h
          · cases h
          · split at h
            · rename_i hy
              have hy := eq_of_beq hy
              subst hy
              split at h
              · rename_i a t pt
                split at h
                · rename_i hct
                  simp only [Bool.and_eq_true] at hct
                  cases h1 : trE g N n true sc a with
                  | none => rw [h1] at h; cases h
                  | some a' =>
                    cases h2 : tys.lookup t with
                    | none => rw [h1, h2] at h; cases h
                    | some t' =>
                      rw [h1, h2] at h
                      cases h
                      obtain ⟨t1, t2, t3, t4⟩ := tys_ok h2
                      exact ⟨pe_isiE C.K hG (C.bi _ (by decide)) (by decide +kernel) (by decide) (by decide) (gl_of C hct.1.1) (C.bi _ t4) t1 t2 t3 (trE_ns h1) (O.p a a' h1), fun q => by cases q⟩
                · cases h
              · cases h
            · split at h
              · rename_i f a h1
                split at h
                · rename_i hf
                  have hf := eq_of_beq hf
                  subst hf
                  obtain ⟨a', h2, h3⟩ := Option.map_eq_some_iff.mp h
                  subst h3
                  obtain ⟨z, p2, q, e1, e2, e3, e4⟩ := setArg_ok h1
                  rcases e4 with ⟨e4, _⟩ | ⟨_, e4⟩
                  · subst e1 e2 e4
                    exact ⟨lenset_ok C hG (gl_of C e3) (trE_ns h2) (O.p a a' h2), fun q => by cases q⟩
                  · cases e4
                · cases h
              · split at h
                · rename_i f a h1
                  obtain ⟨a', h3, h4⟩ := Option.map_eq_some_iff.mp h
                  subst h4
                  obtain ⟨z, p2, q, e1, e2, e3, e4⟩ := rngArg_ok h1
                  subst e1 e2
                  rcases e4 with ⟨e4, e5⟩ | ⟨e4, e5⟩ <;> subst e4 e5
                  · have := pe_lrng1 (x := x) (p := p) (q := p2) (r := q) (pos := pos) C.calm hG (C.bi _ (by decide)) (gl_of C e3) (C.bi _ (by decide)) (trE_ns h3) (O.p a a' h3)
                    rw [show (fun env => do let v ← evalE call a' env; let l ← rngM [v]; pure (.lst l)) = evalE call (.blt .lrng [a']) from blt1_eq .lrng a'] at this
                    exact ⟨pe_ofN this, fun _ => this⟩
                  · have := pe_trng1 (x := x) (p := p) (q := p2) (r := q) (pos := pos) C.calm hG (C.bi _ (by decide)) (gl_of C e3) (C.bi _ (by decide)) (trE_ns h3) (O.p a a' h3)
                    rw [show (fun env => do let v ← evalE call a' env; let l ← rngM [v]; pure (.tup l)) = evalE call (.blt .trng [a']) from blt1_eq .trng a'] at this
                    exact ⟨this, fun q => by cases q⟩
                · rename_i f a b h1
                  cases h3 : trE g N n true sc a with
                  | none => rw [h3] at h; cases h
                  | some a' =>
                    cases h4 : trE g N n true sc b with
                    | none => rw [h3, h4] at h; cases h
                    | some b' =>
                      rw [h3, h4] at h
                      cases h
                      obtain ⟨z, p2, q, e1, e2, e3, e4⟩ := rngArg_ok h1
                      subst e1 e2
                      rcases e4 with ⟨e4, e5⟩ | ⟨e4, e5⟩ <;> subst e4 e5
                      · have := pe_lrng2 (x := x) (p := p) (q := p2) (r := q) (pos := pos) C.calm hG (C.bi _ (by decide)) (gl_of C e3) (C.bi _ (by decide)) (trE_ns h3) (trE_ns h4) (O.p a a' h3) (O.p b b' h4)
                        rw [show (fun env => do let v ← evalE call a' env; let u ← evalE call b' env; let l ← rngM [v, u]; pure (.lst l)) = evalE call (.blt .lrng [a', b']) from blt2_eq .lrng a' b'] at this
                        exact ⟨pe_ofN this, fun _ => this⟩
                      · have := pe_trng2 (x := x) (p := p) (q := p2) (r := q) (pos := pos) C.calm hG (C.bi _ (by decide)) (gl_of C e3) (C.bi _ (by decide)) (trE_ns h3) (trE_ns h4) (O.p a a' h3) (O.p b b' h4)
                        rw [show (fun env => do let v ← evalE call a' env; let u ← evalE call b' env; let l ← rngM [v, u]; pure (.tup l)) = evalE call (.blt .trng [a', b']) from blt2_eq .trng a' b'] at this
                        exact ⟨this, fun q => by cases q⟩
                · cases h
                · split at h
                  · rename_i f a h2 h1 h0
                    obtain ⟨a', h3, h4⟩ := Option.map_eq_some_iff.mp h
                    subst h4
                    refine ⟨b1_ok C h2 hG (trE_ns h3) (O.p a a' h3), fun q => ?_⟩
                    have hm := lookup_mem h2
                    have hyf : (y = "list" ∧ f = .list) ∨ (y = "sorted" ∧ f = .sorted) := by
                      simp only [bfs, List.mem_cons, Prod.mk.injEq, List.mem_nil_iff, or_false] at hm
                      rcases hm with ⟨rfl, rfl⟩ | ⟨rfl, rfl⟩ | ⟨rfl, rfl⟩ | ⟨rfl, rfl⟩ | ⟨rfl, rfl⟩ | ⟨rfl, rfl⟩ | ⟨rfl, rfl⟩ | ⟨rfl, rfl⟩ | ⟨rfl, rfl⟩ | ⟨rfl, rfl⟩ | ⟨rfl, rfl⟩ | ⟨rfl, rfl⟩ <;> first | exact .inl ⟨rfl, rfl⟩ | exact .inr ⟨rfl, rfl⟩ | cases q
                    rcases hyf with ⟨hy, hf⟩ | ⟨hy, hf⟩ <;> subst hy hf
                    · have := pe_b1N (pos := pos) (p := p) (call_listN (x := x) C.K C.calm) hG (C.bi _ (by decide)) (by decide +kernel) (by decide) (by decide) (trE_ns h3) (O.p a a' h3)
                      rw [show (fun env => do let v ← evalE call a' env; listV v) = evalE call (.blt .list [a']) from blt1_eq .list a'] at this
                      exact this
                    · have := pe_b1BN (pos := pos) (p := p) (call_sortN (x := x) C.K) hG (C.bi _ (by decide)) (by decide +kernel) (by decide) (by decide) (trE_ns h3) (O.p a a' h3)
                      rw [show (fun env => do let v ← evalE call a' env; sortV v) = evalE call (.blt .sorted [a']) from blt1_eq .sorted a'] at this
                      exact this
                  · rename_i f a b h2 h1 h0
                    split at h
                    · rename_i hf
                      cases h3 : trE g N n true sc a with
                      | none => rw [h3] at h; cases h
                      | some a' =>
                        cases h4 : trE g N n true sc b with
                        | none => rw [h3, h4] at h; cases h
                        | some b' =>
                          rw [h3, h4] at h
                          cases h
                          refine ⟨b2_ok C h2 hf hG (trE_ns h3) (trE_ns h4) (O.p a a' h3) (O.p b b' h4), fun q => ?_⟩
                          cases f with
                          | min => cases q
                          | max => cases q
                          | _ => cases hf
                    · cases h
                  · cases h
      · cases h
    | _ => cases h
theorem pps_of {n : Nat} (O : Ok X x call g N sc n) {pos : Pos} : ∀ {ks : List (Option Expr)} {vs : List Expr} {ks' vs' : List CE}, ks.length = vs.length → allSome (ks.map fun k => match k with
      | some k => trE g N n false sc k
      | none => none) = some ks' → allSome (vs.map (trE g N n false sc)) = some vs' → PPs X pos ks vs ((ks'.zip vs').map fun p => (tE x (evalE call p.1), tE x (evalE call p.2))) ∧ ks.all (·.isSome) = true ∧ ks'.length = ks.length
  | [], [], ks', vs', _, h1, h2 => by
    cases h1
    cases h2
    exact ⟨pps_nil, rfl, rfl⟩
  | [], _ :: _, _, _, hl, _, _ => by cases hl
  | _ :: _, [], _, _, hl, _, _ => by cases hl
  | k :: ks, v :: vs, ks', vs', hl, h1, h2 => by
    obtain ⟨c, ks1, e1, e2, e3⟩ := allSome_cons h1
    obtain ⟨d, vs1, e4, e5, e6⟩ := allSome_cons h2
    subst e3 e6
    cases k with
    | none => cases e1
    | some k =>
      obtain ⟨q1, q2, q3⟩ := pps_of O (by simpa using hl) e2 e5
      exact ⟨pps_cons (pe_toE (O.e k c e1)) (pe_toE (O.e v d e4)) q1, by rw [List.all_cons, q2]; rfl, congrArg (· + 1) q3⟩
theorem dict_step {n : Nat} (C : ECtx X x call g N sc) (O : Ok X x call g N sc n) {pk : Bool} {ks : List (Option Expr)} {vs : List Expr} {pos : Pos} {c : CE} (h : trE g N (n + 1) pk sc (.Dict ks vs pos) = some c) : PE X (.Dict ks vs pos) (tR x (evalE call c)) ∧ (fresh c = true → PE X (.Dict ks vs pos) (tN x (evalE call c))) := by
  have h : (if (ks.length == vs.length && decide (ks.length ≤ 15)) = true then match allSome (ks.map fun k => match k with
        | some k => trE g N n false sc k
        | none => none), allSome (vs.map (trE g N n false sc)) with
        | some ks', some vs' => some (CE.dict ((ks'.zip vs').map fun p => .tup [p.1, p.2]))
        | _, _ => none
      else none) = some c := h
  split at h
  · rename_i hc
    obtain ⟨hl, h15⟩ := Bool.and_eq_true_iff.mp hc
    have hl := eq_of_beq hl
    have h15 := of_decide_eq_true h15
    cases h1 : allSome (ks.map fun k => match k with
        | some k => trE g N n false sc k
        | none => none) with
    | none => rw [h1] at h; cases h
    | some ks' =>
      cases h2 : allSome (vs.map (trE g N n false sc)) with
      | none => rw [h1, h2] at h; cases h
      | some vs' =>
        rw [h1, h2] at h
        cases h
        obtain ⟨q1, q2, q3⟩ := pps_of (pos := pos) O hl h1 h2
        have hN : PE X (.Dict ks vs pos) (tN x (evalE call (.dict ((ks'.zip vs').map entP)))) := by
          cases ks with
          | nil =>
            cases vs with
            | cons _ _ => cases hl
            | nil =>
              cases h1
              exact pe_dnewK.weak fun σ H Q q => by
                obtain ⟨cup, F, env, g', sl, w⟩ := q
                have w : WP x (pure (.dict []) : M PV) cup F H fun v _ F' H' => ∀ a, Own x F' H' v a → H a = none → Q (.ref a) H' := w
                intro p hp
                exact w.pureB (Step.own g' hp) (g'.own hp) p ⟨g'.nF hp, g'.notC hp, [], upd_same, Nat.zero_le _, .nil⟩ hp
          | cons k ks =>
            refine disp_ok q1 q2 hl (fun e => by cases e) h15 ?_
            rw [List.length_zip]
            omega
        exact ⟨pe_ofN hN, fun _ => hN⟩
  · cases h
/-- all but names -/
theorem R_step {n : Nat} (C : ECtx X x call g N sc) (OB : ∀ X sc, ECtx X x call g N sc → Ok X x call g N sc n) {pk : Bool} {e : Expr} {c : CE} (hn : ∀ y p, e ≠ .Name y p) (h : trE g N (n + 1) pk sc e = some c) : PE X e (tR x (evalE call c)) ∧ (fresh c = true → PE X e (tN x (evalE call c))) := by
  have O := OB X sc C
  cases e with
  | Name y p => exact absurd rfl (hn y p)
  | Constant k j pos =>
    obtain ⟨v, h1, h2⟩ := Option.map_eq_some_iff.mp (show (trC k).map CE.cst = some c from h)
    subst h2
    exact ⟨pe_cstE h1, fun q => by cases q⟩
  | BinOp a o b pos =>
    have h : (match trE g N n true sc a, trOp o, trE g N n true sc b with
      | some a', some o', some b' => some (CE.bin o' a' b')
      | _, _, _ => none) = some c := h
    cases h1 : trE g N n true sc a with
    | none => rw [h1] at h; cases h
    | some a' =>
      cases h2 : trOp o with
      | none => rw [h1, h2] at h; cases h
      | some o' =>
        cases h3 : trE g N n true sc b with
        | none => rw [h1, h2, h3] at h; cases h
        | some b' =>
          rw [h1, h2, h3] at h
          cases h
          have ho := trOp_ok h2
          subst ho
          refine ⟨pe_binE (op_binE C.K o') (O.p a a' h1) (O.p b b' h3), fun q => ?_⟩
          have hf : (∃ l, o' = .mul ∧ a' = .lst l) ∨ ∃ l, o' = .add ∧ b' = .lst l := by
            cases o' <;> cases a' <;> cases b' <;> first | exact absurd q (by decide) | exact .inl ⟨_, rfl, rfl⟩ | exact .inr ⟨_, rfl, rfl⟩ | (simp [fresh] at q; done)
          rcases hf with ⟨l, rfl, rfl⟩ | ⟨l, rfl, rfl⟩
          · skip
            refine (pe_op (op_mulN (x := x)) (O.p a _ h1) (O.p b b' h3)).weak fun σ H Q h => ?_
            obtain ⟨cup, F, env, g', sl, w⟩ := h
            refine ⟨cup, F, env, g', sl, (WP.bind w).monoV fun v c F1 H1 e1 s1 g1 w1 y1 r1 => ⟨c, F1, env, g1, sl.step s1, (WP.bind w1).mono fun v2 c2 F2 H2 s2 g2 w2 y2 r2 => ?_⟩⟩
            obtain ⟨vs, c1, e2, e3⟩ := bind_inv (m := evalEs call l env) (f := fun vs => (pure (PV.lst vs) : M PV)) e1
            cases e3
            exact ⟨vs, v2, c2, F2, g2, r1.step s2, r2, w2.mono fun v3 c3 F3 H3 s3 g3 q a o n => q a o ((s1.trans s2).dom _ n)⟩
          · refine (pe_op (op_addN (x := x)) (O.p a a' h1) (O.p b _ h3)).weak fun σ H Q h => ?_
            obtain ⟨cup, F, env, g', sl, w⟩ := h
            refine ⟨cup, F, env, g', sl, (WP.bind w).mono fun v c F1 H1 s1 g1 w1 y1 r1 => ⟨c, F1, env, g1, sl.step s1, (WP.bind w1).monoV fun v2 c2 F2 H2 e1 s2 g2 w2 y2 r2 => ?_⟩⟩
            obtain ⟨vs, c1, e2, e3⟩ := bind_inv (m := evalEs call l env) (f := fun vs => (pure (PV.lst vs) : M PV)) e1
            cases e3
            exact ⟨v, vs, c2, F2, g2, r1.step s2, r2, w2.mono fun v3 c3 F3 H3 s3 g3 q a o n => q a o ((s1.trans s2).dom _ n)⟩
  | UnaryOp o a pos =>
    cases o with
    | USub =>
      obtain ⟨a', h1, h2⟩ := Option.map_eq_some_iff.mp (show (trE g N n true sc a).map CE.neg = some c from h)
      subst h2
      exact ⟨pe_unE un_negE (O.p a a' h1), fun q => by cases q⟩
    | Not =>
      obtain ⟨a', h1, h2⟩ := Option.map_eq_some_iff.mp (show (trE g N n true sc a).map CE.not = some c from h)
      subst h2
      exact ⟨pe_notE C.K (O.p a a' h1), fun q => by cases q⟩
    | _ => cases h
  | BoolOp op es pos =>
    have h : trBool (trE g N n) sc op es = some c := h
    refine ⟨(boolR C O h).1, fun q => ?_⟩
    match es, h with
    | [], h => cases h
    | [e], h => exact pe_one (O.n e c h q)
    | e :: e2 :: r, h =>
      unfold trBool at h
      cases h1 : trE g N n false sc e with
      | none => rw [h1] at h; cases h
      | some a =>
        cases h2 : trBool (trE g N n) sc op (e2 :: r) with
        | none => rw [h1, h2] at h; cases h
        | some b =>
          rw [h1, h2] at h
          cases op
          · cases h; cases q
          · cases h; cases q
  | IfExp c0 a b pos =>
    have h : (match trE g N n true sc c0, trE g N n false sc a, trE g N n false sc b with
      | some c', some a', some b' => some (CE.ite c' a' b')
      | _, _, _ => none) = some c := h
    cases h1 : trE g N n true sc c0 with
    | none => rw [h1] at h; cases h
    | some c' =>
      cases h2 : trE g N n false sc a with
      | none => rw [h1, h2] at h; cases h
      | some a' =>
        cases h3 : trE g N n false sc b with
        | none => rw [h1, h2, h3] at h; cases h
        | some b' =>
          rw [h1, h2, h3] at h
          cases h
          exact ⟨pe_iteE (O.t true c0 c' h1) (O.e a a' h2) (O.e b b' h3), fun q => by cases q⟩
  | Compare a os bs pos =>
    match os, bs, h with
    | [o], [b], h =>
      have h : (match trE g N n true sc a, trE g N n true sc b with
        | some a', some b' => some (CE.cmp (trCmp o) a' b')
        | _, _ => none) = some c := h
      cases h1 : trE g N n true sc a with
      | none => rw [h1] at h; cases h
      | some a' =>
        cases h2 : trE g N n true sc b with
        | none => rw [h1, h2] at h; cases h
        | some b' =>
          rw [h1, h2] at h
          cases h
          have ho := op_cmpE (X := X) C.K C.hu (trCmp o)
          rw [pyCmp_tr] at ho
          exact ⟨pe_cmpE ho (O.p a a' h1) (O.p b b' h2) (behind_none h2 o), fun q => by cases q⟩
    | [o, o'], [b, c0], h =>
      have h : (match trE g N n true sc a, trE g N n true sc b, trE g N n true sc c0 with
        | some a', some b', some c' => some (CE.cmp2 (trCmp o) (trCmp o') a' b' c')
        | _, _, _ => none) = some c := h
      cases h1 : trE g N n true sc a with
      | none => rw [h1] at h; cases h
      | some a' =>
        cases h2 : trE g N n true sc b with
        | none => rw [h1, h2] at h; cases h
        | some b' =>
          cases h3 : trE g N n true sc c0 with
          | none => rw [h1, h2, h3] at h; cases h
          | some c' =>
            rw [h1, h2, h3] at h
            cases h
            have ho := op_cmpE (X := X) C.K C.hu (trCmp o)
            have ho' := op_cmpE (X := X) C.K C.hu (trCmp o')
            rw [pyCmp_tr] at ho ho'
            exact ⟨pe_cmp2E ho ho' (O.p a a' h1) (O.p b b' h2) (O.p c0 c' h3) (behind_none h3 o'), fun q => by cases q⟩
  | Tuple es k pos =>
    have h : (if es.length ≤ 1000 then (allSome (es.map (trE g N n false sc))).map CE.tup else none) = some c := h
    split at h
    · rename_i hl
      obtain ⟨l, h1, h2⟩ := Option.map_eq_some_iff.mp h
      subst h2
      exact ⟨pe_tupE (pasE O h1) (by rw [allSome_len h1]; show es.length ≤ LINE; exact Nat.le_trans hl (by decide)), fun q => by cases q⟩
    · cases h
  | List es pos =>
    have h : (if es.length ≤ 1000 then (allSome (es.map (trE g N n false sc))).map CE.lst else none) = some c := h
    split at h
    · rename_i hl
      obtain ⟨l, h1, h2⟩ := Option.map_eq_some_iff.mp h
      subst h2
      have hN := pe_lstN (x := x) (pos := pos) (pasE O h1) (by rw [allSome_len h1]; show es.length ≤ LINE; exact Nat.le_trans hl (by decide))
      exact ⟨pe_ofN hN, fun _ => hN⟩
    · cases h
  | Subscript a i pos => exact sub_step C O h
  | Call f as kws pos => exact call_step C O h
  | ListComp el cs scope pos =>
    match cs, h with
    | [c0], h =>
      have h : (match ownIx N sc scope with
        | some own => match trCl true (trE g N n) g N (own.map (·.2)) scope sc (relSc scope sc) c0, trE g N n false (relSc scope sc) el with
          | some c', some e' => some (CE.comp e' (own.map (·.2)) c' [])
          | _, _ => none
        | none => none) = some c := h
      cases h1 : ownIx N sc scope with
      | none => rw [h1] at h; cases h
      | some own =>
        rw [h1] at h
        cases h2 : trCl true (trE g N n) g N (own.map (·.2)) scope sc (relSc scope sc) c0 with
        | none => simp only [h2] at h; cases h
        | some c' =>
          cases h3 : trE g N n false (relSc scope sc) el with
          | none => simp only [h2, h3] at h; cases h
          | some e' =>
            simp only [h2, h3] at h
            cases h
            have hN := lc1_ok (pos := pos) C O OB h1 h2 h3
            exact ⟨pe_ofN hN, fun _ => hN⟩
    | [c0, c2], h =>
      have h : (match ownIx N sc scope with
        | some own => match trCl true (trE g N n) g N (own.map (·.2)) scope sc (relSc scope sc) c0, trCl false (trE g N n) g N (own.map (·.2)) scope (relSc scope sc) (relSc scope sc) c2, trE g N n false (relSc scope sc) el with
          | some c', some c2', some e' => some (CE.comp e' (own.map (·.2)) c' [c2'])
          | _, _, _ => none
        | none => none) = some c := h
      cases h1 : ownIx N sc scope with
      | none => rw [h1] at h; cases h
      | some own =>
        rw [h1] at h
        cases h2 : trCl true (trE g N n) g N (own.map (·.2)) scope sc (relSc scope sc) c0 with
        | none => simp only [h2] at h; cases h
        | some c' =>
          cases h4 : trCl false (trE g N n) g N (own.map (·.2)) scope (relSc scope sc) (relSc scope sc) c2 with
          | none => simp only [h2, h4] at h; cases h
          | some c2' =>
            cases h3 : trE g N n false (relSc scope sc) el with
            | none => simp only [h2, h4, h3] at h; cases h
            | some e' =>
              simp only [h2, h4, h3] at h
              cases h
              have hN := lc2_ok (pos := pos) C O OB h1 h2 h4 h3
              exact ⟨pe_ofN hN, fun _ => hN⟩
    | [], h => cases h
    | _ :: _ :: _ :: _, h => cases h
  | DictComp k v cs scope pos =>
    match cs, h with
    | [c0], h =>
      have h : (match ownIx N sc scope with
        | some own => match trCl true (trE g N n) g N (own.map (·.2)) scope sc (relSc scope sc) c0, trE g N n false (relSc scope sc) k, trE g N n false (relSc scope sc) v with
          | some c', some k', some v' => some (CE.dcomp k' v' (own.map (·.2)) c' [])
          | _, _, _ => none
        | none => none) = some c := h
      cases h1 : ownIx N sc scope with
      | none => rw [h1] at h; cases h
      | some own =>
        rw [h1] at h
        cases h2 : trCl true (trE g N n) g N (own.map (·.2)) scope sc (relSc scope sc) c0 with
        | none => simp only [h2] at h; cases h
        | some c' =>
          cases h3 : trE g N n false (relSc scope sc) k with
          | none => simp only [h2, h3] at h; cases h
          | some k' =>
            cases h4 : trE g N n false (relSc scope sc) v with
            | none => simp only [h2, h3, h4] at h; cases h
            | some v' =>
              simp only [h2, h3, h4] at h
              cases h
              have hN := dc1_ok (pos := pos) C O OB h1 h2 h3 h4
              exact ⟨pe_ofN hN, fun _ => hN⟩
    | [], h => cases h
    | _ :: _ :: _, h => cases h
  | Dict ks vs pos => exact dict_step C O h
  | _ => cases h

/-- tests -/
theorem T_step {n : Nat} (C : ECtx X x call g N sc) (OB : ∀ X sc, ECtx X x call g N sc → Ok X x call g N sc n) {pk : Bool} {e : Expr} {c : CE} (h : trE g N (n + 1) pk sc e = some c) (hP : PE X e (tP x (evalE call c))) : PT X e (tT x (evalE call c)) := by
  have O := OB X sc C
  cases e with
  | UnaryOp o a pos =>
    cases o with
    | Not =>
      obtain ⟨a', h1, h2⟩ := Option.map_eq_some_iff.mp (show (trE g N n true sc a).map CE.not = some c from h)
      subst h2
      exact pt_notE (O.t true a a' h1)
    | _ => exact pt_ofE C.K hP fun _ => rfl
  | BoolOp op es pos => exact (boolR C O (show trBool (trE g N n) sc op es = some c from h)).2.pt
  | IfExp c0 a b pos =>
    replace h : (match trE g N n true sc c0, trE g N n false sc a, trE g N n false sc b with
      | some c', some a', some b' => some (CE.ite c' a' b')
      | _, _, _ => none) = some c := h
    cases h1 : trE g N n true sc c0 with
    | none => rw [h1] at h; cases h
    | some c' =>
      cases h2 : trE g N n false sc a with
      | none => rw [h1, h2] at h; cases h
      | some a' =>
        cases h3 : trE g N n false sc b with
        | none => rw [h1, h2, h3] at h; cases h
        | some b' =>
          rw [h1, h2, h3] at h
          cases h
          exact pt_iteE (O.t true c0 c' h1) (O.t false a a' h2) (O.t false b b' h3)
  | Compare a os bs pos =>
    match os, bs, h with
    | [o], [b], h =>
      replace h : (match trE g N n true sc a, trE g N n true sc b with
        | some a', some b' => some (CE.cmp (trCmp o) a' b')
        | _, _ => none) = some c := h
      cases h1 : trE g N n true sc a with
      | none => rw [h1] at h; cases h
      | some a' =>
        cases h2 : trE g N n true sc b with
        | none => rw [h1, h2] at h; cases h
        | some b' =>
          rw [h1, h2] at h
          cases h
          have ho := op_cmpE (X := X) C.K C.hu (trCmp o)
          rw [pyCmp_tr] at ho
          exact pt_cmpE ho (O.p a a' h1) (O.p b b' h2) (behind_none h2 o)
    | [o, o'], [b, c0], h =>
      replace h : (match trE g N n true sc a, trE g N n true sc b, trE g N n true sc c0 with
        | some a', some b', some c' => some (CE.cmp2 (trCmp o) (trCmp o') a' b' c')
        | _, _, _ => none) = some c := h
      cases h1 : trE g N n true sc a with
      | none => rw [h1] at h; cases h
      | some a' =>
        cases h2 : trE g N n true sc b with
        | none => rw [h1, h2] at h; cases h
        | some b' =>
          cases h3 : trE g N n true sc c0 with
          | none => rw [h1, h2, h3] at h; cases h
          | some c' =>
            rw [h1, h2, h3] at h
            cases h
            have ho := op_cmpE (X := X) C.K C.hu (trCmp o)
            have ho' := op_cmpE (X := X) C.K C.hu (trCmp o')
            rw [pyCmp_tr] at ho ho'
            exact pt_cmp2E ho ho' (O.p a a' h1) (O.p b b' h2) (O.p c0 c' h3) (behind_none h3 o')
    | [], _, h => cases h
    | [_], [], h => cases h
    | [_], _ :: _ :: _, h => cases h
    | [_, _], [], h => cases h
    | [_, _], [_], h => cases h
    | [_, _], _ :: _ :: _ :: _, h => cases h
    | _ :: _ :: _ :: _, _, h => cases h
  | _ => first | exact pt_ofE C.K hP fun _ => rfl | cases h
theorem ok_all : ∀ (n : Nat) (X : Cx) (sc : Scope), ECtx X x call g N sc → Ok X x call g N sc n
  | 0, X, sc, C => ⟨fun _ _ h => (by cases h), fun _ _ h => (by cases h), fun _ _ h => (by cases h), fun _ _ _ h => (by cases h), fun _ _ h => (by cases h)⟩
  | n + 1, X, sc, C => by
    have OB := ok_all n
    have hR : ∀ pk e c, (∀ y p, e ≠ .Name y p) → trE g N (n + 1) pk sc e = some c → PE X e (tR x (evalE call c)) ∧ (fresh c = true → PE X e (tN x (evalE call c))) := fun pk e c hn h => R_step C OB hn h
    have hE : ∀ e c, trE g N (n + 1) false sc e = some c → PE X e (tR x (evalE call c)) := fun e c h => by
      by_cases hn : ∃ y p, e = .Name y p
      · obtain ⟨y, p, rfl⟩ := hn
        exact (trN_ok C (show trN g N sc false y = some c from h)).1 rfl
      · exact (hR false e c (fun y p q => hn ⟨y, p, q⟩) h).1
    have hP : ∀ e c, trE g N (n + 1) true sc e = some c → PE X e (tP x (evalE call c)) ∧ PE X e (tI x (fun env => do guardM (!ownD env c); evalE call c env)) := fun e c h => by
      by_cases hn : ∃ y p, e = .Name y p
      · obtain ⟨y, p, rfl⟩ := hn
        exact (trN_ok C (show trN g N sc true y = some c from h)).2 rfl
      · have r := (hR true e c (fun y p q => hn ⟨y, p, q⟩) h).1
        refine ⟨pe_toP r, r.weak fun σ H Q q => ?_⟩
        obtain ⟨cup, F, env, g', sl, w⟩ := q
        exact ⟨cup, F, env, g', sl, (guardB (k := fun _ => evalE call c env) w).2.mono fun v c F' H' _ _ q y r => q y (r.elim .inl fun ⟨a, e, o, _⟩ => .inr ⟨a, e, o⟩)⟩
    refine ⟨hE, fun e c h => (hP e c h).1, fun e c h => (hP e c h).2, fun pk e c h => T_step C OB h ?_, fun e c h q => ?_⟩
    · cases pk with
      | true => exact (hP e c h).1
      | false => exact pe_toP (hE e c h)
    · by_cases hn : ∃ y p, e = .Name y p
      · obtain ⟨y, p, rfl⟩ := hn
        have h : trN g N sc false y = some c := h
        unfold trN at h
        split at h
        · cases h
        · split at h
          · obtain ⟨i, _, h2⟩ := Option.map_eq_some_iff.mp h
            subst h2
            cases q
          · split at h
            · obtain ⟨i, _, h2⟩ := Option.map_eq_some_iff.mp h
              subst h2
              cases q
            · cases h
      · exact (hR false e c (fun y p q => hn ⟨y, p, q⟩) h).2 q
end
end EV

set_option maxRecDepth 100000
set_option maxHeartbeats 4000000
/-! EvS1: statements' readings, freezing, the simple statements. -/
namespace EV
open PySem PySem.Spec PyProof.Rows L2

section
variable {x : Fix} {c : Cup} {F H : Hp}
theorem Good.step (g : Good x c F H) : Step x.C x.F0 x.H0 F H := ⟨g.grow, g.new, g.frame, g.dom⟩
/-- what the end of a statement is to meet -/
def EndOk (x : Fix) (D : Ends) (o : Out) (F' H' : Hp) : Prop := match o with
  | .next e => ∀ σ', Slots x F' H' σ' e → D.nx σ' H'
  | .brk e => ∀ σ', Slots x F' H' σ' e → D.bk σ' H'
  | .cnt e => ∀ σ', Slots x F' H' σ' e → D.ct σ' H'
  | .ret v => ∀ y, RepV x.K F' x.C v y → D.rt y H'
def sE (x : Fix) (m : Ev → M Out) : TS := fun D σ H => ∃ cup F env, Good x cup F H ∧ Slots x F H σ env ∧ WP x (m env) cup x.F0 x.H0 fun o _ F' H' => Le F F' → EndOk x D o F' H'
/-- the run of a list of statements behind the first one's end -/
def contB (m : Ev → M Out) : Out → M Out
  | .next e => m e
  | .ret v => pure (.ret v)
  | .brk e => pure (.brk e)
  | .cnt e => pure (.cnt e)
end
section
variable {X : Cx} {x : Fix} {st : Stmt} {rest : List Stmt} {m k : Ev → M Out} {pos : Pos}
theorem sE_seq {σ : L2.St} {H : Hp} {D : Ends} (h : sE x (fun env => m env >>= contB k) D σ H) : sE x m { D with nx := sE x k D } σ H := by
  obtain ⟨cup, F, env, g, sl, w⟩ := h
  refine ⟨cup, F, env, g, sl, (WP.bindB w).mono fun o c F' H' s' g' w' le => ?_⟩
  cases o with
  | next e => exact fun σ' sl' => ⟨c, F', e, g', sl', WP.mono w' fun _ _ _ _ _ _ p le2 => p (le.trans le2)⟩
  | ret v => exact WP.pureB w' g'.step g' le
  | brk e => exact WP.pureB w' g'.step g' le
  | cnt e => exact WP.pureB w' g'.step g' le
theorem pss_nilE : PSs X [] (sE x fun env => pure (.next env)) := by
  refine pss_nil.weak fun D σ H h => ?_
  obtain ⟨cup, F, env, g, sl, w⟩ := h
  exact WP.pureB w g.step g (Le.refl _) σ sl
theorem pss_consE (h1 : PS X st (sE x m)) (h2 : PSs X rest (sE x k)) : PSs X (st :: rest) (sE x fun env => m env >>= contB k) :=
  (pss_cons h1 h2).weak fun _ _ _ => sE_seq
/-- what a name has of its own is given away -/
def frzE (i : Nat) (env : Ev) : Ev := match env[i]? with
  | some (.own v) => env.set i (.val v)
  | _ => env
theorem Slots.upd_own {F H F' H' : Hp} {σ : L2.St} {env : Ev} {i : Nat} {v w : PV} {a : Addr} (h : Slots x F H σ env) (e : env[i]? = some (.own v)) (ea : (show List (Option V) from σ)[i]? = some (some (.ref a))) (hF : ∀ b, b ≠ a → F' b = F b) (hH : ∀ b, b ≠ a → H' b = H b) (l : Le F F')
    (nw : (∃ y, (show List (Option V) from σ)[i]? = some (some y) ∧ RepV x.K F' x.C w y)) : Slots x F' H' σ (env.set i (.val w)) where
  len := by rw [List.length_set]; exact h.len
  ok := fun j => by
    by_cases q : i = j
    · subst q
      by_cases hi : i < env.length
      · rw [List.getElem?_set_self hi]
        exact nw
      · rw [List.getElem?_eq_none (by rw [List.length_set]; omega)]; trivial
    · rw [List.getElem?_set_ne q]
      have k := h.ok j
      cases e1 : env[j]? with
      | none => trivial
      | some s =>
        rw [e1] at k
        cases s with
        | no => trivial
        | val u => obtain ⟨y, h1, h2⟩ := k; exact ⟨y, h1, h2.le l⟩
        | own u =>
          obtain ⟨b, h1, ⟨o1, o2, o3⟩, h3⟩ := k
          have hb : b ≠ a := fun z => q (h.sep i j v u a e e1 ea (by rw [← z]; exact h1))
          refine ⟨b, h1, ⟨by rw [hF b hb]; exact o1, o2, ?_⟩, h3⟩
          cases u with
          | lst l => obtain ⟨vs, p, z, r⟩ := o3; exact ⟨vs, by rw [hH b hb]; exact p, z, RepVs.le (by assumption) r⟩
          | dict l => obtain ⟨vs, p, z, r⟩ := o3; exact ⟨vs, by rw [hH b hb]; exact p, z, RepKs.le (by assumption) r⟩
          | _ => exact o3.elim
  sep := fun j k a' b' c' h1 h2 h3 h4 => by
    have n1 : i ≠ j := fun z => by
      subst z
      by_cases hi : i < env.length
      · rw [List.getElem?_set_self hi] at h1; cases h1
      · rw [List.getElem?_eq_none (by rw [List.length_set]; omega)] at h1; cases h1
    have n2 : i ≠ k := fun z => by
      subst z
      by_cases hi : i < env.length
      · rw [List.getElem?_set_self hi] at h2; cases h2
      · rw [List.getElem?_eq_none (by rw [List.length_set]; omega)] at h2; cases h2
    rw [List.getElem?_set_ne n1] at h1
    rw [List.getElem?_set_ne n2] at h2
    exact h.sep j k a' b' c' h1 h2 h3 h4
theorem frz_run {pins σ H s cup F env} (i : Nat) (I : Inv X pins σ H s) (g : Good x cup F H) (sl : Slots x F H σ env) : ∃ F' H', Inv X pins σ H' s ∧ Good x cup F' H' ∧ Slots x F' H' σ (frzE i env) ∧ Le F F' := by
  unfold frzE
  cases e : env[i]? with
  | none => exact ⟨F, H, I, g, sl, Le.refl _⟩
  | some t =>
    cases t with
    | no => exact ⟨F, H, I, g, sl, Le.refl _⟩
    | val v => exact ⟨F, H, I, g, sl, Le.refl _⟩
    | own v =>
      have ok := sl.ok i
      rw [e] at ok
      obtain ⟨a, ea, ⟨o1, o2, o3⟩, n⟩ := ok
      cases v with
      | lst l =>
        obtain ⟨vs, p, z, r⟩ := o3
        refine ⟨upd F a (.lst vs), H, I, g.freeze p o1 n o2, sl.upd_own e ea (fun b hb => upd_ne hb) (fun b _ => rfl) (le_upd o1) ⟨_, ea, .lst (by unfold FL; rw [upd_same]) z (r.le (le_upd o1))⟩, le_upd o1⟩
      | dict l =>
        obtain ⟨ks, p, z, r⟩ := o3
        obtain ⟨od, I2⟩ := I.lock p trivial
        exact ⟨upd F a (.frz od (.dK ks)), _, I2, g.lock p o1 n o2, sl.upd_own e ea (fun b hb => upd_ne hb) (fun b hb => upd_ne hb) (le_upd o1) ⟨_, ea, .dict upd_same z (r.le (le_upd o1))⟩, le_upd o1⟩
      | _ => exact o3.elim
theorem ps_frzE {i : Nat} (h : PS X st (sE x m)) : PS X st (sE x fun env => m (frzE i env)) := by
  refine ⟨fun pins s σ H D I q => ?_⟩
  obtain ⟨cup, F, env, g, sl, w⟩ := q
  obtain ⟨F', H', I', g', sl', le⟩ := frz_run i I g sl
  exact h.run pins s σ H' D I' ⟨cup, F', frzE i env, g', sl', WP.mono w fun _ _ _ _ _ _ p le2 => p (le.trans le2)⟩
variable {call : Str → List PV → M PV}
theorem ps_eqE {m m' : Ev → M Out} (h : PS X st (sE x m)) (e : ∀ env, m env = m' env) : PS X st (sE x m') := by
  have : m = m' := funext e
  rw [← this]
  exact h
theorem pss_eqE {m m' : Ev → M Out} {ss : List Stmt} (h : PSs X ss (sE x m)) (e : ∀ env, m env = m' env) : PSs X ss (sE x m') := by
  have : m = m' := funext e
  rw [← this]
  exact h
theorem contB_next : contB (fun env => pure (.next env)) = (pure : Out → M Out) := by
  funext o
  cases o <;> rfl
theorem bind_pureM {α : Type} (m : M α) : (m >>= pure) = m := by
  funext c
  cases e : m c with
  | ok v c1 => rw [bind_ok e]; rfl
  | ex z c1 => rw [bind_ex e]
  | stuck => rw [bind_stuck e]
theorem evalB_cons {s : CS} {r : List CS} {env : Ev} : evalB call (s :: r) env = (evalS call s env >>= contB (evalB call r)) := by
  have h : ∀ o : Out, (match o with
    | .next e => evalB call r e
    | .ret v => pure (.ret v)
    | .brk e => pure (.brk e)
    | .cnt e => pure (.cnt e) : M Out) = contB (evalB call r) o := fun o => by cases o <;> rfl
  exact congrArg (fun f => evalS call s env >>= f) (funext h)
theorem evalB_one {s : CS} {env : Ev} : evalB call [s] env = evalS call s env := by
  rw [evalB_cons]
  have : evalB call [] = fun env => (pure (.next env) : M Out) := rfl
  rw [this, contB_next, bind_pureM]
theorem evalB_append : ∀ {a b : List CS} {env : Ev}, evalB call (a ++ b) env = (evalB call a env >>= contB (evalB call b))
  | [], b, env => rfl
  | s :: r, b, env => by
    rw [List.cons_append, evalB_cons, evalB_cons, bind_assocM]
    congr 1
    funext o
    cases o with
    | next e => exact evalB_append (a := r)
    | _ => rfl
theorem evalB_frz {i : Nat} {r : List CS} {env : Ev} : evalB call (.freeze i :: r) env = evalB call r (frzE i env) := by
  rw [evalB_cons]
  show ((match env[i]? with | some (.own v) => pure (.next (env.set i (.val v))) | _ => pure (.next env) : M Out) >>= _) = _
  unfold frzE
  cases e : env[i]? with
  | none => rfl
  | some t => cases t <;> rfl
theorem ps_frzs {s : CS} (h : PS X st (sE x (evalS call s))) (mu l : List Nat) : PS X st (sE x (evalB call (frz mu l s))) := by
  unfold frz
  generalize mu.filter (fun i => l.contains i) = is
  induction is with
  | nil => exact ps_eqE h fun env => evalB_one.symm
  | cons i is ih => exact ps_eqE (ps_frzE (i := i) ih) fun env => by rw [List.map_cons, List.cons_append, evalB_frz]

/-! ### the simple statements -/
theorem ps_passE (h : ∀ s, ∃ t, PS X st t ∧ s = t → True) : True := trivial
theorem ps_passX : PS X (.Pass pos) (sE x (evalS call .pass)) := by
  refine ps_pass.weak fun D σ H h => ?_
  obtain ⟨cup, F, env, g, sl, w⟩ := h
  exact WP.pureB w g.step g (Le.refl _) σ sl
theorem ps_docX {s : Str} {j : Nat} {p p' : Pos} : PS X (.Expr (.Constant (.str s) j p) p') (sE x (evalS call .pass)) := by
  refine ps_doc.weak fun D σ H h => ?_
  obtain ⟨cup, F, env, g, sl, w⟩ := h
  exact WP.pureB w g.step g (Le.refl _) σ sl
theorem ps_breakX : PS X (.Break pos) (sE x (evalS call .brk)) := by
  refine ps_break.weak fun D σ H h => ?_
  obtain ⟨cup, F, env, g, sl, w⟩ := h
  exact WP.pureB w g.step g (Le.refl _) σ sl
theorem ps_contX : PS X (.Continue pos) (sE x (evalS call .cnt)) := by
  refine ps_continue.weak fun D σ H h => ?_
  obtain ⟨cup, F, env, g, sl, w⟩ := h
  exact WP.pureB w g.step g (Le.refl _) σ sl
theorem ps_retNX : PS X (.Return none pos) (sE x (evalS call .retN)) := by
  refine ps_retN.weak fun D σ H h => ?_
  obtain ⟨cup, F, env, g, sl, w⟩ := h
  exact WP.pureB w g.step g (Le.refl _) _ .non
theorem ps_retX {e : Expr} {ce : CE} (he : PE X e (tE x (evalE call ce))) : PS X (.Return (some e) pos) (sE x (evalS call (.ret ce))) := by
  refine (ps_ret he).weak fun D σ H h => ?_
  obtain ⟨cup, F, env, g, sl, w⟩ := h
  refine ⟨cup, F, env, g, sl, ((WP.bindB w).later g.step).mono fun v c F1 H1 s1 g1 w1 y r => ?_⟩
  exact WP.pureB w1 g1.step g1 s1.grow y r
theorem ps_exprX {e : Expr} {ce : CE} (he : PE X e (tE x (evalE call ce))) (hs : ∀ l, swapsWith e none l X.env = pure false) : PS X (.Expr e pos) (sE x (evalS call (.expr ce))) := by
  refine (ps_expr he (hs _)).weak fun D σ H h => ?_
  obtain ⟨cup, F, env, g, sl, w⟩ := h
  refine ⟨cup, F, env, g, sl, ((WP.bindB w).later g.step).mono fun v c F1 H1 s1 g1 w1 y r => ?_⟩
  exact WP.pureB w1 g1.step g1 s1.grow σ (sl.step s1)
theorem ps_ifX {e : Expr} {ce : CE} {a b : List Stmt} {ca cb : List CS} (he : PT X e (tT x (evalE call ce))) (ha : PSs X a (sE x (evalB call ca))) (hb : PSs X b (sE x (evalB call cb))) : PS X (.If e a b pos) (sE x (evalS call (.ifs ce ca cb))) := by
  refine (ps_if he ha hb).weak fun D σ H h => ?_
  obtain ⟨cup, F, env, g, sl, w⟩ := h
  have w : WP x (evalE call ce env >>= fun v => truM v >>= fun t => if t then evalB call ca env else evalB call cb env) cup x.F0 x.H0 fun o _ F' H' => Le F F' → EndOk x D o F' H' := w
  rw [← bind_assocM] at w
  refine ⟨cup, F, env, g, sl, ((WP.bindB w).later g.step).mono fun t c F1 H1 s1 g1 w1 => ?_⟩
  cases t with
  | true => exact ⟨c, F1, env, g1, sl.step s1, WP.mono w1 fun _ _ _ _ _ _ p le => p (s1.grow.trans le)⟩
  | false => exact ⟨c, F1, env, g1, sl.step s1, WP.mono w1 fun _ _ _ _ _ _ p le => p (s1.grow.trans le)⟩
/-- name = value -/
theorem ps_setX {i : Nat} {y : Str} {e : Expr} {ce : CE} {py : Pos} (hN : X.N.Nodup) (hi : X.N[i]? = some y) (hx : Loc X.env.scope y) (hf : X.fn y = true ∨ X.env.scope.names.lookup y = some .local) (he : PE X e (tE x (evalE call ce))) (hs : swapsWith e (some (.Name y py)) pos.line X.env = pure false) :
    PS X (.Assign [.Name y py] e pos) (sE x (evalS call (.asg (.nm i) ce))) := by
  refine (ps_set hN hi hx he hs hf).weak fun D σ H h => ?_
  obtain ⟨cup, F, env, g, sl, w⟩ := h
  refine ⟨cup, F, env, g, sl, ((WP.bindB w).later g.step).mono fun v c F1 H1 s1 g1 w1 y r => ?_⟩
  obtain ⟨env', e1, w2⟩ := WP.optB w1
  cases e1
  exact WP.pureB w2 g1.step g1 s1.grow _ ((sl.step s1).setV i r)
theorem Slots.setOwn {F H : Hp} {σ : L2.St} {env : Ev} (h : Slots x F H σ env) (i : Nat) {v : PV} {a : Addr} (o : Own x F H v a) (n : x.H0 a = none) (d : ∀ (j : Nat) (w : PV), env[j]? = some (.own w) → (show List (Option V) from σ)[j]? ≠ some (some (.ref a))) : Slots x F H (σ.set i (some (.ref a))) (env.set i (.own v)) where
  len := by
    rw [List.length_set, List.length_set]
    exact h.len
  ok := fun j => by
    have l := h.len
    show SlotOk x F H ((env.set i (.own v))[j]?) ((List.set (show List (Option V) from σ) i (some (.ref a)))[j]?)
    by_cases e : i = j
    · subst e
      by_cases hi : i < env.length
      · rw [List.getElem?_set_self hi, List.getElem?_set_self (by rw [l]; exact hi)]
        exact ⟨a, rfl, o, n⟩
      · rw [List.getElem?_eq_none (by rw [List.length_set]; omega)]
        trivial
    · rw [List.getElem?_set_ne e, List.getElem?_set_ne e]
      exact h.ok j
  sep := fun j k v1 v2 c h1 h2 h3 h4 => by
    have h3 : (List.set (show List (Option V) from σ) i (some (.ref a)))[j]? = some (some (.ref c)) := h3
    have h4 : (List.set (show List (Option V) from σ) i (some (.ref a)))[k]? = some (some (.ref c)) := h4
    have l := h.len
    have self : ∀ j, i = j → ∀ w, (env.set i (.own v))[j]? = some (.own w) → ∀ c, (List.set (show List (Option V) from σ) i (some (.ref a)))[j]? = some (some (.ref c)) → c = a := fun j e w h1 c h3 => by
      subst e
      by_cases hi : i < env.length
      · rw [List.getElem?_set_self (by rw [l]; exact hi)] at h3
        injection h3 with h3
        injection h3 with h3
        injection h3 with h3
        exact h3.symm
      · rw [List.getElem?_eq_none (by rw [List.length_set]; omega)] at h1; cases h1
    by_cases e1 : i = j
    · by_cases e2 : i = k
      · rw [← e1, ← e2]
      · exfalso
        have ec := self j e1 v1 h1 c h3
        rw [List.getElem?_set_ne e2] at h2 h4
        rw [ec] at h4
        exact d k v2 h2 h4
    · by_cases e2 : i = k
      · exfalso
        have ec := self k e2 v2 h2 c h4
        rw [List.getElem?_set_ne e1] at h1 h3
        rw [ec] at h3
        exact d j v1 h1 h3
      · rw [List.getElem?_set_ne e1] at h1 h3
        rw [List.getElem?_set_ne e2] at h2 h4
        exact h.sep j k v1 v2 c h1 h2 h3 h4
theorem Slots.notNew {F H : Hp} {σ : L2.St} {env : Ev} (h : Slots x F H σ env) {a : Addr} (n : H a = none) : ∀ (j : Nat) (w : PV), env[j]? = some (.own w) → (show List (Option V) from σ)[j]? ≠ some (some (.ref a)) := fun j w e q => by
  have ok := h.ok j
  rw [e, q] at ok
  obtain ⟨b, e2, o, _⟩ := ok
  cases e2
  obtain ⟨ob, ho, _⟩ := o.some
  rw [n] at ho
  cases ho
/-- name = a new list or dict that the name alone has -/
theorem tN_own {i : Nat} {ce : CE} {σ : L2.St} {H : Hp} {D : Ends} (h : sE x (evalS call (.own i ce)) D σ H) : tN x (evalE call ce) σ H fun y H1 => gName i y σ H1 D.nx := by
  obtain ⟨cup, F, env, g, sl, w⟩ := h
  refine ⟨cup, F, env, g, sl, ((WP.bindB w).later g.step).mono fun v c F1 H1 s1 g1 w1 a o n => ?_⟩
  exact WP.pureB w1 g1.step g1 s1.grow _ ((sl.step s1).setOwn i o (g.dom _ n) fun j w e => sl.notNew n j w e)
theorem ps_ownX {i : Nat} {y : Str} {e : Expr} {ce : CE} {py : Pos} (hN : X.N.Nodup) (hi : X.N[i]? = some y) (hx : Loc X.env.scope y) (hf : X.fn y = true ∨ X.env.scope.names.lookup y = some .local) (he : PE X e (tN x (evalE call ce))) (hs : swapsWith e (some (.Name y py)) pos.line X.env = pure false) :
    PS X (.Assign [.Name y py] e pos) (sE x (evalS call (.own i ce))) :=
  (ps_set hN hi hx he hs hf).weak fun _ _ _ => tN_own
end
end EV

set_option maxRecDepth 100000
set_option maxHeartbeats 4000000
/-! EvS2: stores. -/
namespace EV
open PySem PySem.Spec PyProof.Rows L2
section
variable {X : Cx} {x : Fix} {st : Stmt} {pos : Pos} {call : Str → List PV → M PV} {g : Glb} {N : List Str} {sc : Scope}

/-! ### tuples as targets -/
theorem ps_asgX {tg e : Expr} {t : CT} {ce : CE} (he : PE X e (tE x (evalE call ce))) (hg : PG X tg (gE x t)) (hs : swapsWithSole [tg] e pos.line X.env = pure false) (hw : swappedStores [tg] e X.env = pure none) (h1 : (assignEach [tg] X.env).map (·.2) = [assign tg X.env]) :
    PS X (.Assign [tg] e pos) (sE x (evalS call (.asg t ce))) := by
  refine (ps_asg he hg hs hw h1).weak fun D σ H h => ?_
  obtain ⟨cup, F, env, g', sl, w⟩ := h
  refine ⟨cup, F, env, g', sl, ((WP.bindB w).later g'.step).mono fun v c F1 H1 s1 g1 w1 y r => ?_⟩
  obtain ⟨env', e1, w2⟩ := WP.optB w1
  exact ⟨v, c, F1, env, env', g1, sl.step s1, r, e1, fun σ' sl' _ => WP.pureB w2 g1.step g1 s1.grow σ' sl'⟩

/-! ### comprehensions stored -/
theorem comp_lst {e : CE} {own : List Nat} {c0 : CCl} {r : List CCl} {env : Ev} {c c' : Cup} {v : PV} (h : evalE call (.comp e own c0 r) env c = .ok v c') : ∃ l, v = .lst l := by
  obtain ⟨t, it, ifs⟩ := c0
  match r, h with
  | [], h =>
    obtain ⟨xs, c1, _, h⟩ := bind_inv (m := evalIt call it env) h
    obtain ⟨vs, c2, _, h⟩ := bind_inv h
    cases h
    exact ⟨_, rfl⟩
  | [.mk t2 it2 ifs2], h =>
    obtain ⟨xs, c1, _, h⟩ := bind_inv (m := evalIt call it env) h
    obtain ⟨vs, c2, _, h⟩ := bind_inv h
    cases h
    exact ⟨_, rfl⟩
  | .mk _ _ _ :: _ :: _, h => cases h
theorem tN_asg {i : Nat} {ce : CE} (hl : ∀ env c v c', evalE call ce env c = .ok v c' → ∃ l, v = .lst l) {σ : L2.St} {H : Hp} {D : Ends} (h : sE x (evalS call (.asg (.nm i) ce)) D σ H) : tN x (evalE call ce) σ H fun y H1 => gName i y σ H1 D.nx := by
  obtain ⟨cup, F, env, g', sl, w⟩ := h
  refine ⟨cup, F, env, g', sl, ((WP.bindB w).later g'.step).monoV fun v c F1 H1 ev s1 g1 w1 a o n => ?_⟩
  obtain ⟨l, el⟩ := hl _ _ _ _ ev
  obtain ⟨env', e1, w2⟩ := WP.optB w1
  cases e1
  obtain ⟨F2, s2, g2, r2⟩ := freeze_new g1 s1 ⟨⟨l, el⟩, o⟩ n (g'.dom _ n)
  exact WP.pureB w2 g2.step g2 s2.grow _ ((sl.step s2).setV i r2)
theorem sw_comp {el : Expr} {gs : List Comprehension} {scope : Scope} {p py : Pos} {y : Str} {l : Nat} {env : Env} : ∃ b, swapsWith (.ListComp el gs scope p) (some (.Name y py)) l env = pure b ∧ (b = true → env.scope.names.lookup y = some .local) := by
  refine ⟨_, rfl, fun h => ?_⟩
  simp only [Bool.and_eq_true] at h
  exact eq_of_beq h.1.1.2
theorem ps_lc1 {n : Nat} (C : ECtx X x call g N sc) (OB : ∀ X sc, ECtx X x call g N sc → Ok X x call g N sc n) {el : Expr} {c : Comprehension} {scope : Scope} {own : List (Str × Nat)} {c' : CCl} {e' : CE} {p py : Pos} {y : Str} {i : Nat} {s : CS}
    (hy : X.N[i]? = some y) (hx : Loc X.env.scope y) (hf : X.fn y = true ∨ X.env.scope.names.lookup y = some .local)
    (ho : ownIx N sc scope = some own) (h1 : trCl true (trE g N n) g N (own.map (·.2)) scope sc (relSc scope sc) c = some c') (h2 : trE g N n false (relSc scope sc) el = some e')
    (hw : ∀ D σ H, sE x (evalS call s) D σ H → tN x (evalE call (.comp e' (own.map (·.2)) c' [])) σ H fun y H1 => gName i y σ H1 D.nx) :
    PS X (.Assign [.Name y py] (.ListComp el [c] scope p) pos) (sE x (evalS call s)) := by
  have hN : X.N.Nodup := by rw [C.eN]; exact C.nd
  have O := OB X sc C
  obtain ⟨b, hb, hl⟩ := sw_comp (el := el) (gs := [c]) (scope := scope) (p := p) (py := py) (y := y) (l := pos.line) (env := X.env)
  cases b with
  | false =>
    exact (ps_set hN hy hx (lc1_ok C O OB ho h1 h2) hb hf).weak fun D σ H h => hw D σ H h
  | true =>
    obtain ⟨tg, it, ifs, t, it', ifs', rfl, rfl, a1, a2, a3, a4, a5, a6⟩ := cl_ok h1
    have B := fun s H a cl fp => C.blk s H scope cl a fp
    refine (ps_setLc C.calm hN hy (hl rfl) hb (it_ok C O (wayI O) a2) (by rw [C.eN, C.sc]; exact ownIx_ok ho)
      (fun s H a cl fp => pg_ok (x := x) (B s H a cl fp).K (B s H a cl fp).calm (B s H a cl fp).eN (B s H a cl fp).nd (maySt_blk C s H scope cl a fp) 8 tg t a1)
      (fun s H a cl fp => pts_ok (OB _ _ (B s H a cl fp)) a3 a5) (fun s H a cl fp => pe_toE ((OB _ _ (B s H a cl fp)).e el e' h2)) (fun v => folded_of a6 _ v)).weak fun D σ H h => ?_
    exact lc_imp a4 σ H _ (hw D σ H h)
theorem ps_lc2 {n : Nat} (C : ECtx X x call g N sc) (OB : ∀ X sc, ECtx X x call g N sc → Ok X x call g N sc n) {el : Expr} {c c2 : Comprehension} {scope : Scope} {own : List (Str × Nat)} {c' c2' : CCl} {e' : CE} {p py : Pos} {y : Str} {i : Nat} {s : CS}
    (hy : X.N[i]? = some y) (hx : Loc X.env.scope y) (hf : X.fn y = true ∨ X.env.scope.names.lookup y = some .local)
    (ho : ownIx N sc scope = some own) (h1 : trCl true (trE g N n) g N (own.map (·.2)) scope sc (relSc scope sc) c = some c') (h1' : trCl false (trE g N n) g N (own.map (·.2)) scope (relSc scope sc) (relSc scope sc) c2 = some c2') (h2 : trE g N n false (relSc scope sc) el = some e')
    (hw : ∀ D σ H, sE x (evalS call s) D σ H → tN x (evalE call (.comp e' (own.map (·.2)) c' [c2'])) σ H fun y H1 => gName i y σ H1 D.nx) :
    PS X (.Assign [.Name y py] (.ListComp el [c, c2] scope p) pos) (sE x (evalS call s)) := by
  have hN : X.N.Nodup := by rw [C.eN]; exact C.nd
  have O := OB X sc C
  obtain ⟨b, hb, hl⟩ := sw_comp (el := el) (gs := [c, c2]) (scope := scope) (p := p) (py := py) (y := y) (l := pos.line) (env := X.env)
  cases b with
  | false =>
    exact (ps_set hN hy hx (lc2_ok C O OB ho h1 h1' h2) hb hf).weak fun D σ H h => hw D σ H h
  | true =>
    obtain ⟨tg, it, ifs, t, it', ifs', rfl, rfl, a1, a2, a3, a4, a5, a6⟩ := cl_ok h1
    obtain ⟨tg2, it2, ifs2, t2, it2', ifs2', rfl, rfl, b1, b2, b3, b4, b5, b6⟩ := cl_ok h1'
    have B := fun s H a cl fp => C.blk s H scope cl a fp
    refine (ps_setLc2 C.calm hN hy (hl rfl) hb (it_ok C O (wayI O) a2) (by rw [C.eN, C.sc]; exact ownIx_ok ho) b4
      (fun s H a cl fp => pg_ok (x := x) (B s H a cl fp).K (B s H a cl fp).calm (B s H a cl fp).eN (B s H a cl fp).nd (maySt_blk C s H scope cl a fp) 8 tg t a1)
      (fun s H a cl fp => pts_ok (OB _ _ (B s H a cl fp)) a3 a5)
      (fun s H a cl fp => it_ok (B s H a cl fp) (OB _ _ (B s H a cl fp)) (wayE (OB _ _ (B s H a cl fp))) b2)
      (fun s H a cl fp => pg_ok (x := x) (B s H a cl fp).K (B s H a cl fp).calm (B s H a cl fp).eN (B s H a cl fp).nd (maySt_blk C s H scope cl a fp) 8 tg2 t2 b1)
      (fun s H a cl fp => pts_ok (OB _ _ (B s H a cl fp)) b3 b5)
      (fun s H a cl fp => pe_toE ((OB _ _ (B s H a cl fp)).e el e' h2)) (fun v => folded_of a6 _ v) (fun env v => folded_of b6 env v)).weak fun D σ H h => ?_
    exact lc2_imp a4 b4 σ H _ (hw D σ H h)

/-! ### two or three names at once -/
def RepF (x : Fix) (fl : Bool) (F' H' H : Hp) (v : PV) (y : V) : Prop := if fl = true then ∃ a, y = .ref a ∧ Own x F' H' v a ∧ H a = none else RepV x.K F' x.C v y
def tF (x : Fix) (fl : Bool) (m : ME) : TE := fun σ H Q => ∃ cup F env, Good x cup F H ∧ Slots x F H σ env ∧ WP x (m env) cup F H fun v _ F' H' => ∀ y, RepF x fl F' H' H v y → Q y H'
theorem pe_F {e : Expr} {m : ME} {fl : Bool} (h : fl = false → PE X e (tE x m)) (h' : fl = true → PE X e (tN x m)) : PE X e (tF x fl m) := by
  cases fl with
  | false =>
    refine (h rfl).weak fun σ H Q q => ?_
    obtain ⟨cup, F, env, g', sl, w⟩ := q
    exact ⟨cup, F, env, g', sl, w.mono fun v c F' H' _ _ q y r => q y r⟩
  | true =>
    refine (h' rfl).weak fun σ H Q q => ?_
    obtain ⟨cup, F, env, g', sl, w⟩ := q
    exact ⟨cup, F, env, g', sl, w.mono fun v c F' H' _ _ q a o n => q _ ⟨a, rfl, o, n⟩⟩
theorem RepF.step {fl : Bool} {F1 H1 H F2 H2 : Hp} {v : PV} {y : V} (h : RepF x fl F1 H1 H v y) (s : Step x.C F1 H1 F2 H2) : RepF x fl F2 H2 H v y := by
  cases fl with
  | false => exact RepV.le s.grow h
  | true => obtain ⟨a, e, o, n⟩ := h; exact ⟨a, e, o.step s, n⟩
theorem RepF.old {fl : Bool} {F1 H1 H H0 : Hp} {v : PV} {y : V} (h : RepF x fl F1 H1 H v y) (d : ∀ b, H b = none → H0 b = none) : RepF x fl F1 H1 H0 v y := by
  cases fl with
  | false => exact h
  | true => obtain ⟨a, e, o, n⟩ := h; exact ⟨a, e, o, d _ n⟩
def slotF (fl : Bool) (v : PV) : Slot := if fl then .own v else .val v
theorem Slots.setF {F1 H1 H : Hp} {σ : L2.St} {env : Ev} {fl : Bool} {v : PV} {y : V} (sl : Slots x F1 H1 σ env) (r : RepF x fl F1 H1 H v y) (i : Nat) (d : ∀ b, H b = none → x.H0 b = none) (e : ∀ (j : Nat) (w : PV) a, env[j]? = some (.own w) → (show List (Option V) from σ)[j]? = some (some (.ref a)) → ∃ o, H a = some o) :
    Slots x F1 H1 (σ.set i (some y)) (env.set i (slotF fl v)) := by
  cases fl with
  | false => exact sl.setV i r
  | true =>
    obtain ⟨a, ey, o, n⟩ := r
    subst ey
    refine sl.setOwn i o (d _ n) fun j w ew q => ?_
    obtain ⟨ob, ho⟩ := e j w a ew q
    rw [n] at ho
    cases ho
theorem Slots.there {F H : Hp} {σ : L2.St} {env : Ev} (h : Slots x F H σ env) (j : Nat) (w : PV) (a : Addr) (e : env[j]? = some (.own w)) (q : (show List (Option V) from σ)[j]? = some (some (.ref a))) : ∃ o, H a = some o := by
  have ok := h.ok j
  rw [e, q] at ok
  obtain ⟨b, e2, o, _⟩ := ok
  cases e2
  obtain ⟨ob, ho, _⟩ := o.some
  exact ⟨ob, ho⟩
theorem Step.has {C : Option Addr} {F H F' H' : Hp} (s : Step C F H F' H') {a : Addr} {o : HO} (h : H a = some o) : ∃ o', H' a = some o' := by
  cases e : H' a with
  | some o' => exact ⟨o', rfl⟩
  | none => rw [s.dom a e] at h; cases h
/-- slots behind one more store -/
theorem has_set {H1 : Hp} {σ : L2.St} {env : Ev} {i : Nat} {fl : Bool} {v : PV} {y : V} {F1 H : Hp} (sl : ∀ (j : Nat) (w : PV) a, env[j]? = some (.own w) → (show List (Option V) from σ)[j]? = some (some (.ref a)) → ∃ o, H1 a = some o) (r : RepF x fl F1 H1 H v y) :
    ∀ (j : Nat) (w : PV) a, (env.set i (slotF fl v))[j]? = some (.own w) → (show List (Option V) from σ.set i (some y))[j]? = some (some (.ref a)) → ∃ o, H1 a = some o := fun j w a h1 h2 => by
  have h2 : (List.set (show List (Option V) from σ) i (some y))[j]? = some (some (.ref a)) := h2
  by_cases e : i = j
  · subst e
    cases fl with
    | false =>
      by_cases hi : i < env.length
      · rw [List.getElem?_set_self hi] at h1; cases h1
      · rw [List.getElem?_eq_none (by rw [List.length_set]; omega)] at h1; cases h1
    | true =>
      obtain ⟨b, ey, o, n⟩ := r
      subst ey
      by_cases hi : i < (show List (Option V) from σ).length
      · rw [List.getElem?_set_self hi] at h2
        injection h2 with h2
        injection h2 with h2
        injection h2 with h2
        subst h2
        obtain ⟨ob, ho, _⟩ := o.some
        exact ⟨ob, ho⟩
      · rw [List.getElem?_eq_none (by rw [List.length_set]; omega)] at h2; cases h2
  · rw [List.getElem?_set_ne e] at h1 h2
    exact sl j w a h1 h2
theorem par2_core {i j : Nat} {ca cb : CE} {f1 f2 : Bool} {σ : L2.St} {H : Hp} {D : Ends} (h : sE x (evalS call (.par [(i, f1), (j, f2)] [ca, cb])) D σ H) :
    tCons (tF x f1 (evalE call ca)) (tCons (tF x f2 (evalE call cb)) tNil) σ H fun ys H2 => ∃ y1 y2 F c2 F2 env2, ys = [y1, y2] ∧ Good x c2 F2 H2 ∧ Le F F2 ∧ Slots x F2 H2 ((σ.set i (some y1)).set j (some y2)) env2 ∧ WP x (pure (.next env2) : M Out) c2 x.F0 x.H0 fun o _ F' H' => Le F F' → EndOk x D o F' H' := by
  obtain ⟨cup, F, env, g', sl, w⟩ := h
  have w : WP x (evalE call ca env >>= fun u => evalE call cb env >>= fun v => pure (.next ((env.set i (slotF f1 u)).set j (slotF f2 v)))) cup x.F0 x.H0 fun o _ F' H' => Le F F' → EndOk x D o F' H' := by
    have e : evalS call (.par [(i, f1), (j, f2)] [ca, cb]) env = (evalE call ca env >>= fun u => evalE call cb env >>= fun v => pure (.next ((env.set i (slotF f1 u)).set j (slotF f2 v)))) := by
      show (evalE call ca env >>= fun u => (evalE call cb env >>= fun v => (pure [] : M (List PV)) >>= fun vs => pure (v :: vs)) >>= fun vs => pure (u :: vs)) >>= _ = _
      rw [bind_assocM]
      congr 1
      funext u
      rw [bind_assocM, bind_assocM]
      rfl
    rw [e] at w
    exact w
  refine ⟨cup, F, env, g', sl, ((WP.bindB w).later g'.step).mono fun u c F1 H1 s1 g1 w1 y1 r1 => ⟨c, F1, env, g1, sl.step s1, ((WP.bindB w1).later g1.step).mono fun v c2 F2 H2 s2 g2 w2 y2 r2 => ⟨y1, y2, F, c2, F2, _, rfl, g2, (s1.trans s2).grow, ?_, w2⟩⟩⟩
  have slA := (sl.step s1).step s2
  have e0 : ∀ (k : Nat) (w : PV) a, env[k]? = some (.own w) → (show List (Option V) from σ)[k]? = some (some (.ref a)) → ∃ o, H a = some o := sl.there
  have sl1 := slA.setF (r1.step s2) i g'.dom e0
  have e1 := has_set (x := x) (i := i) (fun k w a h1 h2 => (sl.step s1).there k w a h1 h2) r1
  have sl2 := sl1.setF (H := H1) r2 j g1.dom e1
  exact sl2
theorem ps_par2X {i j : Nat} {y z : Str} {a b : Expr} {ca cb : CE} {f1 f2 : Bool} {px py pt : Pos} {kt k2 pt2} (hc : X.calm = true) (hN : X.N.Nodup) (hi : X.N[i]? = some y) (hj : X.N[j]? = some z) (hij : i ≠ j)
    (hx : X.env.scope.names.lookup y = some .local) (hy : X.env.scope.names.lookup z = some .local) (ns1 : NotStar a) (ns2 : NotStar b) (ha : PE X a (tF x f1 (evalE call ca))) (hb : PE X b (tF x f2 (evalE call cb)))
    (hw : swappedStores [.Tuple [.Name y px, .Name z py] kt pt] (.Tuple [a, b] k2 pt2) X.env = pure (some [y, z])) :
    PS X (.Assign [.Tuple [.Name y px, .Name z py] kt pt] (.Tuple [a, b] k2 pt2) pos) (sE x (evalS call (.par [(i, f1), (j, f2)] [ca, cb]))) := by
  refine (ps_par hc hN hi hj hij hx hy (pa_cons ha (pa_cons hb pa_nil (ns2 [] X.env)) (ns1 [b] X.env)) hw rfl).weak fun D σ H h => ?_
  have q := par2_core h
  obtain ⟨cup, F, env, g', sl, w⟩ := q
  exact ⟨cup, F, env, g', sl, w.mono fun v c F1 H1 s1 g1 q y r => by
    obtain ⟨cup, F, env, g', sl, w⟩ := q y r
    exact ⟨cup, F, env, g', sl, w.mono fun v c F1 H1 s1 g1 q y r => by
      obtain ⟨y1, y2, F, c2, F2, env2, e, g2, le, sl2, w2⟩ := q y r
      exact ⟨y1, y2, e, WP.pureB w2 g2.step g2 le _ sl2⟩⟩⟩
theorem ps_asg2X {i j : Nat} {y z : Str} {a b : Expr} {ca cb : CE} {f1 f2 : Bool} {px py pt : Pos} {kt k2 pt2} (hK : X.K = x.K) (hc : X.calm = true) (hN : X.N.Nodup) (hi : X.N[i]? = some y) (hj : X.N[j]? = some z)
    (hx : Loc X.env.scope y) (hy : Loc X.env.scope z) (hfx : X.fn y = true ∨ X.env.scope.names.lookup y = some .local) (hfy : X.fn z = true ∨ X.env.scope.names.lookup z = some .local) (ns1 : NotStar a) (ns2 : NotStar b) (ha : PE X a (tF x f1 (evalE call ca))) (hb : PE X b (tF x f2 (evalE call cb)))
    (hw : swappedStores [.Tuple [.Name y px, .Name z py] kt pt] (.Tuple [a, b] k2 pt2) X.env = pure none) :
    PS X (.Assign [.Tuple [.Name y px, .Name z py] kt pt] (.Tuple [a, b] k2 pt2) pos) (sE x (evalS call (.par [(i, f1), (j, f2)] [ca, cb]))) := by
  refine (ps_asg (pe_tup (pa_cons ha (pa_cons hb pa_nil (ns2 [] X.env)) (ns1 [b] X.env))) (pg_tup (n := 2) hc (pgs_cons (pg_name hN hi hx hfx) (pgs_cons (pg_name hN hj hy hfy) pgs_nil rfl) rfl) rfl rfl) rfl hw rfl).weak fun D σ H h => ?_
  have q := par2_core h
  obtain ⟨cup, F, env, g', sl, w⟩ := q
  exact ⟨cup, F, env, g', sl, w.mono fun v c F1 H1 s1 g1 q y r => by
    obtain ⟨cup, F, env, g', sl, w⟩ := q y r
    exact ⟨cup, F, env, g', sl, w.mono fun v c F1 H1 s1 g1 q y r => by
      obtain ⟨y1, y2, F, c2, F2, env2, e, g2, le, sl2, w2⟩ := q y r
      cases e
      refine ⟨by rw [line_eq]; show 2 ≤ LINE; decide, fun p hp => ⟨p, _, rfl, .inl (.inl upd_same), rfl, _, _, rfl, _, _, rfl, rfl, ?_⟩⟩
      exact WP.pureB w2 (g2.own hp).step (g2.own hp) le _ (sl2.step (Step.own g2 hp))⟩⟩
theorem par3_core {i j l : Nat} {ca cb cc : CE} {f1 f2 f3 : Bool} {σ : L2.St} {H : Hp} {D : Ends} (h : sE x (evalS call (.par [(i, f1), (j, f2), (l, f3)] [ca, cb, cc])) D σ H) :
    tCons (tF x f1 (evalE call ca)) (tCons (tF x f2 (evalE call cb)) (tCons (tF x f3 (evalE call cc)) tNil)) σ H fun ys H2 => ∃ y1 y2 y3 F c2 F2 env2, ys = [y1, y2, y3] ∧ Good x c2 F2 H2 ∧ Le F F2 ∧ Slots x F2 H2 (((σ.set i (some y1)).set j (some y2)).set l (some y3)) env2 ∧ WP x (pure (.next env2) : M Out) c2 x.F0 x.H0 fun o _ F' H' => Le F F' → EndOk x D o F' H' := by
  obtain ⟨cup, F, env, g', sl, w⟩ := h
  have w : WP x (evalE call ca env >>= fun u => evalE call cb env >>= fun v => evalE call cc env >>= fun q => pure (.next (((env.set i (slotF f1 u)).set j (slotF f2 v)).set l (slotF f3 q)))) cup x.F0 x.H0 fun o _ F' H' => Le F F' → EndOk x D o F' H' := by
    have e : evalS call (.par [(i, f1), (j, f2), (l, f3)] [ca, cb, cc]) env = (evalE call ca env >>= fun u => evalE call cb env >>= fun v => evalE call cc env >>= fun q => pure (.next (((env.set i (slotF f1 u)).set j (slotF f2 v)).set l (slotF f3 q)))) := by
      show (evalE call ca env >>= fun u => (evalE call cb env >>= fun v => (evalE call cc env >>= fun q => (pure [] : M (List PV)) >>= fun vs => pure (q :: vs)) >>= fun vs => pure (v :: vs)) >>= fun vs => pure (u :: vs)) >>= _ = _
      rw [bind_assocM]
      congr 1
      funext u
      rw [bind_assocM, bind_assocM]
      congr 1
      funext v
      rw [bind_assocM, bind_assocM]
      rfl
    rw [e] at w
    exact w
  refine ⟨cup, F, env, g', sl, ((WP.bindB w).later g'.step).mono fun u c F1 H1 s1 g1 w1 y1 r1 => ⟨c, F1, env, g1, sl.step s1, ((WP.bindB w1).later g1.step).mono fun v c2 F2 H2 s2 g2 w2 y2 r2 => ⟨c2, F2, env, g2, (sl.step s1).step s2, ((WP.bindB w2).later g2.step).mono fun q c3 F3 H3 s3 g3 w3 y3 r3 => ⟨y1, y2, y3, F, c3, F3, _, rfl, g3, ((s1.trans s2).trans s3).grow, ?_, w3⟩⟩⟩⟩
  have slA := ((sl.step s1).step s2).step s3
  have e0 : ∀ (k : Nat) (w : PV) a, env[k]? = some (.own w) → (show List (Option V) from σ)[k]? = some (some (.ref a)) → ∃ o, H a = some o := sl.there
  have sl1 := slA.setF ((r1.step s2).step s3) i g'.dom e0
  have e1 := has_set (x := x) (i := i) (fun k w a h1 h2 => (sl.step s1).there k w a h1 h2) r1
  have sl2 := sl1.setF (H := H1) (r2.step s3) j g1.dom e1
  have e2 := has_set (x := x) (i := j) (fun k w a h1 h2 => by
    obtain ⟨o, ho⟩ := e1 k w a h1 h2
    exact s2.has ho) r2
  have sl3 := sl2.setF (H := H2) r3 l g2.dom e2
  exact sl3
theorem ps_par3X {i j l : Nat} {y z u : Str} {a b c : Expr} {ca cb cc : CE} {f1 f2 f3 : Bool} {px py pz pt : Pos} {kt k2 pt2} (hc : X.calm = true) (hN : X.N.Nodup) (hi : X.N[i]? = some y) (hj : X.N[j]? = some z) (hl : X.N[l]? = some u) (hij : i ≠ j) (hil : i ≠ l) (hjl : j ≠ l)
    (hx : X.env.scope.names.lookup y = some .local) (hy : X.env.scope.names.lookup z = some .local) (hz : X.env.scope.names.lookup u = some .local) (ns1 : NotStar a) (ns2 : NotStar b) (ns3 : NotStar c) (ha : PE X a (tF x f1 (evalE call ca))) (hb : PE X b (tF x f2 (evalE call cb))) (hcc : PE X c (tF x f3 (evalE call cc)))
    (hw : swappedStores [.Tuple [.Name y px, .Name z py, .Name u pz] kt pt] (.Tuple [a, b, c] k2 pt2) X.env = pure (some [y, z, u])) :
    PS X (.Assign [.Tuple [.Name y px, .Name z py, .Name u pz] kt pt] (.Tuple [a, b, c] k2 pt2) pos) (sE x (evalS call (.par [(i, f1), (j, f2), (l, f3)] [ca, cb, cc]))) := by
  refine PS.weak (ps_par3 hc hN hi hj hl hij hil hjl hx hy hz (pa_cons ha (pa_cons hb (pa_cons hcc pa_nil (ns3 [] X.env)) (ns2 [c] X.env)) (ns1 [b, c] X.env)) hw rfl) fun D σ H h => ?_
  have q := par3_core h
  obtain ⟨cup, F, env, g', sl, w⟩ := q
  exact ⟨cup, F, env, g', sl, w.mono fun v c F1 H1 s1 g1 q y r => by
    obtain ⟨cup, F, env, g', sl, w⟩ := q y r
    exact ⟨cup, F, env, g', sl, w.mono fun v c F1 H1 s1 g1 q y r => by
      obtain ⟨cup, F, env, g', sl, w⟩ := q y r
      exact ⟨cup, F, env, g', sl, w.mono fun v c F1 H1 s1 g1 q y r => by
        obtain ⟨y1, y2, y3, F, c2, F2, env2, e, g2, le, sl2, w2⟩ := q y r
        exact ⟨y1, y2, y3, e, WP.pureB w2 g2.step g2 le _ sl2⟩⟩⟩⟩
theorem ps_asg3X {i j l : Nat} {y z u : Str} {a b c : Expr} {ca cb cc : CE} {f1 f2 f3 : Bool} {px py pz pt : Pos} {kt k2 pt2} (hK : X.K = x.K) (hc : X.calm = true) (hN : X.N.Nodup) (hi : X.N[i]? = some y) (hj : X.N[j]? = some z) (hl : X.N[l]? = some u)
    (hx : Loc X.env.scope y) (hy : Loc X.env.scope z) (hz : Loc X.env.scope u) (hfx : X.fn y = true ∨ X.env.scope.names.lookup y = some .local) (hfy : X.fn z = true ∨ X.env.scope.names.lookup z = some .local) (hfz : X.fn u = true ∨ X.env.scope.names.lookup u = some .local) (ns1 : NotStar a) (ns2 : NotStar b) (ns3 : NotStar c) (ha : PE X a (tF x f1 (evalE call ca))) (hb : PE X b (tF x f2 (evalE call cb))) (hcc : PE X c (tF x f3 (evalE call cc)))
    (hw : swappedStores [.Tuple [.Name y px, .Name z py, .Name u pz] kt pt] (.Tuple [a, b, c] k2 pt2) X.env = pure none) :
    PS X (.Assign [.Tuple [.Name y px, .Name z py, .Name u pz] kt pt] (.Tuple [a, b, c] k2 pt2) pos) (sE x (evalS call (.par [(i, f1), (j, f2), (l, f3)] [ca, cb, cc]))) := by
  refine (ps_asg (pe_tup (pa_cons ha (pa_cons hb (pa_cons hcc pa_nil (ns3 [] X.env)) (ns2 [c] X.env)) (ns1 [b, c] X.env))) (pg_tup (n := 3) hc (pgs_cons (pg_name hN hi hx hfx) (pgs_cons (pg_name hN hj hy hfy) (pgs_cons (pg_name hN hl hz hfz) pgs_nil rfl) rfl) rfl) rfl rfl) rfl hw rfl).weak fun D σ H h => ?_
  have q := par3_core h
  obtain ⟨cup, F, env, g', sl, w⟩ := q
  exact ⟨cup, F, env, g', sl, w.mono fun v c F1 H1 s1 g1 q y r => by
    obtain ⟨cup, F, env, g', sl, w⟩ := q y r
    exact ⟨cup, F, env, g', sl, w.mono fun v c F1 H1 s1 g1 q y r => by
      obtain ⟨cup, F, env, g', sl, w⟩ := q y r
      exact ⟨cup, F, env, g', sl, w.mono fun v c F1 H1 s1 g1 q y r => by
        obtain ⟨y1, y2, y3, F, c2, F2, env2, e, g2, le, sl2, w2⟩ := q y r
        cases e
        refine ⟨by rw [line_eq]; show 3 ≤ LINE; decide, fun p hp => ⟨p, _, rfl, .inl (.inl upd_same), rfl, _, _, rfl, _, _, rfl, _, _, rfl, rfl, ?_⟩⟩
        exact WP.pureB w2 (g2.own hp).step (g2.own hp) le _ (sl2.step (Step.own g2 hp))⟩⟩⟩
theorem par4_core {i j l m : Nat} {ca cb cc cd : CE} {f1 f2 f3 f4 : Bool} {σ : L2.St} {H : Hp} {D : Ends} (h : sE x (evalS call (.par [(i, f1), (j, f2), (l, f3), (m, f4)] [ca, cb, cc, cd])) D σ H) :
    tCons (tF x f1 (evalE call ca)) (tCons (tF x f2 (evalE call cb)) (tCons (tF x f3 (evalE call cc)) (tCons (tF x f4 (evalE call cd)) tNil))) σ H fun ys H2 => ∃ y1 y2 y3 y4 F c2 F2 env2, ys = [y1, y2, y3, y4] ∧ Good x c2 F2 H2 ∧ Le F F2 ∧ Slots x F2 H2 ((((σ.set i (some y1)).set j (some y2)).set l (some y3)).set m (some y4)) env2 ∧ WP x (pure (.next env2) : M Out) c2 x.F0 x.H0 fun o _ F' H' => Le F F' → EndOk x D o F' H' := by
  obtain ⟨cup, F, env, g', sl, w⟩ := h
  have w : WP x (evalE call ca env >>= fun u => evalE call cb env >>= fun v => evalE call cc env >>= fun q => evalE call cd env >>= fun r => pure (.next ((((env.set i (slotF f1 u)).set j (slotF f2 v)).set l (slotF f3 q)).set m (slotF f4 r)))) cup x.F0 x.H0 fun o _ F' H' => Le F F' → EndOk x D o F' H' := by
    have e : evalS call (.par [(i, f1), (j, f2), (l, f3), (m, f4)] [ca, cb, cc, cd]) env = (evalE call ca env >>= fun u => evalE call cb env >>= fun v => evalE call cc env >>= fun q => evalE call cd env >>= fun r => pure (.next ((((env.set i (slotF f1 u)).set j (slotF f2 v)).set l (slotF f3 q)).set m (slotF f4 r)))) := by
      show (evalE call ca env >>= fun u => (evalE call cb env >>= fun v => (evalE call cc env >>= fun q => (evalE call cd env >>= fun r => (pure [] : M (List PV)) >>= fun vs => pure (r :: vs)) >>= fun vs => pure (q :: vs)) >>= fun vs => pure (v :: vs)) >>= fun vs => pure (u :: vs)) >>= _ = _
      simp only [bind_assocM]
      rfl
    rw [e] at w
    exact w
  refine ⟨cup, F, env, g', sl, ((WP.bindB w).later g'.step).mono fun u c F1 H1 s1 g1 w1 y1 r1 => ⟨c, F1, env, g1, sl.step s1, ((WP.bindB w1).later g1.step).mono fun v c2 F2 H2 s2 g2 w2 y2 r2 => ⟨c2, F2, env, g2, (sl.step s1).step s2, ((WP.bindB w2).later g2.step).mono fun q c3 F3 H3 s3 g3 w3 y3 r3 => ⟨c3, F3, env, g3, ((sl.step s1).step s2).step s3, ((WP.bindB w3).later g3.step).mono fun r c4 F4 H4 s4 g4 w4 y4 r4 => ⟨y1, y2, y3, y4, F, c4, F4, _, rfl, g4, (((s1.trans s2).trans s3).trans s4).grow, ?_, w4⟩⟩⟩⟩⟩
  have slA := (((sl.step s1).step s2).step s3).step s4
  have e0 : ∀ (k : Nat) (w : PV) a, env[k]? = some (.own w) → (show List (Option V) from σ)[k]? = some (some (.ref a)) → ∃ o, H a = some o := sl.there
  have sl1 := slA.setF (((r1.step s2).step s3).step s4) i g'.dom e0
  have e1 := has_set (x := x) (i := i) (fun k w a h1 h2 => (sl.step s1).there k w a h1 h2) r1
  have sl2 := sl1.setF (H := H1) ((r2.step s3).step s4) j g1.dom e1
  have e2 := has_set (x := x) (i := j) (fun k w a h1 h2 => by
    obtain ⟨o, ho⟩ := e1 k w a h1 h2
    exact s2.has ho) r2
  have sl3 := sl2.setF (H := H2) (r3.step s4) l g2.dom e2
  have e3 := has_set (x := x) (i := l) (fun k w a h1 h2 => by
    obtain ⟨o, ho⟩ := e2 k w a h1 h2
    exact s3.has ho) r3
  exact sl3.setF (H := H3) r4 m g3.dom e3
theorem ps_asg4X {i j l m : Nat} {y z u t : Str} {a b c d : Expr} {ca cb cc cd : CE} {f1 f2 f3 f4 : Bool} {px py pz pq pt : Pos} {kt k2 pt2} (hc : X.calm = true) (hN : X.N.Nodup) (hi : X.N[i]? = some y) (hj : X.N[j]? = some z) (hl : X.N[l]? = some u) (hm : X.N[m]? = some t)
    (hx : Loc X.env.scope y) (hy : Loc X.env.scope z) (hz : Loc X.env.scope u) (ht : Loc X.env.scope t) (hfx : X.fn y = true ∨ X.env.scope.names.lookup y = some .local) (hfy : X.fn z = true ∨ X.env.scope.names.lookup z = some .local) (hfz : X.fn u = true ∨ X.env.scope.names.lookup u = some .local) (hft : X.fn t = true ∨ X.env.scope.names.lookup t = some .local)
    (ns1 : NotStar a) (ns2 : NotStar b) (ns3 : NotStar c) (ns4 : NotStar d) (ha : PE X a (tF x f1 (evalE call ca))) (hb : PE X b (tF x f2 (evalE call cb))) (hcc : PE X c (tF x f3 (evalE call cc))) (hd : PE X d (tF x f4 (evalE call cd)))
    (hw : swappedStores [.Tuple [.Name y px, .Name z py, .Name u pz, .Name t pq] kt pt] (.Tuple [a, b, c, d] k2 pt2) X.env = pure none) :
    PS X (.Assign [.Tuple [.Name y px, .Name z py, .Name u pz, .Name t pq] kt pt] (.Tuple [a, b, c, d] k2 pt2) pos) (sE x (evalS call (.par [(i, f1), (j, f2), (l, f3), (m, f4)] [ca, cb, cc, cd]))) := by
  refine (ps_asg (pe_tup (pa_cons ha (pa_cons hb (pa_cons hcc (pa_cons hd pa_nil (ns4 [] X.env)) (ns3 [d] X.env)) (ns2 [c, d] X.env)) (ns1 [b, c, d] X.env))) (pg_tup (n := 4) hc (pgs_cons (pg_name hN hi hx hfx) (pgs_cons (pg_name hN hj hy hfy) (pgs_cons (pg_name hN hl hz hfz) (pgs_cons (pg_name hN hm ht hft) pgs_nil rfl) rfl) rfl) rfl) rfl rfl) rfl hw rfl).weak fun D σ H h => ?_
  have q := par4_core h
  obtain ⟨cup, F, env, g', sl, w⟩ := q
  exact ⟨cup, F, env, g', sl, w.mono fun v c F1 H1 s1 g1 q y r => by
    obtain ⟨cup, F, env, g', sl, w⟩ := q y r
    exact ⟨cup, F, env, g', sl, w.mono fun v c F1 H1 s1 g1 q y r => by
      obtain ⟨cup, F, env, g', sl, w⟩ := q y r
      exact ⟨cup, F, env, g', sl, w.mono fun v c F1 H1 s1 g1 q y r => by
        obtain ⟨cup, F, env, g', sl, w⟩ := q y r
        exact ⟨cup, F, env, g', sl, w.mono fun v c F1 H1 s1 g1 q y r => by
          obtain ⟨y1, y2, y3, y4, F, c2, F2, env2, e, g2, le, sl2, w2⟩ := q y r
          cases e
          refine ⟨by rw [line_eq]; show 4 ≤ LINE; decide, fun p hp => ⟨p, _, rfl, .inl (.inl upd_same), rfl, _, _, rfl, _, _, rfl, _, _, rfl, _, _, rfl, rfl, ?_⟩⟩
          exact WP.pureB w2 (g2.own hp).step (g2.own hp) le _ (sl2.step (Step.own g2 hp))⟩⟩⟩⟩
end
end EV

set_option maxRecDepth 100000
set_option maxHeartbeats 4000000
/-! EvS3: lists and dicts of one's own are changed; the cell; loops. -/
namespace EV
open PySem PySem.Spec PyProof.Rows L2
section
variable {X : Cx} {x : Fix} {st : Stmt} {pos : Pos} {call : Str → List PV → M PV} {g : Glb} {N : List Str} {sc : Scope}
theorem Slots.mut {F H : Hp} {σ : L2.St} {env : Ev} {i : Nat} {v w : PV} {a : Addr} {o : HO} (h : Slots x F H σ env) (e : env[i]? = some (.own v)) (ea : (show List (Option V) from σ)[i]? = some (some (.ref a))) (nw : Own x F (upd H a o) w a) : Slots x F (upd H a o) σ (env.set i (.own w)) where
  len := by rw [List.length_set]; exact h.len
  ok := fun j => by
    by_cases q : i = j
    · subst q
      have ok := h.ok i
      rw [e, ea] at ok
      obtain ⟨b, e2, _, n⟩ := ok
      cases e2
      have hi : i < env.length := (List.getElem?_eq_some_iff.mp e).1
      rw [List.getElem?_set_self hi]
      exact ⟨a, ea, nw, n⟩
    · rw [List.getElem?_set_ne q]
      have k := h.ok j
      cases e1 : env[j]? with
      | none => trivial
      | some s =>
        rw [e1] at k
        cases s with
        | no => trivial
        | val u => exact k
        | own u =>
          obtain ⟨b, h1, ⟨o1, o2, o3⟩, h3⟩ := k
          have hb : b ≠ a := fun z => q (h.sep i j v u a e e1 ea (by rw [← z]; exact h1))
          refine ⟨b, h1, ⟨o1, o2, ?_⟩, h3⟩
          cases u with
          | lst l => obtain ⟨vs, p, z, r⟩ := o3; exact ⟨vs, by rw [upd_ne hb]; exact p, z, r⟩
          | dict l => obtain ⟨vs, p, z, r⟩ := o3; exact ⟨vs, by rw [upd_ne hb]; exact p, z, r⟩
          | _ => exact o3.elim
  sep := fun j k a' b' c' h1 h2 h3 h4 => by
    have back : ∀ (j : Nat) (u : PV), (env.set i (.own w))[j]? = some (.own u) → ∃ u', env[j]? = some (.own u') := fun j u h1 => by
      by_cases q : i = j
      · subst q; exact ⟨v, e⟩
      · rw [List.getElem?_set_ne q] at h1; exact ⟨u, h1⟩
    obtain ⟨u1, k1⟩ := back j a' h1
    obtain ⟨u2, k2⟩ := back k b' h2
    exact h.sep j k u1 u2 c' k1 k2 h3 h4
/-- a slot that has a list of its own -/
theorem Slots.ownL {F H : Hp} {σ : L2.St} {env : Ev} (sl : Slots x F H σ env) {i : Nat} {l : List PV} (e : env[i]? = some (.own (.lst l))) : ∃ a vs, (show List (Option V) from σ)[i]? = some (some (.ref a)) ∧ F a = none ∧ x.C ≠ some a ∧ H a = some (.lst vs) ∧ vs.length ≤ LINE ∧ RepVs x.K F x.C l vs ∧ x.H0 a = none := by
  have ok := sl.ok i
  rw [e] at ok
  obtain ⟨a, ea, ⟨o1, o2, vs, p, z, r⟩, n⟩ := ok
  exact ⟨a, vs, ea, o1, o2, p, z, r, n⟩
theorem Slots.ownDt {F H : Hp} {σ : L2.St} {env : Ev} (sl : Slots x F H σ env) {i : Nat} {l : List (PV × PV)} (e : env[i]? = some (.own (.dict l))) : ∃ a vs, (show List (Option V) from σ)[i]? = some (some (.ref a)) ∧ F a = none ∧ x.C ≠ some a ∧ H a = some (.dK vs) ∧ vs.length ≤ LINE ∧ RepKs x.K F x.C l vs ∧ x.H0 a = none := by
  have ok := sl.ok i
  rw [e] at ok
  obtain ⟨a, ea, ⟨o1, o2, vs, p, z, r⟩, n⟩ := ok
  exact ⟨a, vs, ea, o1, o2, p, z, r, n⟩
variable {y : Str} {i : Nat}
/-- x.append(e) -/
theorem ps_appX {e : Expr} {ce : CE} {p ap cp ep : Pos} (hy : X.N[i]? = some y) (hv : Vis X.env.scope y) (hd : (y == ("__debug__" : Str)) = false) (hcd : (y == ("__classdict__" : Str)) = false) (hline : (ap.endLine == cp.line) = true) (ns : NotStar e) (he : PE X e (tE x (evalE call ce))) :
    PS X (.Expr (.Call (.Attribute (.Name y p) "append" ap) [e] [] cp) ep) (sE x (evalS call (.app i ce))) := by
  have hs : ∀ d ∈ [e], NotStar d := fun d hd => by rw [List.mem_singleton.mp hd]; exact ns
  have hfew : ((backTo cp (starEach [e] X.env)).all (fun x => !x.1) && (backToKw cp (keywordEach [] X.env)).all (fun x => x.1.isSome) && decide ([e].length + ([] : List Keyword).length + (if ([] : List Keyword).isEmpty then 0 else 1) < 30)) = true := by
    rw [stars_all hs]
    rfl
  have hp := pe_bm (X := X) (cpos := cp) (apos := ap) (r := rAppend) PySem.F.plainAttrs_list PySem.F.slot_list_append PySem.F.type_list_append mt_append (pe_var (pos := p) hy hv hd hcd) (pa_cons he pa_nil (ns [] X.env)) rfl hfew hline (ns [] X.env) rfl
  refine (ps_expr hp rfl).weak fun D σ H h => ?_
  obtain ⟨cup, F, env, g', sl, w⟩ := h
  cases e1 : env[i]? with
  | none =>
    have w : WP x (match env[i]? with | some (.own (.lst l)) => _ | _ => fail : M Out) cup x.F0 x.H0 _ := w
    rw [e1] at w
    exact w.elim
  | some s =>
    have w : WP x (match env[i]? with
      | some (.own (.lst l)) => (do let v ← evalE call ce env; if l.length < LINE then pure (.next (env.set i (.own (.lst (l ++ [v]))))) else fail)
      | _ => fail : M Out) cup x.F0 x.H0 fun o _ F' H' => Le F F' → EndOk x D o F' H' := w
    rw [e1] at w
    cases s with
    | own v => cases v with
      | lst l =>
        obtain ⟨a, vs, ea, o1, o2, p1, z, r, n⟩ := sl.ownL e1
        refine ⟨.ref a, ea, .inl ⟨rfl, vs, .inl (.inl p1)⟩, cup, F, env, g', sl, ((WP.bindB w).later g'.step).mono fun u c F1 H1 s1 g1 w1 yv ry => ?_⟩
        obtain ⟨hl, w2⟩ := WP.ite w1
        obtain ⟨a', vs', ea', o1', o2', p1', z', r', n'⟩ := (sl.step s1).ownL e1
        have : a' = a := by rw [ea] at ea'; cases ea'; rfl
        subst this
        have hlen := r'.length
        refine ⟨a', vs', yv, rfl, rfl, p1', by rw [line_eq]; omega, ?_⟩
        refine WP.pureB w2 (g1.setOwn o1' n' o2').step (g1.setOwn o1' n' o2') s1.grow σ ((sl.step s1).mut e1 ea ⟨o1', o2', _, upd_same, ?_, r'.append (.cons ry .nil)⟩)
        rw [List.length_append]
        simp
        omega
      | _ => exact w.elim
    | _ => exact w.elim

/-! ### x[k] = v -/
def rSetA : TSet := fun o i v H Q => rSetL o i v H Q ∨ ∃ a H4, o = .ref a ∧ DPut H a i v H4 ∧ Q H4
theorem set_any (hu : X.A.units + 1 < cLine) : PSet X rSetA := by
  intro pins s σ H o i v ov iv u Q I ro ri rv h
  rcases h with h | ⟨a, H4, e, d, q⟩
  · exact set_list pins s σ H o i v ov iv u Q I ro ri rv h
  · subst e
    cases ro
    exact d_setItem hu I d ri rv fun s' I' => ⟨H4, I', q⟩
theorem Good.setCell {cup cup' F H} {a : Addr} {vs : List V} (g : Good x cup F H) (ha : x.C = some a) (r : RepVs x.K F x.C cup' vs) : Good x cup' F (upd H a (.lst vs)) where
  sub := fun b o h => by
    have : b ≠ a := fun e => by
      obtain ⟨q, _⟩ := g.cell a ha
      rw [e, q] at h; cases h
    rw [upd_ne this]
    exact g.sub b o h
  grow := g.grow
  new := g.new
  frame := fun b o h n t => by
    have : b ≠ a := fun e => n (by rw [e]; exact ha)
    rw [upd_ne this]
    exact g.frame b o h n t
  dom := fun b h => by
    by_cases e : b = a
    · subst e; rw [upd_same] at h; cases h
    · rw [upd_ne e] at h; exact g.dom b h
  cell := fun b h => by
    have e : b = a := by rw [ha] at h; cases h; rfl
    subst e
    exact ⟨(g.cell b h).1, vs, upd_same, r⟩
theorem Slots.cell {F H : Hp} {σ : L2.St} {env : Ev} {a : Addr} {o : HO} (sl : Slots x F H σ env) (ha : x.C = some a) : Slots x F (upd H a o) σ env where
  len := sl.len
  sep := sl.sep
  ok := fun j => by
    have k := sl.ok j
    cases e1 : env[j]? with
    | none => trivial
    | some s =>
      rw [e1] at k
      cases s with
      | no => trivial
      | val u => exact k
      | own u =>
        obtain ⟨b, h1, ⟨o1, o2, o3⟩, h3⟩ := k
        have hb : b ≠ a := fun z => o2 (by rw [z]; exact ha)
        refine ⟨b, h1, ⟨o1, o2, ?_⟩, h3⟩
        cases u with
        | lst l => obtain ⟨vs, p, z, r⟩ := o3; exact ⟨vs, by rw [upd_ne hb]; exact p, z, r⟩
        | dict l => obtain ⟨vs, p, z, r⟩ := o3; exact ⟨vs, by rw [upd_ne hb]; exact p, z, r⟩
        | _ => exact o3.elim
theorem setAt_ok {l : List PV} {k v : PV} {c F H} {P : List PV → Cup → Hp → Hp → Prop} (w : WP x (setAt l k v) c F H P) : ∃ i j, k = .int i ∧ ixOf l.length i = some j ∧ WP x (pure (l.set j v) : M (List PV)) c F H P := by
  cases k with
  | int i =>
    obtain ⟨j, h1, h2⟩ := WP.optB (f := fun j => pure (l.set j v)) w
    exact ⟨i, j, rfl, h1, h2⟩
  | _ => exact w.elim
theorem ps_setixX (hu : X.A.units + 1 < cLine) {k e : Expr} {ck ce : CE} {p tp : Pos} (hy : X.N[i]? = some y) (hv : Vis X.env.scope y) (hd : (y == ("__debug__" : Str)) = false) (hcd : (y == ("__classdict__" : Str)) = false) (hsl : ∀ a b c d, k ≠ .Slice a b c d)
    (he : PE X e (tE x (evalE call ce))) (hk : PE X k (tP x (evalE call ck))) (hs : swapsWith e (some (.Subscript (.Name y p) k tp)) pos.line X.env = pure false) :
    PS X (.Assign [.Subscript (.Name y p) k tp] e pos) (sE x (evalS call (.setix i ck ce))) := by
  have ha : ∀ v, assign (.Subscript (.Name y p) k tp) X.env v = (do
      let ov ← holding [v] (eval (.Name y p) X.env)
      let iv ← holding [v, ov] (eval k X.env)
      standAt tp
      holding [v, ov, iv] (setItem ov iv v)
      release [v, ov, iv] []) := fun v => by
    cases k <;> first | rfl | exact absurd rfl (hsl _ _ _ _)
  refine (ps_asg he (pg_sub (pe_var (pos := p) hy hv hd hcd) hk (set_any hu) ha) hs (by rfl) rfl).weak fun D σ H h => ?_
  obtain ⟨cup, F, env, g', sl, w⟩ := h
  obtain ⟨hok, w⟩ := guardB (k := fun _ => evalE call ce env >>= fun v => evalE call ck env >>= fun u => putIx env i u v >>= fun env' => (pure (Out.next env') : M Out)) w
  refine ⟨cup, F, env, g', sl, ((WP.bindB w).later g'.step).mono fun v c F1 H1 s1 g1 w1 yv rv => ?_⟩
  cases e1 : env[i]? with
  | none => unfold slotOk at hok; rw [e1] at hok; cases hok
  | some s =>
    cases s with
    | no => unfold slotOk at hok; rw [e1] at hok; cases hok
    | own u =>
      cases u with
      | lst l =>
        obtain ⟨a, vs, ea, o1, o2, p1, z, r, n⟩ := (sl.step s1).ownL e1
        refine ⟨.ref a, ea, c, F1, env, g1, sl.step s1, ((WP.bindB w1).later g1.step).mono fun kv c2 F2 H2 s2 g2 w2 yk rk => ?_⟩
        obtain ⟨a', vs', ea', o1', o2', p1', z', r', n'⟩ := ((sl.step s1).step s2).ownL e1
        have : a' = a := by rw [ea] at ea'; cases ea'; rfl
        subst this
        have w2 : WP x ((setAt l kv v >>= fun l' => pure (env.set i (.own (.lst l')))) >>= fun env' => (pure (Out.next env') : M Out)) c2 x.F0 x.H0 fun o _ F' H' => Le F F' → EndOk x D o F' H' := by
          have e : putIx env i kv v = (setAt l kv v >>= fun l' => pure (env.set i (.own (.lst l')))) := by unfold putIx; rw [e1]
          rw [e] at w2
          exact w2
        obtain ⟨ki, j, ek, hj, w3⟩ := setAt_ok (WP.bindB (WP.bindB w2))
        subst ek
        refine .inl ⟨a', vs', ki, j, rfl, rk.int, p1', by rw [← ixOf_eq, ← r'.length]; exact hj, ?_⟩
        have g3 := g2.setOwn (o := .lst (vs'.set j yv)) o1' n' o2'
        have w4 := w3.pureB g3.step g3
        have w5 : EndOk x D (.next (env.set i (.own (.lst (l.set j v))))) F2 (upd H2 a' (.lst (vs'.set j yv))) := WP.pureB (WP.pureB w4 g3.step g3) g3.step g3 (s1.trans s2).grow
        exact w5 σ (((sl.step s1).step s2).mut e1 ea ⟨o1', o2', _, upd_same, by rw [List.length_set]; exact z', r'.set j (rv.le s2.grow)⟩)
      | dict l =>
        obtain ⟨a, vs, ea, o1, o2, p1, z, r, n⟩ := (sl.step s1).ownDt e1
        refine ⟨.ref a, ea, c, F1, env, g1, sl.step s1, ((WP.bindB w1).later g1.step).mono fun kv c2 F2 H2 s2 g2 w2 yk rk => ?_⟩
        obtain ⟨a', vs', ea', o1', o2', p1', z', r', n'⟩ := ((sl.step s1).step s2).ownDt e1
        have : a' = a := by rw [ea] at ea'; cases ea'; rfl
        subst this
        have w2 : WP x ((if (isKey kv && decide (l.length < LINE)) = true then pure (env.set i (.own (.dict (putD kv v l)))) else fail) >>= fun env' => (pure (Out.next env') : M Out)) c2 x.F0 x.H0 fun o _ F' H' => Le F F' → EndOk x D o F' H' := by
          have e : putIx env i kv v = (if (isKey kv && decide (l.length < LINE)) = true then pure (env.set i (.own (.dict (putD kv v l)))) else fail) := by unfold putIx; rw [e1]
          rw [e] at w2
          exact w2
        obtain ⟨hz, w3⟩ := WP.ite (WP.bindB w2)
        obtain ⟨hz1, hz2⟩ := Bool.and_eq_true_iff.mp hz
        have hz2 := of_decide_eq_true hz2
        obtain ⟨q, hq, ek⟩ := isKey_keyV hz1 rk
        refine .inr ⟨a', _, rfl, by rw [ek]; exact DPut.k p1' (by rw [line_eq, ← r'.length]; exact hz2), ?_⟩
        have g3 := g2.setOwn (o := .dK (putK vs' q yv)) o1' n' o2'
        have w4 := w3.pureB g3.step g3
        have w5 : EndOk x D (.next (env.set i (.own (.dict (putD kv v l))))) F2 (upd H2 a' (.dK (putK vs' q yv))) := WP.pureB w4 g3.step g3 (s1.trans s2).grow
        have rr := r'.put hq (rv.le s2.grow)
        exact w5 σ (((sl.step s1).step s2).mut e1 ea ⟨o1', o2', _, upd_same, by rw [← rr.length]; exact Nat.le_trans (putD_len _ _ _) hz2, rr⟩)
      | _ => unfold slotOk at hok; rw [e1] at hok; cases hok
    | val u =>
      cases u with
      | cell =>
        have ok := (sl.step s1).ok i
        rw [e1] at ok
        obtain ⟨yc, eyc, rc⟩ := ok
        cases rc with
        | cell hC =>
          rename_i a
          refine ⟨.ref a, eyc, c, F1, env, g1, sl.step s1, ((WP.bindB w1).later g1.step).mono fun kv c2 F2 H2 s2 g2 w2 yk rk => ?_⟩
          have w2 : WP x ((get >>= fun c => setAt c kv v >>= fun c' => put c' >>= fun _ => pure env) >>= fun env' => (pure (Out.next env') : M Out)) c2 x.F0 x.H0 fun o _ F' H' => Le F F' → EndOk x D o F' H' := by
            have e : putIx env i kv v = (get >>= fun c => setAt c kv v >>= fun c' => put c' >>= fun _ => pure env) := by unfold putIx; rw [e1]
            rw [e] at w2
            exact w2
          have w2 : WP x (setAt c2 kv v >>= fun c' => put c' >>= fun _ => (pure (Out.next env) : M Out)) c2 x.F0 x.H0 fun o _ F' H' => Le F F' → EndOk x D o F' H' := by
            rw [bind_assocM] at w2
            have w2 : WP x ((setAt c2 kv v >>= fun c' => put c' >>= fun _ => pure env) >>= fun env' => (pure (Out.next env') : M Out)) c2 x.F0 x.H0 fun o _ F' H' => Le F F' → EndOk x D o F' H' := w2
            rw [bind_assocM] at w2
            exact w2
          obtain ⟨ki, j, ek, hj, w3⟩ := setAt_ok (WP.bindB w2)
          subst ek
          obtain ⟨hF, vs', p1', r'⟩ := g2.cell a hC
          refine .inl ⟨a, vs', ki, j, rfl, rk.int, p1', by rw [← ixOf_eq, ← r'.length]; exact hj, ?_⟩
          have g3 := g2.setCell hC (r'.set j (rv.le s2.grow))
          have w3 : WP x (put (c2.set j v) >>= fun _ => (pure (Out.next env) : M Out)) c2 x.F0 x.H0 fun o _ F' H' => Le F F' → EndOk x D o F' H' := by
            unfold WP at w2 ⊢
            have e : setAt c2 (.int ki) v c2 = .ok (c2.set j v) c2 := by
              show (optM (ixOf c2.length ki) >>= fun j => pure (c2.set j v)) c2 = _
              rw [hj]
              rfl
            rw [bind_ok e] at w2
            exact w2
          have w4 : EndOk x D (.next env) F2 (upd H2 a (.lst (vs'.set j yv))) := w3 F2 _ g3.step g3 (s1.trans s2).grow
          exact w4 σ (((sl.step s1).step s2).cell hC)
      | _ => unfold slotOk at hok; rw [e1] at hok; cases hok
end
end EV

set_option maxRecDepth 100000
set_option maxHeartbeats 4000000
/-! EvS4: x op= e, x[k] op= e, pop, loops. -/
namespace EV
open PySem PySem.Spec PyProof.Rows L2
section
variable {X : Cx} {x : Fix} {st : Stmt} {pos : Pos} {call : Str → List PV → M PV} {g : Glb} {N : List Str} {sc : Scope} {y : Str} {i : Nat}

/-! ### x[k] op= e -/
/-- a list's item from the front -/
def rGetL : V → V → Hp → VK → Prop := fun o k H Q => ∃ a xs j v, o = .ref a ∧ k = .int j ∧ 0 ≤ j ∧ H a = some (.lst xs) ∧ xs.length ≤ LINE ∧ xs[j.toNat]? = some v ∧ Q v H
theorem get_lstE : PGet X rGetL := by
  intro pins s σ H o k ov iv Q I ro rk ⟨a, xs, j, v, e1, e2, h0, hH, hz, hx, q⟩
  subst e1 e2
  cases ro
  obtain ⟨t, rfl⟩ := rk
  obtain ⟨z, its, n, r, hl, e⟩ := I.lstM hH
  obtain ⟨u, hu, ru⟩ := r.get hx
  have hlt : j.toNat < xs.length := (List.getElem?_eq_some_iff.mp hx).1
  have hL : (LINE : Int) < 2 ^ 63 := by decide
  refine PySem.wpAny_getItem_list (l := a) (items := its.toArray) ⟨_, e, rfl, n, rfl⟩ h0 (by omega) (by simpa using hu) ⟨v, H, I, ru, q⟩
def rAug (x : Fix) (o : BOp) : R2 := r2 x (augV o)
theorem ip_augE (o : BOp) : OpR X (inplaceOp (pyOp o)) (rAug x o) := by
  intro pins s σ H y1 y2 v u Q I rx ry ⟨v1, v2, cup, F, g, h1, h2, w⟩
  cases o with
  | add =>
    cases v1 <;> cases v2 <;> first | exact False.elim w | skip
    case int.int i j => exact iop_add pins s σ H _ _ v u Q I rx ry ⟨i, j, h1.int, h2.int, end_int w g⟩
    case str.str a b =>
      obtain ⟨hz, w⟩ := WP.ite w
      obtain ⟨e1, o1⟩ := h1.str
      obtain ⟨e2, o2⟩ := h2.str
      refine iop_add_str pins s σ H _ _ v u Q I rx ry ⟨toS a, toS b, e1, e2, by rw [toS_len, toS_len, line_eq]; exact hz, ?_⟩
      rw [toS_append]
      exact end_str w g (okL_append o1 o2 hz)
  | sub =>
    cases v1 <;> cases v2 <;> first | exact False.elim w | skip
    case int.int i j => exact iop_sub pins s σ H _ _ v u Q I rx ry ⟨i, j, h1.int, h2.int, end_int w g⟩
  | _ => cases v1 <;> cases v2 <;> exact False.elim w
theorem augV_plain {o : BOp} {v1 v2 v : PV} {c c' : Cup} (h : augV o v1 v2 c = .ok v c') : c' = c ∧ ∀ l, v ≠ .lst l := by
  cases o <;> cases v1 <;> cases v2 <;> first
    | (cases h; done)
    | skip
  case add.int.int => cases h; exact ⟨rfl, fun _ z => nomatch z⟩
  case sub.int.int => cases h; exact ⟨rfl, fun _ z => nomatch z⟩
  case add.str.str a b =>
    have h : (if a.length + b.length ≤ LINE then (pure (.str (a ++ b)) : M PV) else fail) c = .ok v c' := h
    split at h
    · cases h; exact ⟨rfl, fun _ z => nomatch z⟩
    · cases h
theorem ps_augixX {o : BOp} {k e : Expr} {ck ce : CE} {p tp : Pos} (hy : X.N[i]? = some y) (hv : Vis X.env.scope y) (hd : (y == ("__debug__" : Str)) = false) (hcd : (y == ("__classdict__" : Str)) = false) (hsl : ∀ a b c d, k ≠ .Slice a b c d)
    (he : PE X e (tP x (evalE call ce))) (hk : PE X k (tP x (evalE call ck))) :
    PS X (.AugAssign (.Subscript (.Name y p) k tp) (pyOp o) e pos) (sE x (evalS call (.augix i ck o ce))) := by
  have ha : ∀ ov iv new, augStore k ov iv new = (do holding [new, ov, iv] (setItem ov iv new); release [new, ov, iv] []; pure .next) := fun ov iv new => by
    cases k <;> first | rfl | exact absurd rfl (hsl _ _ _ _)
  refine (ps_augS (pe_var (pos := p) hy hv hd hcd) hk get_lstE he (ip_augE (x := x) o) set_list ha).weak fun D σ H h => ?_
  obtain ⟨cup, F, env, g', sl, w⟩ := h
  cases e1 : env[i]? with
  | none =>
    have w : WP x (match env[i]? with | some (.own (.lst l)) => _ | _ => fail : M Out) cup x.F0 x.H0 _ := w
    rw [e1] at w
    exact w.elim
  | some s =>
    have w : WP x (match env[i]? with
      | some (.own (.lst l)) => (evalE call ck env >>= fun kv => optM (ixNat kv) >>= fun j => optM (l[j]?) >>= fun old => evalE call ce env >>= fun u => augV o old u >>= fun r => pure (.next (env.set i (.own (.lst (l.set j r))))))
      | _ => fail : M Out) cup x.F0 x.H0 fun o _ F' H' => Le F F' → EndOk x D o F' H' := w
    rw [e1] at w
    cases s with
    | own v => cases v with
      | lst l =>
        obtain ⟨a, vs, ea, o1, o2, p1, z, r, n⟩ := sl.ownL e1
        refine ⟨.ref a, ea, cup, F, env, g', sl, ((WP.bindB w).later g'.step).mono fun kv c1 F1 H1 s1 g1 w1 yk rk => ?_⟩
        obtain ⟨a1, vs1, ea1, q1, q2, q3, q4, q5, q6⟩ := (sl.step s1).ownL e1
        have : a1 = a := by rw [ea] at ea1; cases ea1; rfl
        subst this
        obtain ⟨j, hj, w2⟩ := WP.optB w1
        obtain ⟨old, ho, w3⟩ := WP.optB w2
        cases kv with
        | int jj =>
          have hj : (if 0 ≤ jj then some jj.toNat else none) = some j := hj
          split at hj
          · rename_i h0
            cases hj
            obtain ⟨yo, hyo, ro⟩ := q5.get ho
            refine ⟨a1, vs1, jj, yo, rfl, rk.int, h0, q3, q4, hyo, c1, F1, env, g1, sl.step s1, ((WP.bindB w3).later g1.step).mono fun u c2 F2 H2 s2 g2 w4 yu ru => ?_⟩
            refine ⟨old, u, c2, F2, g2, .inl (ro.le s2.grow), ru, ((WP.bindB w4).later g2.step).monoV fun nv c3 F3 H3 ev s3 g3 w5 yn rn => ?_⟩
            obtain ⟨a3, vs3, ea3, t1, t2, t3, t4, t5, t6⟩ := (((sl.step s1).step s2).step s3).ownL e1
            have : a3 = a1 := by rw [ea] at ea3; cases ea3; rfl
            subst this
            have rn : RepV x.K F3 x.C nv yn := by
              rcases rn with rn | ⟨_, _, ⟨⟨l', el⟩, _⟩, _⟩
              · exact rn
              · exact absurd el ((augV_plain ev).2 l')
            have hlt : jj.toNat < l.length := (List.getElem?_eq_some_iff.mp ho).1
            refine ⟨a3, vs3, jj, jj.toNat, rfl, rk.int, t3, ?_, ?_⟩
            · rw [← ixOf_eq, ← t5.length]
              unfold ixOf
              rw [if_pos h0, if_pos (by omega)]
            · have g4 := g3.setOwn (o := .lst (vs3.set jj.toNat yn)) t1 t6 t2
              have w6 : EndOk x D (.next (env.set i (.own (.lst (l.set jj.toNat nv))))) F3 (upd H3 a3 (.lst (vs3.set jj.toNat yn))) := WP.pureB w5 g4.step g4 ((s1.trans s2).trans s3).grow
              exact w6 σ ((((sl.step s1).step s2).step s3).mut e1 ea ⟨t1, t2, _, upd_same, by rw [List.length_set]; exact t4, t5.set _ rn⟩)
          · cases hj
        | _ => cases hj
      | _ => exact w.elim
    | _ => exact w.elim

/-! ### x op= e -/
def rAugA (x : Fix) (o : BOp) : R2 := fun a b H Q => rAug x o a b H Q ∨ (o = .add ∧ rExt2 a b H Q)
theorem ip_augA (o : BOp) : OpR X (inplaceOp (pyOp o)) (rAugA x o) := by
  intro pins s σ H y1 y2 v u Q I rx ry h
  rcases h with h | ⟨e, h⟩
  · exact ip_augE o pins s σ H y1 y2 v u Q I rx ry h
  · subst e
    exact iop_ext pins s σ H y1 y2 v u Q I rx ry h
theorem ps_augX {o : BOp} {e : Expr} {ce : CE} {p : Pos} (hN : X.N.Nodup) (hy : X.N[i]? = some y) (hx : Loc X.env.scope y) (hf : X.fn y = true ∨ X.env.scope.names.lookup y = some .local) (he : PE X e (tP x (evalE call ce))) :
    PS X (.AugAssign (.Name y p) (pyOp o) e pos) (sE x (evalS call (.aug i o ce))) := by
  refine (ps_aug hN hy hx he (ip_augA (x := x) o) hf).weak fun D σ H h => ?_
  obtain ⟨cup, F, env, g', sl, w⟩ := h
  have w : WP x (match env[i]? with
    | some (.val v) => (evalE call ce env >>= fun u => augV o v u >>= fun r => pure (.next (env.set i (.val r))))
    | some (.own (.lst l)) => (match (generalizing := false) o with
      | .add => (evalE call ce env >>= fun u => optM (lstOf u) >>= fun m => if l.length + m.length ≤ LINE then pure (.next (env.set i (.own (.lst (l ++ m))))) else fail)
      | _ => fail)
    | _ => fail : M Out) cup x.F0 x.H0 fun o _ F' H' => Le F F' → EndOk x D o F' H' := w
  cases e1 : env[i]? with
  | none => rw [e1] at w; exact w.elim
  | some s =>
    rw [e1] at w
    cases s with
    | no => exact w.elim
    | val v =>
      have ok := sl.ok i
      rw [e1] at ok
      obtain ⟨yv, ey, rv⟩ := ok
      refine ⟨yv, ey, cup, F, env, g', sl, ((WP.bindB w).later g'.step).mono fun u c1 F1 H1 s1 g1 w1 yu ru => ?_⟩
      refine .inl ⟨v, u, c1, F1, g1, .inl (rv.le s1.grow), ru, ((WP.bindB w1).later g1.step).monoV fun nv c3 F3 H3 ev s3 g3 w5 yn rn => ?_⟩
      have rn : RepV x.K F3 x.C nv yn := by
        rcases rn with rn | ⟨_, _, ⟨⟨l', el⟩, _⟩, _⟩
        · exact rn
        · exact absurd el ((augV_plain ev).2 l')
      exact WP.pureB w5 g3.step g3 (s1.trans s3).grow _ (((sl.step s1).step s3).setV i rn)
    | own v =>
      cases v with
      | lst l =>
        cases o with
        | add =>
          obtain ⟨a, vs, ea, o1, o2, p1, z, r, n⟩ := sl.ownL e1
          refine ⟨.ref a, ea, cup, F, env, g', sl, ((WP.bindB w).later g'.step).mono fun u c1 F1 H1 s1 g1 w1 yu ru => ?_⟩
          obtain ⟨m, hm, w2⟩ := WP.optB w1
          obtain ⟨hz, w3⟩ := WP.ite w2
          cases u with
          | lst m' =>
            cases hm
            obtain ⟨a1, vs1, ea1, q1, q2, q3, q4, q5, q6⟩ := (sl.step s1).ownL e1
            have : a1 = a := by rw [ea] at ea1; cases ea1; rfl
            subst this
            obtain ⟨b, ws, eb, hb, zb, rb⟩ := ru.lst g1.sub
            have hz' : vs1.length + ws.length ≤ LINE := by rw [← q5.length, ← rb.length]; exact hz
            refine .inr ⟨rfl, a1, b, vs1, ws, rfl, eb, q3, hb, by rw [line_eq]; exact hz', ?_⟩
            have g4 := g1.setOwn (o := .lst (vs1 ++ ws)) q1 q6 q2
            have w6 : EndOk x D (.next (env.set i (.own (.lst (l ++ m))))) F1 (upd H1 a1 (.lst (vs1 ++ ws))) := WP.pureB w3 g4.step g4 s1.grow
            refine w6 _ ?_
            have hset : (show List (Option V) from σ.set i (some (.ref a1))) = σ := by
              refine List.ext_getElem? fun j => ?_
              show (List.set (show List (Option V) from σ) i (some (.ref a1)))[j]? = _
              by_cases e : i = j
              · subst e
                rw [List.getElem?_set_self (List.getElem?_eq_some_iff.mp ea).1]
                exact ea.symm
              · rw [List.getElem?_set_ne e]
            have := (sl.step s1).mut e1 ea (o := .lst (vs1 ++ ws)) (w := .lst (l ++ m)) ⟨q1, q2, _, upd_same, by rw [List.length_append]; exact hz', q5.append rb⟩
            rw [← hset] at this
            exact this
          | _ => cases hm
        | _ => exact w.elim
      | _ => exact w.elim

/-! ### t = x.pop() -/
theorem ps_popX {tg : Expr} {t : CT} {p ap cp : Pos} (hc : X.calm = true) (hy : X.N[i]? = some y) (hv : Vis X.env.scope y) (hd : (y == ("__debug__" : Str)) = false) (hcd : (y == ("__classdict__" : Str)) = false) (hline : (ap.endLine == cp.line) = true) (hg : PG X tg (gE x t))
    (hs : swapsWithSole [tg] (.Call (.Attribute (.Name y p) "pop" ap) [] [] cp) pos.line X.env = pure false) (hw : swappedStores [tg] (.Call (.Attribute (.Name y p) "pop" ap) [] [] cp) X.env = pure none) (h1 : (assignEach [tg] X.env).map (·.2) = [assign tg X.env]) :
    PS X (.Assign [tg] (.Call (.Attribute (.Name y p) "pop" ap) [] [] cp) pos) (sE x (evalS call (.popTo t i))) := by
  have hp := pe_bm0 (X := X) (cpos := cp) (apos := ap) (r := rPop) PySem.F.plainAttrs_list PySem.F.slot_list_pop PySem.F.type_list_pop mt_pop (pe_var (pos := p) hy hv hd hcd) rfl hline
  refine (ps_asg hp hg hs hw h1).weak fun D σ H h => ?_
  obtain ⟨cup, F, env, g', sl, w⟩ := h
  have w : WP x (match env[i]? with
    | some (.own (.lst l)) => (match l.getLast? with
      | some v => (asgT t v (env.set i (.own (.lst l.dropLast))) >>= fun env' => pure (.next env'))
      | none => fail)
    | _ => fail : M Out) cup x.F0 x.H0 fun o _ F' H' => Le F F' → EndOk x D o F' H' := w
  cases e1 : env[i]? with
  | none => rw [e1] at w; exact w.elim
  | some s =>
    rw [e1] at w
    cases s with
    | own v => cases v with
      | lst l =>
        cases e2 : l.getLast? with
        | none =>
          have w : WP x (match l.getLast? with | some v => _ | none => fail : M Out) cup x.F0 x.H0 _ := w
          rw [e2] at w
          exact w.elim
        | some v =>
          have w : WP x (match l.getLast? with
            | some v => (asgT t v (env.set i (.own (.lst l.dropLast))) >>= fun env' => pure (.next env'))
            | none => fail : M Out) cup x.F0 x.H0 fun o _ F' H' => Le F F' → EndOk x D o F' H' := w
          rw [e2] at w
          obtain ⟨env', e3, w2⟩ := WP.optB w
          obtain ⟨a, vs, ea, o1, o2, p1, z, r, n⟩ := sl.ownL e1
          have hl : l[vs.length - 1]? = some v := by rw [← r.length, ← List.getLast?_eq_getElem?]; exact e2
          obtain ⟨yv, h3, h4⟩ := r.get hl
          refine ⟨.ref a, ea, .inl ⟨rfl, vs, .inl (.inl p1)⟩, a, vs, yv, rfl, rfl, p1, h3, ?_⟩
          have hdrop : RepVs x.K F x.C l.dropLast vs.dropLast := by
            rw [List.dropLast_eq_take, List.dropLast_eq_take, r.length]
            exact r.take _
          have g4 := g'.setOwn (o := .lst vs.dropLast) o1 n o2
          have sl4 := sl.mut e1 ea (o := .lst vs.dropLast) (w := .lst l.dropLast) ⟨o1, o2, _, upd_same, by rw [List.length_dropLast]; omega, hdrop⟩
          exact ⟨v, cup, F, _, env', g4, sl4, h4, e3, fun σ' sl' _ => WP.pureB w2 g4.step g4 (Le.refl _) σ' sl'⟩
      | _ => exact w.elim
    | _ => exact w.elim

/-! ### loops -/
theorem ps_forX (hxe : X.xe = fun _ _ => False) (hc : X.calm = true) {tg iter : Expr} {body : List Stmt} {t : CT} {mi : Ev → M (List PV)} {ci : CIt} {cb : List CS} (hmi : evalIt call ci = mi) (hi : PI X tg iter (iE x leR mi)) (hg : PG X tg (gE x t)) (hb : PSs X body (sE x (evalB call cb))) (hs : ∀ v, foldedSetIterable iter X.env v = pure v) :
    PS X (.For tg iter body [] pos) (sE x (evalS call (.fors t ci cb))) := by
  have hp : PassesOwn (model X.prog X.w) X.A X.env X.xe := by rw [hxe]; exact PassesOwn.never
  refine (ps_for hp hc hi hg hb hs).weak fun D σ H h => ?_
  obtain ⟨cup, F, env, g', sl, w⟩ := h
  let f : PV → Ev → M Out := fun v e => do let e' ← asgT t v e; evalB call cb e'
  have w : WP x (evalIt call ci env >>= fun xs => forL f xs env) cup x.F0 x.H0 fun o _ F' H' => Le F F' → EndOk x D o F' H' := w
  rw [hmi] at w
  refine ⟨cup, F, env, g', sl, ((WP.bindB w).later g'.step).mono fun xs c1 F1 H1 s1 g1 w1 J gs => ?_⟩
  refine ⟨fun k n σ' H' => n = xs.length - k ∧ k ≤ xs.length ∧ ∃ c F' env', Good x c F' H' ∧ Slots x F' H' σ' env' ∧ Le F1 F' ∧ WP x (forL f (xs.drop k) env') c x.F0 x.H0 fun o _ F' H' => Le F F' → EndOk x D o F' H', ⟨xs.length, by simp, Nat.zero_le _, c1, F1, env, g1, sl.step s1, Le.refl _, by rw [List.drop_zero]; exact w1⟩, ?_⟩
  rintro k n σ' H' ⟨rfl, hk, c, F', env', g2, sl2, le2, w2⟩
  by_cases hlt : k < xs.length
  · obtain ⟨p, hp⟩ : ∃ p, xs[k]? = some p := ⟨_, List.getElem?_eq_getElem hlt⟩
    refine .inr ⟨gs.go k p c F' H' g2 le2 hp, fun σ' H' => _ = _ ∧ _, fun σ'' H'' hn => ⟨xs.length - (k + 1), by omega, hn⟩, fun yv H2 hy => ?_⟩
    obtain ⟨F2, s2, g3, ry⟩ := gs.yld k p c F' H' yv H2 g2 le2 hp hy
    rw [drop_cons hp] at w2
    have w3 : WP x ((asgT t p env' >>= fun e' => evalB call cb e') >>= fun o => match o with
      | .next e => forL f (xs.drop (k + 1)) e
      | .cnt e => forL f (xs.drop (k + 1)) e
      | .brk e => pure (.next e)
      | .ret v => pure (.ret v)) c x.F0 x.H0 fun o _ F' H' => Le F F' → EndOk x D o F' H' := w2
    rw [bind_assocM] at w3
    obtain ⟨e', he', w4⟩ := WP.optB w3
    refine ⟨p, c, F2, env', e', g3, sl2.step s2, ry, he', fun σ3 sl3 _ => ⟨c, F2, e', g3, sl3, (WP.bindB w4).mono fun o c4 F4 H4 s4 g4 w5 le4 => ?_⟩⟩
    have le5 := (le2.trans s2.grow).trans le4
    cases o with
    | next e => exact fun σ4 sl4 => ⟨rfl, by omega, c4, F4, e, g4, sl4, le5, w5⟩
    | cnt e => exact fun σ4 sl4 => ⟨rfl, by omega, c4, F4, e, g4, sl4, le5, w5⟩
    | brk e => exact WP.pureB w5 g4.step g4 (s1.grow.trans le5)
    | ret v => exact WP.pureB w5 g4.step g4 (s1.grow.trans le5)
  · have e : k = xs.length := by omega
    subst e
    refine .inl ⟨gs.stop _ c F' H' g2 le2 (Nat.le_refl _), ?_⟩
    rw [List.drop_length] at w2
    exact WP.pureB w2 g2.step g2 (s1.grow.trans le2) σ' sl2
theorem ps_whileX (hxe : X.xe = fun _ _ => False) {e : Expr} {body : List Stmt} {ce : CE} {cb : List CS} (he : PT X e (tT x (evalE call ce))) (hb : PSs X body (sE x (evalB call cb))) : PS X (.While e body [] pos) (sE x (evalS call (.whil ce cb))) := by
  have hp : PassesOwn (model X.prog X.w) X.A X.env X.xe := by rw [hxe]; exact PassesOwn.never
  refine (ps_while hp he hb).weak fun D σ H h => ?_
  obtain ⟨cup, F, env, g', sl, w⟩ := h
  let cm : Ev → M Bool := fun e => do let v ← evalE call ce e; truM v
  have w : WP x (whileN cm (fun e => evalB call cb e) FUEL env) cup x.F0 x.H0 fun o _ F' H' => Le F F' → EndOk x D o F' H' := w
  refine ⟨fun n σ' H' => ∃ c F' env', Good x c F' H' ∧ Slots x F' H' σ' env' ∧ Le F F' ∧ WP x (whileN cm (fun e => evalB call cb e) n env') c x.F0 x.H0 fun o _ F' H' => Le F F' → EndOk x D o F' H', ⟨FUEL, cup, F, env, g', sl, Le.refl _, w⟩, ?_⟩
  rintro n σ' H' ⟨c, F', env', g2, sl2, le2, w2⟩
  cases n with
  | zero => exact w2.elim
  | succ n =>
    have w2 : WP x (cm env' >>= fun t => if t then evalB call cb env' >>= fun o => match o with
      | .next e => whileN cm (fun e => evalB call cb e) n e
      | .cnt e => whileN cm (fun e => evalB call cb e) n e
      | .brk e => pure (.next e)
      | .ret v => pure (.ret v) else pure (.next env')) c x.F0 x.H0 fun o _ F' H' => Le F F' → EndOk x D o F' H' := w2
    refine ⟨c, F', env', g2, sl2, ((WP.bindB w2).later g2.step).mono fun t c3 F3 H3 s3 g3 w3 => ?_⟩
    cases t with
    | false => exact WP.pureB w3 g3.step g3 (le2.trans s3.grow) σ' (sl2.step s3)
    | true =>
      have w3 : WP x (evalB call cb env' >>= fun o => match o with
        | .next e => whileN cm (fun e => evalB call cb e) n e
        | .cnt e => whileN cm (fun e => evalB call cb e) n e
        | .brk e => pure (.next e)
        | .ret v => pure (.ret v)) c3 x.F0 x.H0 fun o _ F' H' => Le F F' → EndOk x D o F' H' := w3
      refine ⟨fun σ4 H4 => ∃ c F' env', Good x c F' H4 ∧ Slots x F' H4 σ4 env' ∧ Le F F' ∧ WP x (whileN cm (fun e => evalB call cb e) n env') c x.F0 x.H0 fun o _ F' H' => Le F F' → EndOk x D o F' H', fun σ4 H4 q => ⟨n, Nat.lt_succ_self n, q⟩, c3, F3, env', g3, sl2.step s3, (WP.bindB w3).mono fun o c4 F4 H4 s4 g4 w5 le4 => ?_⟩
      have le5 := (le2.trans s3.grow).trans le4
      cases o with
      | next e => exact fun σ4 sl4 => ⟨c4, F4, e, g4, sl4, le5, w5⟩
      | cnt e => exact fun σ4 sl4 => ⟨c4, F4, e, g4, sl4, le5, w5⟩
      | brk e => exact WP.pureB w5 g4.step g4 le5
      | ret v => exact WP.pureB w5 g4.step g4 le5
end
end EV

set_option maxRecDepth 100000
set_option maxHeartbeats 4000000
/-! EvS5: every translated statement. -/
namespace EV
open PySem PySem.Spec PyProof.Rows L2
structure SCtx (X : Cx) (x : Fix) (call : Str → List PV → M PV) (g : Glb) (N : List Str) (sc : Scope) : Prop where
  c : ECtx X x call g N sc
  ms : MaySt X sc
  xe : X.xe = fun _ _ => False
section
variable {X : Cx} {x : Fix} {call : Str → List PV → M PV} {g : Glb} {N : List Str} {sc : Scope}
theorem SCtx.ok (S : SCtx X x call g N sc) : Ok X x call g N sc 40 := ok_all 40 X sc S.c
theorem SCtx.nd (S : SCtx X x call g N sc) : X.N.Nodup := by rw [S.c.eN]; exact S.c.nd
theorem nm_ok (S : SCtx X x call g N sc) {y : Str} {p : Pos} {i : Nat} (h : nmOf N sc (.Name y p) = some i) : X.N[i]? = some y ∧ Loc X.env.scope y ∧ (X.fn y = true ∨ X.env.scope.names.lookup y = some .local) ∧ Vis X.env.scope y := by
  have h : (if isStore sc y = true then ixIn y N else none) = some i := h
  split at h
  · rename_i hs
    obtain ⟨m1, m2⟩ := S.ms y hs
    exact ⟨by rw [S.c.eN]; exact ixIn_get h, m1, m2, m1.elim .inl fun k => .inr (.inl k)⟩
  · cases h
theorem okName_ok {y : Str} (h : okName y = true) : (y == ("__debug__" : Str)) = false ∧ (y == ("__classdict__" : Str)) = false := by
  unfold okName at h
  obtain ⟨h1, h2⟩ := Bool.and_eq_true_iff.mp h
  exact ⟨by simpa using h1, by simpa using h2⟩
theorem swaps_noComp {e : Expr} (h : noComp e = true) (t : Option Expr) (l : Nat) (env : Env) : swapsWith e t l env = pure false := by
  cases e <;> first | rfl | cases h
theorem swaps_other {tg : Expr} (h : ∀ y p, tg ≠ .Name y p) (e : Expr) (l : Nat) (env : Env) : swapsWith e (some tg) l env = pure false := by
  cases e <;> first
    | rfl
    | (cases tg <;> first | rfl | exact absurd rfl (h _ _))
theorem notStarred {e : Expr} (h : NotStar e) : (match e with | .Starred .. => true | _ => false) = false := by
  cases e with
  | Starred a p =>
    have q := h [] default
    have q2 : starEach [Expr.Starred a p] default = (true, eval a default) :: [] := rfl
    rw [q2] at q
    injection q with q1 _
    have q3 := congrArg Prod.fst q1
    cases q3
  | _ => rfl
theorem ps_frzEnd {st : Stmt} {m : Ev → M Out} {i : Nat} (h : PS X st (sE x m)) : PS X st (sE x fun env => m env >>= contB fun e => pure (.next (frzE i e))) := by
  refine ⟨fun pins s σ H D I q => ?_⟩
  obtain ⟨cup, F, env, g', sl, w⟩ := q
  refine thn (h.run pins s σ H { D with nx := fun σ' H' => ∃ c F' env', Good x c F' H' ∧ Slots x F' H' σ' env' ∧ Le F F' ∧ WP x (pure (.next (frzE i env')) : M Out) c x.F0 x.H0 fun o _ F'' H'' => Le F F'' → EndOk x D o F'' H'' } I ⟨cup, F, env, g', sl, (WP.bindB w).mono fun o c F' H' s' g2 w' le => ?_⟩) fun f s1 q1 => ?_
  · cases o with
    | next e => exact fun σ' sl' => ⟨c, F', e, g2, sl', le, w'⟩
    | ret v => exact WP.pureB w' g2.step g2 le
    | brk e => exact WP.pureB w' g2.step g2 le
    | cnt e => exact WP.pureB w' g2.step g2 le
  · cases f with
    | next =>
      obtain ⟨σ', H', I', c, F', env', g2, sl', le, w'⟩ := q1
      obtain ⟨F2, H2, I2, g3, sl3, le2⟩ := frz_run i I' g2 sl'
      exact ⟨σ', H2, I2, WP.pureB w' g3.step g3 (le.trans le2) σ' sl3⟩
    | brk => exact q1
    | cont => exact q1
    | ret v => exact q1
/-- name = {..} on one line, the name a local -/
theorem ps_setDc {i : Nat} {y : Str} {py : Pos} {kx vx tg iter : Expr} {ifs : List Expr} {scope : Scope} {own : List (Str × Nat)} {pos spos : Pos} {wi : TI} {g : TG} {tt : TT} {tk tv : TE} (hc : X.calm = true) (hN : X.N.Nodup) (hy : X.N[i]? = some y) (hyl : X.env.scope.names.lookup y = some .local)
    (hsw : swapsWith (.DictComp kx vx [⟨tg, iter, ifs, 0⟩] scope pos) (some (.Name y py)) spos.line X.env = pure true) (hi : PI X tg iter wi) (ok : BlkOk X.N X.env.scope scope own)
    (hg : ∀ (s : Shared) (H : Hp) (C : Addr) (cl : List (Str × Addr)) (fp : List Addr), PG (X.blk s H scope (compEnvC scope cl C X.env) fp) tg g) (ht : ∀ (s : Shared) (H : Hp) (C : Addr) (cl : List (Str × Addr)) (fp : List Addr), PTs (X.blk s H scope (compEnvC scope cl C X.env) fp) ifs tt)
    (hk : ∀ (s : Shared) (H : Hp) (C : Addr) (cl : List (Str × Addr)) (fp : List Addr), PE (X.blk s H scope (compEnvC scope cl C X.env) fp) kx tk)
    (he : ∀ (s : Shared) (H : Hp) (C : Addr) (cl : List (Str × Addr)) (fp : List Addr), PE (X.blk s H scope (compEnvC scope cl C X.env) fp) vx tv) (hs : ∀ x, foldedSetIterable iter X.env x = pure x) :
    PS X (.Assign [.Name y py] (.DictComp kx vx [⟨tg, iter, ifs, 0⟩] scope pos) spos) (tAsg (tDc wi g tt tk tv (own.map (·.2))) (gName i)) := by
  constructor
  intro pins s0 σ0 H0 D I h
  rw [exec_Assign_Name_used _ _ _ _ hsw]
  apply wpAny_bind
  apply wpAny_standAt
  apply wpAny_bind
  show wpAny _ X.A (do let _ ← comprehension (.DictComp kx vx [⟨tg, iter, ifs, 0⟩] scope pos) scope X.env (firstIterPos [⟨tg, iter, ifs, 0⟩] pos) newDict false (eval iter X.env) (some (assign (.Name y py) X.env))) _ _ s0
  have h : tDc wi g tt tk tv (own.map (·.2)) σ0 H0 (fun z H1 => gName i z σ0 H1 D.nx) := h
  apply wpAny_bind
  refine thn (dc_core (Qf := fun _ s' => SP X pins D .next s') hc hN I hi ok hg ht hk he hs h ?_) fun _ s' hq => wpAny_pure (wpAny_pure hq)
  intro T C s' m H' I' q hn f
  show wpAny _ _ (assign (.Name y py) X.env (.ref T)) _ _ _
  apply wpAny_assign_Name
  refine store_ok2 (v := V.ref T) I' hN hy (.inl hyl) rfl (fun s2 I2 ⟨a, sb, ha⟩ => ?_) (.inr hyl)
  obtain ⟨f0, f1, f2, f3, f4, f5⟩ := f
  have haC : C ≠ a := ha.elim (fun z => by rw [z]; exact f1) fun z e => f4 y a z e.symm
  exact ⟨m, hn.sameBut sb haC, fun h3 sb3 => ⟨_, H', I2.turned (t' := s2.toks) (fun b o hb e => (sb3.2 b hb).trans e) f0 f1 f3 f4 f5, q⟩⟩
def isStB : Expr → Bool
  | .Starred .. => true
  | _ => false
theorem isStB_no {e : Expr} (h : NotStar e) : isStB e = false := by
  cases e with
  | Starred a p =>
    have q := h [] default
    have q2 : starEach [Expr.Starred a p] default = (true, eval a default) :: [] := rfl
    rw [q2] at q
    injection q with q1 _
    have q3 := congrArg Prod.fst q1
    cases q3
  | _ => rfl
theorem swap_ok {ts vs : List Expr} {kt k2 : Nat} {pt p2 : Pos} {b : Bool} (hsc : X.env.scope = sc) (h : swapC sc ts vs = some b) (ns : ∀ v ∈ vs, NotStar v) :
    swappedStores [.Tuple ts kt pt] (.Tuple vs k2 p2) X.env = pure (if b = true then some (locNames sc ((ts.head?.map (·.pos.line)).getD 0) ts) else none) ∧ (b = true → (locNames sc ((ts.head?.map (·.pos.line)).getD 0) ts).length = ts.length) := by
  have hstar : vs.any isStB = false := by
    refine Bool.eq_false_iff.mpr fun q => ?_
    obtain ⟨v, hv, e⟩ := List.any_eq_true.mp q
    rw [isStB_no (ns v hv)] at e
    cases e
  subst hsc
  have hk : X.env.scope.kind = .function := by
    unfold swapC at h
    cases e : X.env.scope.kind <;> rw [e] at h <;> first | rfl | (exfalso; cases h; done)
  have hb : X.env.blockKind = .function := by
    unfold Env.blockKind
    rw [hk]
    rfl
  generalize hnl : locNames X.env.scope ((ts.head?.map (·.pos.line)).getD 0) ts = nl
  have h : (if ((ts.length == 2 || ts.length == 3) && vs.length == ts.length && nl.length == ts.length && nl.eraseDups.length == nl.length) = true then
      if vs.all (foldedForSure 8) = true then some false
      else if vs.all (constantsAlone 8) = true then none
      else some true
    else some false) = some b := by
    unfold swapC at h
    rw [hk] at h
    rw [← hnl]
    exact h
  have hsw : swappedStores [.Tuple ts kt pt] (.Tuple vs k2 p2) X.env = (if (!(ts.length == 2 || ts.length == 3) || vs.length != ts.length || X.env.blockKind != ScopeKind.function) = true then pure none
      else if vs.any isStB = true then pure none
      else if (nl.length != ts.length || nl.eraseDups.length != nl.length) = true then pure none
      else if vs.all (foldedForSure 8) = true then pure none
      else if vs.all (constantsAlone 8) = true then (do let r ← unsupported "assign.tuple-of-constant-expressions:order-of-the-stores"; (fun (_ : PUnit) => pure (some nl)) r) else pure (some nl)) := by
    rw [← hnl]
    rfl
  rw [hsw, hb, hstar]
  split at h
  · rename_i hc
    simp only [Bool.and_eq_true, beq_iff_eq] at hc
    obtain ⟨⟨⟨c1, c2⟩, c3⟩, c4⟩ := hc
    have k1 : (!(ts.length == 2 || ts.length == 3) || vs.length != ts.length || ScopeKind.function != ScopeKind.function) = false := by
      rw [c1, c2]
      simp
    have k2 : (nl.length != ts.length || nl.eraseDups.length != nl.length) = false := by
      rw [c3, c4, c3]
      simp
    rw [k1, if_neg (by decide), if_neg (by decide), k2, if_neg (by decide)]
    split at h
    · rename_i hf
      cases h
      rw [if_pos hf]
      exact ⟨rfl, fun q => by cases q⟩
    · rename_i hf
      split at h
      · cases h
      · rename_i hc
        cases h
        rw [if_neg hf, if_neg hc]
        exact ⟨rfl, fun _ => c3⟩
  · rename_i hc
    cases h
    refine ⟨?_, fun q => by cases q⟩
    have key : (!(ts.length == 2 || ts.length == 3) || vs.length != ts.length || ScopeKind.function != ScopeKind.function) = true ∨ (nl.length != ts.length || nl.eraseDups.length != nl.length) = true := by
      by_cases c1 : (ts.length == 2 || ts.length == 3) = true
      · by_cases c2 : vs.length = ts.length
        · right
          by_cases c3 : nl.length = ts.length
          · by_cases c4 : nl.eraseDups.length = nl.length
            · exact absurd (by simp only [Bool.and_eq_true, beq_iff_eq]; exact ⟨⟨⟨c1, c2⟩, c3⟩, c4⟩) hc
            · simp [c4]
          · simp [c3]
        · left
          simp [c2]
      · left
        simp [Bool.eq_false_iff.mpr c1]
    rcases key with k | k
    · rw [if_pos k]
      rfl
    · by_cases k1 : (!(ts.length == 2 || ts.length == 3) || vs.length != ts.length || ScopeKind.function != ScopeKind.function) = true
      · rw [if_pos k1]
        rfl
      · rw [if_neg k1, if_neg (by decide), if_pos k]
        rfl
theorem noComp_comp {e : Expr} (h : ¬ noComp e = true) : (∃ el gs s p, e = .ListComp el gs s p) ∨ (∃ el gs s p, e = .SetComp el gs s p) ∨ ∃ k v gs s p, e = .DictComp k v gs s p := by
  cases e <;> first
    | exact absurd rfl h
    | exact .inl ⟨_, _, _, _, rfl⟩
    | exact .inr (.inl ⟨_, _, _, _, rfl⟩)
    | exact .inr (.inr ⟨_, _, _, _, _, rfl⟩)
theorem asg_name (S : SCtx X x call g N sc) {y : Str} {py pos : Pos} {v : Expr} {mu : List Nat} {css : List CS} (h : trAsg (trE g N 40) N sc mu (.Name y py) v = some css) : PS X (.Assign [.Name y py] v pos) (sE x (evalB call css)) := by
  have h : (match nmOf N sc (.Name y py), trE g N 40 false sc v with
    | some i, some e => if isDC v = true then (if mu.contains i = true then some (frz mu (aliasE e) (.own i e)) else some (frz mu (aliasE e) (.own i e) ++ [.freeze i]))
      else if (mu.contains i && fresh e) = true then some (frz mu (aliasE e) (.own i e)) else some (frz mu (aliasE e) (.asg (.nm i) e))
    | _, _ => none) = some css := h
  cases h1 : nmOf N sc (.Name y py) with
  | none => rw [h1] at h; cases h
  | some i =>
    cases h2 : trE g N 40 false sc v with
    | none => rw [h1, h2] at h; cases h
    | some e =>
      rw [h1, h2] at h
      replace h : (if isDC v = true then (if mu.contains i = true then some (frz mu (aliasE e) (.own i e)) else some (frz mu (aliasE e) (.own i e) ++ [.freeze i]))
        else if (mu.contains i && fresh e) = true then some (frz mu (aliasE e) (.own i e)) else some (frz mu (aliasE e) (.asg (.nm i) e))) = some css := h
      obtain ⟨n1, n2, n3, n4⟩ := nm_ok S h1
      -- a store of a new list or dict, by the comprehension's own road or by its value
      have own : fresh e = true → ∀ s : CS, (∀ D σ H, sE x (evalS call s) D σ H → tN x (evalE call e) σ H fun y H1 => gName i y σ H1 D.nx) → PS X (.Assign [.Name y py] v pos) (sE x (evalS call s)) := by
        intro hf s hw
        by_cases hv : noComp v = true
        · exact (ps_set S.nd n1 n2 (S.ok.n v e h2 hf) (swaps_noComp hv _ _ _) n3).weak fun D σ H q => hw D σ H q
        · rcases noComp_comp hv with ⟨el, gs, sp, p, rfl⟩ | ⟨el, gs, sp, p, rfl⟩ | ⟨k, w, gs, sp, p, rfl⟩
          · match gs, h2 with
            | [c0], h2 =>
              have h2 : (match ownIx N sc sp with
                | some own => match trCl true (trE g N 39) g N (own.map (·.2)) sp sc (relSc sp sc) c0, trE g N 39 false (relSc sp sc) el with
                  | some c', some e' => some (CE.comp e' (own.map (·.2)) c' [])
                  | _, _ => none
                | none => none) = some e := h2
              cases a1 : ownIx N sc sp with
              | none => rw [a1] at h2; cases h2
              | some own =>
                rw [a1] at h2
                cases a2 : trCl true (trE g N 39) g N (own.map (·.2)) sp sc (relSc sp sc) c0 with
                | none => simp only [a2] at h2; cases h2
                | some c' =>
                  cases a3 : trE g N 39 false (relSc sp sc) el with
                  | none => simp only [a2, a3] at h2; cases h2
                  | some e' =>
                    simp only [a2, a3] at h2
                    cases h2
                    exact ps_lc1 S.c (ok_all 39) n1 n2 n3 a1 a2 a3 hw
            | [c0, c2], h2 =>
              have h2 : (match ownIx N sc sp with
                | some own => match trCl true (trE g N 39) g N (own.map (·.2)) sp sc (relSc sp sc) c0, trCl false (trE g N 39) g N (own.map (·.2)) sp (relSc sp sc) (relSc sp sc) c2, trE g N 39 false (relSc sp sc) el with
                  | some c', some c2', some e' => some (CE.comp e' (own.map (·.2)) c' [c2'])
                  | _, _, _ => none
                | none => none) = some e := h2
              cases a1 : ownIx N sc sp with
              | none => rw [a1] at h2; cases h2
              | some own =>
                rw [a1] at h2
                cases a2 : trCl true (trE g N 39) g N (own.map (·.2)) sp sc (relSc sp sc) c0 with
                | none => simp only [a2] at h2; cases h2
                | some c' =>
                  cases a4 : trCl false (trE g N 39) g N (own.map (·.2)) sp (relSc sp sc) (relSc sp sc) c2 with
                  | none => simp only [a2, a4] at h2; cases h2
                  | some c2' =>
                    cases a3 : trE g N 39 false (relSc sp sc) el with
                    | none => simp only [a2, a4, a3] at h2; cases h2
                    | some e' =>
                      simp only [a2, a4, a3] at h2
                      cases h2
                      exact ps_lc2 S.c (ok_all 39) n1 n2 n3 a1 a2 a4 a3 hw
            | [], h2 => cases h2
            | _ :: _ :: _ :: _, h2 => cases h2
          · cases h2
          · match gs, h2 with
            | [c0], h2 =>
              have h2' : (match ownIx N sc sp with
                | some own => match trCl true (trE g N 39) g N (own.map (·.2)) sp sc (relSc sp sc) c0, trE g N 39 false (relSc sp sc) k, trE g N 39 false (relSc sp sc) w with
                  | some c', some k', some v' => some (CE.dcomp k' v' (own.map (·.2)) c' [])
                  | _, _, _ => none
                | none => none) = some e := h2
              obtain ⟨b, hb, hl⟩ : ∃ b, swapsWith (.DictComp k w [c0] sp p) (some (.Name y py)) pos.line X.env = pure b ∧ (b = true → X.env.scope.names.lookup y = some .local) := by
                refine ⟨_, rfl, fun h => ?_⟩
                simp only [Bool.and_eq_true] at h
                exact eq_of_beq h.1.1.2
              cases b with
              | false => exact (ps_set S.nd n1 n2 (S.ok.n _ e h2 hf) hb n3).weak fun D σ H q => hw D σ H q
              | true =>
                cases a1 : ownIx N sc sp with
                | none => rw [a1] at h2'; cases h2'
                | some own =>
                  rw [a1] at h2'
                  cases a2 : trCl true (trE g N 39) g N (own.map (·.2)) sp sc (relSc sp sc) c0 with
                  | none => simp only [a2] at h2'; cases h2'
                  | some c' =>
                    cases a3 : trE g N 39 false (relSc sp sc) k with
                    | none => simp only [a2, a3] at h2'; cases h2'
                    | some k' =>
                      cases a4 : trE g N 39 false (relSc sp sc) w with
                      | none => simp only [a2, a3, a4] at h2'; cases h2'
                      | some v' =>
                        simp only [a2, a3, a4] at h2'
                        cases h2'
                        have C := S.c
                        have OB := fun X sc (C : ECtx X x call g N sc) => ok_all (call := call) 39 X sc C
                        obtain ⟨tg, it, ifs, t, it', ifs', rfl, rfl, b1, b2, b3, b4, b5, b6⟩ := cl_ok a2
                        have B := fun s H a cl fp => C.blk s H sp cl a fp
                        refine PS.weak (ps_setDc C.calm S.nd n1 (hl rfl) hb (it_ok C (OB _ _ C) (wayI (OB _ _ C)) b2) (by rw [C.eN, C.sc]; exact ownIx_ok a1)
                          (fun s H a cl fp => pg_ok (x := x) (B s H a cl fp).K (B s H a cl fp).calm (B s H a cl fp).eN (B s H a cl fp).nd (maySt_blk C s H sp cl a fp) 8 tg t b1)
                          (fun s H a cl fp => pts_ok (OB _ _ (B s H a cl fp)) b3 b5) (fun s H a cl fp => pe_toE ((OB _ _ (B s H a cl fp)).e k k' a3)) (fun s H a cl fp => pe_toE ((OB _ _ (B s H a cl fp)).e w v' a4)) (fun v => folded_of b6 _ v)) fun D σ H q => ?_
                        exact dc_imp b4 σ H _ (hw D σ H q)
            | [], h2 => cases h2
            | _ :: _ :: _, h2 => cases h2
      have hown : fresh e = true → PS X (.Assign [.Name y py] v pos) (sE x (evalS call (.own i e))) := fun hf => own hf _ fun D σ H q => tN_own q
      split at h
      · rename_i hdc
        have hf : fresh e = true := by
          cases v with
          | DictComp k w gs sp p =>
            match gs, h2 with
            | [c0], h2 =>
              have h2' : (match ownIx N sc sp with
                | some own => match trCl true (trE g N 39) g N (own.map (·.2)) sp sc (relSc sp sc) c0, trE g N 39 false (relSc sp sc) k, trE g N 39 false (relSc sp sc) w with
                  | some c', some k', some v' => some (CE.dcomp k' v' (own.map (·.2)) c' [])
                  | _, _, _ => none
                | none => none) = some e := h2
              split at h2'
              · split at h2'
                · cases h2'; rfl
                · cases h2'
              · cases h2'
            | [], h2 => cases h2
            | _ :: _ :: _, h2 => cases h2
          | _ => cases hdc
        split at h
        · cases h
          exact ps_frzs (hown hf) mu _
        · cases h
          refine ps_eqE (ps_frzEnd (i := i) (ps_frzs (hown hf) mu (aliasE e))) fun env => ?_
          rw [evalB_append]
          congr 1
          funext o
          cases o with
          | next e' =>
            show (pure (.next (frzE i e')) : M Out) = evalB call [.freeze i] e'
            rw [evalB_frz]
            rfl
          | _ => rfl
      · rename_i hdc
        split at h
        · rename_i hmf
          cases h
          exact ps_frzs (hown (Bool.and_eq_true_iff.mp hmf).2) mu _
        · cases h
          refine ps_frzs ?_ mu _
          by_cases hv : noComp v = true
          · exact ps_setX S.nd n1 n2 n3 (pe_toE (S.ok.e v e h2)) (swaps_noComp hv _ _ _)
          · rcases noComp_comp hv with ⟨el, gs, sp, p, rfl⟩ | ⟨el, gs, sp, p, rfl⟩ | ⟨k, w, gs, sp, p, rfl⟩
            · have hcomp : ∃ e' ow c' r, e = .comp e' ow c' r := by
                match gs, h2 with
                | [c0], h2 =>
                  have h2' : (match ownIx N sc sp with
                    | some own => match trCl true (trE g N 39) g N (own.map (·.2)) sp sc (relSc sp sc) c0, trE g N 39 false (relSc sp sc) el with
                      | some c', some e' => some (CE.comp e' (own.map (·.2)) c' [])
                      | _, _ => none
                    | none => none) = some e := h2
                  split at h2'
                  · split at h2'
                    · cases h2'; exact ⟨_, _, _, _, rfl⟩
                    · cases h2'
                  · cases h2'
                | [c0, c2], h2 =>
                  have h2' : (match ownIx N sc sp with
                    | some own => match trCl true (trE g N 39) g N (own.map (·.2)) sp sc (relSc sp sc) c0, trCl false (trE g N 39) g N (own.map (·.2)) sp (relSc sp sc) (relSc sp sc) c2, trE g N 39 false (relSc sp sc) el with
                      | some c', some c2', some e' => some (CE.comp e' (own.map (·.2)) c' [c2'])
                      | _, _, _ => none
                    | none => none) = some e := h2
                  split at h2'
                  · split at h2'
                    · cases h2'; exact ⟨_, _, _, _, rfl⟩
                    · cases h2'
                  · cases h2'
                | [], h2 => cases h2
                | _ :: _ :: _ :: _, h2 => cases h2
              obtain ⟨e', ow, c', r, rfl⟩ := hcomp
              exact own rfl _ fun D σ H q => tN_asg (fun env c v c' h => comp_lst h) q
            · cases h2
            · exact absurd rfl hdc
end
end EV

set_option maxRecDepth 100000
set_option maxHeartbeats 4000000
/-! EvS6: every translated statement. -/
namespace EV
open PySem PySem.Spec PyProof.Rows L2
section
variable {X : Cx} {x : Fix} {call : Str → List PV → M PV} {g : Glb} {N : List Str} {sc : Scope}
theorem nmOf_name {e : Expr} {i : Nat} (h : nmOf N sc e = some i) : ∃ y p, e = .Name y p := by
  cases e with
  | Name y p => exact ⟨y, p, rfl⟩
  | _ => cases h
theorem len4 {α : Type} {l : List α} (h : l.length = 4) : ∃ a b c d, l = [a, b, c, d] := by
  match l, h with
  | [a, b, c, d], _ => exact ⟨a, b, c, d, rfl⟩
theorem len3 {α : Type} {l : List α} (h : l.length = 3) : ∃ a b c, l = [a, b, c] := by
  match l, h with
  | [a, b, c], _ => exact ⟨a, b, c, rfl⟩
theorem asg_par (S : SCtx X x call g N sc) {ts vs : List Expr} {kt k2 : Nat} {pt p2 pos : Pos} {mu : List Nat} {css : List CS} (h : trPar (trE g N 40) N sc mu ts vs = some css) : PS X (.Assign [.Tuple ts kt pt] (.Tuple vs k2 p2) pos) (sE x (evalB call css)) := by
  have h : (match allSome (ts.map (nmOf N sc)), allSome (vs.map (trE g N 40 false sc)), swapC sc ts vs with
    | some is, some es, some _ =>
      if (is.length = 2 ∨ is.length = 3 ∨ (is.length = 4 ∧ ts.length = 4)) ∧ is.length = es.length ∧ is.Nodup then some (frz mu (aliasEs es) (.par ((is.zip es).map fun p => (p.1, mu.contains p.1 && fresh p.2)) es))
      else none
    | _, _, _ => none) = some css := h
  cases h1 : allSome (ts.map (nmOf N sc)) with
  | none => rw [h1] at h; cases h
  | some is =>
    cases h2 : allSome (vs.map (trE g N 40 false sc)) with
    | none => rw [h1, h2] at h; cases h
    | some es =>
      cases h3 : swapC sc ts vs with
      | none => rw [h1, h2, h3] at h; cases h
      | some b =>
        rw [h1, h2, h3] at h
        replace h : (if (is.length = 2 ∨ is.length = 3 ∨ (is.length = 4 ∧ ts.length = 4)) ∧ is.length = es.length ∧ is.Nodup then some (frz mu (aliasEs es) (.par ((is.zip es).map fun p => (p.1, mu.contains p.1 && fresh p.2)) es)) else none) = some css := h
        split at h
        · rename_i hc
          cases h
          obtain ⟨c1, c2, c3⟩ := hc
          have ns : ∀ v ∈ vs, NotStar v := fun v hv => by
            obtain ⟨c, hc⟩ := allSome_mem h2 v hv
            exact trE_ns hc
          have l1 := allSome_len h1
          have l2 := allSome_len h2
          obtain ⟨hw, hl⟩ := swap_ok (kt := kt) (k2 := k2) (pt := pt) (p2 := p2) S.c.sc h3 ns
          have pF : ∀ {v : Expr} {c : CE} (b : Bool), trE g N 40 false sc v = some c → PE X v (tF x (b && fresh c) (evalE call c)) := fun {v c} b hv => pe_F (fun _ => pe_toE (S.ok.e v c hv)) fun q => S.ok.n v c hv (Bool.and_eq_true_iff.mp q).2
          refine ps_frzs ?_ mu _
          rcases c1 with c1 | c1 | c1
          · obtain ⟨i, j, rfl⟩ := len2 c1
            obtain ⟨e1, e2, rfl⟩ := len2 c2.symm
            obtain ⟨t1, t2, rfl⟩ := len2 l1.symm
            obtain ⟨v1, v2, rfl⟩ := len2 l2.symm
            · skip
              obtain ⟨_, _, q1, q2, q3⟩ := allSome_cons h1
              obtain ⟨_, _, q4, q5, q6⟩ := allSome_cons q2
              cases q5
              cases q6
              cases q3
              obtain ⟨_, _, r1, r2, r3⟩ := allSome_cons h2
              obtain ⟨_, _, r4, r5, r6⟩ := allSome_cons r2
              cases r5
              cases r6
              cases r3
              obtain ⟨y, py, rfl⟩ := nmOf_name q1
              obtain ⟨z, pz, rfl⟩ := nmOf_name q4
              obtain ⟨a1, a2, a3, a4⟩ := nm_ok S q1
              obtain ⟨b1, b2, b3, b4⟩ := nm_ok S q4
              have hij : i ≠ j := by
                intro e
                have := (List.nodup_cons.mp c3).1
                exact this (by rw [e]; exact List.mem_cons_self)
              cases b with
              | false => exact ps_asg2X S.c.K S.c.calm S.nd a1 b1 a2 b2 a3 b3 (trE_ns r1) (trE_ns r4) (pF _ r1) (pF _ r4) hw
              | true =>
                have hl := hl rfl
                have nl : locNames sc (([Expr.Name y py, Expr.Name z pz].head?.map (·.pos.line)).getD 0) [.Name y py, .Name z pz] = [y, z] ∧ sc.names.lookup y = some .local ∧ sc.names.lookup z = some .local := by
                  unfold locNames at hl ⊢
                  simp only [List.filterMap_cons, List.filterMap_nil] at hl ⊢
                  by_cases d1 : (sc.names.lookup y == some NameKind.local && py.line == (([Expr.Name y py, Expr.Name z pz].head?.map (·.pos.line)).getD 0)) = true
                  · by_cases d2 : (sc.names.lookup z == some NameKind.local && pz.line == (([Expr.Name y py, Expr.Name z pz].head?.map (·.pos.line)).getD 0)) = true
                    · rw [if_pos d1, if_pos d2]
                      exact ⟨rfl, eq_of_beq (Bool.and_eq_true_iff.mp d1).1, eq_of_beq (Bool.and_eq_true_iff.mp d2).1⟩
                    · rw [if_pos d1, if_neg d2] at hl; simp at hl
                  · by_cases d2 : (sc.names.lookup z == some NameKind.local && pz.line == (([Expr.Name y py, Expr.Name z pz].head?.map (·.pos.line)).getD 0)) = true
                    · rw [if_neg d1, if_pos d2] at hl; simp at hl
                    · rw [if_neg d1, if_neg d2] at hl; simp at hl
                rw [if_pos rfl, nl.1] at hw
                have k1 := nl.2.1
                have k2 := nl.2.2
                rw [← S.c.sc] at k1 k2
                exact ps_par2X S.c.calm S.nd a1 b1 hij k1 k2 (trE_ns r1) (trE_ns r4) (pF _ r1) (pF _ r4) hw
          · obtain ⟨i, j, l, rfl⟩ := len3 c1
            obtain ⟨e1, e2, e3, rfl⟩ := len3 c2.symm
            obtain ⟨t1, t2, t3, rfl⟩ := len3 l1.symm
            obtain ⟨v1, v2, v3, rfl⟩ := len3 l2.symm
            · skip
              obtain ⟨_, _, q1, q2, q3⟩ := allSome_cons h1
              obtain ⟨_, _, q4, q5, q6⟩ := allSome_cons q2
              obtain ⟨_, _, q7, q8, q9⟩ := allSome_cons q5
              cases q8
              cases q9
              cases q6
              cases q3
              obtain ⟨_, _, r1, r2, r3⟩ := allSome_cons h2
              obtain ⟨_, _, r4, r5, r6⟩ := allSome_cons r2
              obtain ⟨_, _, r7, r8, r9⟩ := allSome_cons r5
              cases r8
              cases r9
              cases r6
              cases r3
              obtain ⟨y, py, rfl⟩ := nmOf_name q1
              obtain ⟨z, pz, rfl⟩ := nmOf_name q4
              obtain ⟨u, pu, rfl⟩ := nmOf_name q7
              obtain ⟨a1, a2, a3, a4⟩ := nm_ok S q1
              obtain ⟨b1, b2, b3, b4⟩ := nm_ok S q4
              obtain ⟨d1, d2, d3, d4⟩ := nm_ok S q7
              have hij : i ≠ j := by
                intro e
                exact (List.nodup_cons.mp c3).1 (by rw [e]; exact List.mem_cons_self)
              have hil : i ≠ l := by
                intro e
                exact (List.nodup_cons.mp c3).1 (by rw [e]; exact List.mem_cons_of_mem _ List.mem_cons_self)
              have hjl : j ≠ l := by
                intro e
                exact (List.nodup_cons.mp (List.nodup_cons.mp c3).2).1 (by rw [e]; exact List.mem_cons_self)
              cases b with
              | false => exact ps_asg3X S.c.K S.c.calm S.nd a1 b1 d1 a2 b2 d2 a3 b3 d3 (trE_ns r1) (trE_ns r4) (trE_ns r7) (pF _ r1) (pF _ r4) (pF _ r7) hw
              | true =>
                have hl := hl rfl
                have nl : locNames sc (([Expr.Name y py, Expr.Name z pz, Expr.Name u pu].head?.map (·.pos.line)).getD 0) [.Name y py, .Name z pz, .Name u pu] = [y, z, u] ∧ sc.names.lookup y = some .local ∧ sc.names.lookup z = some .local ∧ sc.names.lookup u = some .local := by
                  unfold locNames at hl ⊢
                  simp only [List.filterMap_cons, List.filterMap_nil] at hl ⊢
                  generalize (([Expr.Name y py, Expr.Name z pz, Expr.Name u pu].head?.map (·.pos.line)).getD 0) = ln at hl ⊢
                  by_cases d1 : (sc.names.lookup y == some NameKind.local && py.line == ln) = true <;> by_cases d2 : (sc.names.lookup z == some NameKind.local && pz.line == ln) = true <;> by_cases d3 : (sc.names.lookup u == some NameKind.local && pu.line == ln) = true <;> simp only [d1, d2, d3, if_true, if_false] at hl ⊢
                  · exact ⟨trivial, eq_of_beq (Bool.and_eq_true_iff.mp d1).1, eq_of_beq (Bool.and_eq_true_iff.mp d2).1, eq_of_beq (Bool.and_eq_true_iff.mp d3).1⟩
                  all_goals simp at hl
                rw [if_pos rfl, nl.1] at hw
                have k1 := nl.2.1
                have k2 := nl.2.2.1
                have k3 := nl.2.2.2
                rw [← S.c.sc] at k1 k2 k3
                exact ps_par3X S.c.calm S.nd a1 b1 d1 hij hil hjl k1 k2 k3 (trE_ns r1) (trE_ns r4) (trE_ns r7) (pF _ r1) (pF _ r4) (pF _ r7) hw
          · obtain ⟨i, j, l, m, rfl⟩ := len4 c1.1
            obtain ⟨e1, e2, e3, e4, rfl⟩ := len4 c2.symm
            obtain ⟨t1, t2, t3, t4, rfl⟩ := len4 l1.symm
            obtain ⟨v1, v2, v3, v4, rfl⟩ := len4 l2.symm
            · skip
              obtain ⟨_, _, q1, q2, q3⟩ := allSome_cons h1
              obtain ⟨_, _, q4, q5, q6⟩ := allSome_cons q2
              obtain ⟨_, _, q7, q8, q9⟩ := allSome_cons q5
              obtain ⟨_, _, q10, q11, q12⟩ := allSome_cons q8
              cases q11
              cases q12
              cases q9
              cases q6
              cases q3
              obtain ⟨_, _, r1, r2, r3⟩ := allSome_cons h2
              obtain ⟨_, _, r4, r5, r6⟩ := allSome_cons r2
              obtain ⟨_, _, r7, r8, r9⟩ := allSome_cons r5
              obtain ⟨_, _, r10, r11, r12⟩ := allSome_cons r8
              cases r11
              cases r12
              cases r9
              cases r6
              cases r3
              obtain ⟨y, py, rfl⟩ := nmOf_name q1
              obtain ⟨z, pz, rfl⟩ := nmOf_name q4
              obtain ⟨u, pu, rfl⟩ := nmOf_name q7
              obtain ⟨t, pt4, rfl⟩ := nmOf_name q10
              obtain ⟨a1, a2, a3, a4⟩ := nm_ok S q1
              obtain ⟨b1, b2, b3, b4⟩ := nm_ok S q4
              obtain ⟨d1, d2, d3, d4⟩ := nm_ok S q7
              obtain ⟨g1, g2, g3, g4⟩ := nm_ok S q10
              have hb : b = false := by
                cases b with
                | false => rfl
                | true => exfalso; simp [swapC] at h3
              subst hb
              exact ps_asg4X S.c.calm S.nd a1 b1 d1 g1 a2 b2 d2 g2 a3 b3 d3 g3 (trE_ns r1) (trE_ns r4) (trE_ns r7) (trE_ns r10) (pF _ r1) (pF _ r4) (pF _ r7) (pF _ r10) hw
        · cases h
theorem slice_ne {k : Expr} (h : isSlice k = false) : ∀ a b c d, k ≠ .Slice a b c d := fun a b c d e => by
  rw [e] at h
  cases h
theorem asg_tup (S : SCtx X x call g N sc) {ts vs : List Expr} {kt k2 : Nat} {pt p2 pos : Pos} {mu : List Nat} {css : List CS} (h : trAsg (trE g N 40) N sc mu (.Tuple ts kt pt) (.Tuple vs k2 p2) = some css) : PS X (.Assign [.Tuple ts kt pt] (.Tuple vs k2 p2) pos) (sE x (evalB call css)) := by
  have h : (match trPar (trE g N 40) N sc mu ts vs with
    | some l => some l
    | none => match trT 8 N sc (.Tuple ts kt pt), trE g N 40 false sc (.Tuple vs k2 p2), swapC sc ts vs with
      | some t', some e, some false => some (frz mu (aliasE e) (.asg t' e))
      | _, _, _ => none) = some css := h
  cases h0 : trPar (trE g N 40) N sc mu ts vs with
  | some l =>
    rw [h0] at h
    cases h
    exact asg_par S h0
  | none =>
    rw [h0] at h
    cases h1 : trT 8 N sc (.Tuple ts kt pt) with
    | none => rw [h1] at h; cases h
    | some t' =>
      cases h2 : trE g N 40 false sc (.Tuple vs k2 p2) with
      | none => rw [h1, h2] at h; cases h
      | some e =>
        cases h3 : swapC sc ts vs with
        | none => rw [h1, h2, h3] at h; cases h
        | some b =>
          rw [h1, h2, h3] at h
          cases b with
          | true => cases h
          | false =>
            cases h
            have h4 : (if vs.length ≤ 1000 then (allSome (vs.map (trE g N 39 false sc))).map CE.tup else none) = some e := h2
            have ns : ∀ v ∈ vs, NotStar v := fun v hv => by
              split at h4
              · obtain ⟨l, q1, _⟩ := Option.map_eq_some_iff.mp h4
                obtain ⟨c, hc⟩ := allSome_mem q1 v hv
                exact trE_ns hc
              · cases h4
            obtain ⟨hw, _⟩ := swap_ok (kt := kt) (k2 := k2) (pt := pt) (p2 := p2) S.c.sc h3 ns
            exact ps_frzs (ps_asgX (pe_toE (S.ok.e _ e h2)) (pg_ok S.c.K S.c.calm S.c.eN S.c.nd S.ms 8 _ t' h1) (show swapsWith (.Tuple vs k2 p2) (some (.Tuple ts kt pt)) pos.line X.env = pure false from swaps_other (tg := .Tuple ts kt pt) (fun _ _ q => nomatch q) _ pos.line X.env) hw rfl) mu _
theorem asg_ok (S : SCtx X x call g N sc) {t v : Expr} {pos : Pos} {mu : List Nat} {css : List CS} (h : trAsg (trE g N 40) N sc mu t v = some css) : PS X (.Assign [t] v pos) (sE x (evalB call css)) := by
  cases t with
  | Name y py => exact asg_name S h
  | Tuple ts kt pt =>
    by_cases hv : ∃ vs k2 p2, v = .Tuple vs k2 p2
    · obtain ⟨vs, k2, p2, rfl⟩ := hv
      exact asg_tup S h
    · have h : (match trT 8 N sc (.Tuple ts kt pt), trE g N 40 false sc v with
        | some t', some e => some (frz mu (aliasE e) (.asg t' e))
        | _, _ => none) = some css := by
        cases v <;> first | exact h | exact absurd ⟨_, _, _, rfl⟩ hv
      cases h1 : trT 8 N sc (.Tuple ts kt pt) with
      | none => rw [h1] at h; cases h
      | some t' =>
        cases h2 : trE g N 40 false sc v with
        | none => rw [h1, h2] at h; cases h
        | some e =>
          rw [h1, h2] at h
          cases h
          refine ps_frzs (ps_asgX (pe_toE (S.ok.e v e h2)) (pg_ok S.c.K S.c.calm S.c.eN S.c.nd S.ms 8 _ t' h1) (show swapsWith v (some (.Tuple ts kt pt)) pos.line X.env = pure false from swaps_other (tg := .Tuple ts kt pt) (fun _ _ q => nomatch q) v pos.line X.env) ?_ rfl) mu _
          cases v <;> first | rfl | exact absurd ⟨_, _, _, rfl⟩ hv
  | Subscript o k tp =>
    have h : (if (isSlice k || !okNm o) = true then none else match nmOf N sc o, trE g N 40 true sc k, trE g N 40 false sc v with
      | some i, some k', some e => some (frz mu (aliasE e ++ aliasE k') (.setix i k' e))
      | _, _, _ => none) = some css := h
    split at h
    · cases h
    · rename_i hc
      cases h1 : nmOf N sc o with
      | none => rw [h1] at h; cases h
      | some i =>
        cases h2 : trE g N 40 true sc k with
        | none => rw [h1, h2] at h; cases h
        | some k' =>
          cases h3 : trE g N 40 false sc v with
          | none => rw [h1, h2, h3] at h; cases h
          | some e =>
            rw [h1, h2, h3] at h
            cases h
            obtain ⟨y, p, rfl⟩ := nmOf_name h1
            obtain ⟨n1, n2, n3, n4⟩ := nm_ok S h1
            have hsl : isSlice k = false := by
              cases q : isSlice k with
              | false => rfl
              | true => rw [q] at hc; exact absurd rfl hc
            have hnm : okNm (.Name y p) = true := by
              cases q : okNm (.Name y p) with
              | true => rfl
              | false => rw [q, Bool.or_comm] at hc; exact absurd rfl hc
            obtain ⟨d1, d2⟩ := okName_ok (show okName y = true from hnm)
            exact ps_frzs (ps_setixX (by have := S.c.hu; omega) n1 n4 d1 d2 (slice_ne hsl) (pe_toE (S.ok.e v e h3)) (S.ok.p k k' h2) (swaps_other (tg := .Subscript (.Name y p) k tp) (fun _ _ q => nomatch q) v _ X.env)) mu _
  | _ => cases v <;> cases h
/-- raise of constants: never, where nothing is to be raised -/
theorem csts_eval : ∀ {l : List CE} {env : Ev} {c : Cup}, l.all isCst = true → ∃ vs, evalEs call l env c = .ok vs c
  | [], env, c, _ => ⟨[], rfl⟩
  | e :: l, env, c, h => by
    obtain ⟨h1, h2⟩ := Bool.and_eq_true_iff.mp (show (isCst e && l.all isCst) = true from h)
    obtain ⟨vs, e2⟩ := csts_eval (env := env) (c := c) h2
    cases e with
    | cst v =>
      refine ⟨v :: vs, ?_⟩
      show (evalEs call l env >>= fun ws => pure (v :: ws)) c = _
      rw [bind_ok e2]
      rfl
    | glb y v =>
      refine ⟨v :: vs, ?_⟩
      show (evalEs call l env >>= fun ws => pure (v :: ws)) c = _
      rw [bind_ok e2]
      rfl
    | _ => cases h1
theorem ps_raiseX (S : SCtx X x call g N sc) {st : Stmt} {cls : Str} {l : List CE} (hl : l.all isCst = true) : PS X st (sE x (evalS call (.raise cls l))) := by
  refine PS.weak ps_never fun D σ H h => ?_
  obtain ⟨cup, F, env, g', sl, w⟩ := h
  obtain ⟨vs, e⟩ := csts_eval (call := call) (env := env) (c := cup) hl
  have w : WP x (evalEs call l env >>= fun vs => M.thr ⟨cls, vs⟩) cup x.F0 x.H0 _ := w
  unfold WP at w
  rw [bind_ok e] at w
  have := w F H g'.step g'
  rw [S.c.E] at this
  exact this
theorem it_for {n : Nat} (S : SCtx X x call g N sc) {tg e : Expr} {ci : CIt} (h : trIt false (trE g N 40) g sc (isTup tg) e = some ci) : PI X tg e (iE x leR (evalIt call ci)) := it_ok S.c S.ok (wayE S.ok) h
theorem pop_form {v : Expr} (h : isPop v = true) : ∃ y p ap cp, v = .Call (.Attribute (.Name y p) "pop" ap) [] [] cp := by
  unfold isPop at h
  split at h
  · have e := eq_of_beq h
    subst e
    exact ⟨_, _, _, _, rfl⟩
  · cases h
theorem raise_ok (S : SCtx X x call g N sc) {mu : List Nat} {n : Nat} {e c : Option Expr} {p : Pos} {css : List CS} (h : trS g N sc mu (n + 1) (.Raise e c p) = some css) : PS X (.Raise e c p) (sE x (evalB call css)) := by
  have key : ∀ y q as r, e = some (.Call (.Name y q) as [] r) → c = none → PS X (.Raise e c p) (sE x (evalB call css)) := fun y q as r he hc => by
    subst he hc
    have h : (match allSome (as.map (trE g N 40 false sc)) with
      | some l => if (isGl sc y && l.all isCst) = true then some [CS.raise y l] else none
      | none => none) = some css := h
    cases h1 : allSome (as.map (trE g N 40 false sc)) with
    | none => rw [h1] at h; cases h
    | some l =>
      rw [h1] at h
      replace h : (if (isGl sc y && l.all isCst) = true then some [CS.raise y l] else none) = some css := h
      split at h
      · rename_i hc
        cases h
        exact ps_eqE (ps_raiseX S (Bool.and_eq_true_iff.mp hc).2) fun env => evalB_one.symm
      · cases h
  cases e with
  | none => cases h
  | some e =>
    cases c with
    | some _ => cases e <;> first | cases h | (rename_i f as ks q; cases f <;> cases ks <;> cases h)
    | none =>
      cases e <;> first | cases h | skip
      rename_i f as ks q
      cases f <;> cases ks <;> first | (exact key _ _ _ _ rfl rfl) | cases h
theorem aug_ok (S : SCtx X x call g N sc) {mu : List Nat} {n : Nat} {t v : Expr} {o : Operator} {p : Pos} {css : List CS} (h : trS g N sc mu (n + 1) (.AugAssign t o v p) = some css) : PS X (.AugAssign t o v p) (sE x (evalB call css)) := by
  cases t with
  | Name y py =>
    have h : (match nmOf N sc (.Name y py), trOp o, trE g N 40 true sc v with
      | some i, some o', some e => some (frz mu (aliasE e) (.aug i o' e))
      | _, _, _ => none) = some css := h
    cases h1 : nmOf N sc (.Name y py) with
    | none => rw [h1] at h; cases h
    | some i =>
      cases h2 : trOp o with
      | none => rw [h1, h2] at h; cases h
      | some o' =>
        cases h3 : trE g N 40 true sc v with
        | none => rw [h1, h2, h3] at h; cases h
        | some e =>
          rw [h1, h2, h3] at h
          cases h
          obtain ⟨n1, n2, n3, n4⟩ := nm_ok S h1
          have ho := trOp_ok h2
          subst ho
          exact ps_frzs (ps_augX S.nd n1 n2 n3 (S.ok.p v e h3)) mu _
  | Subscript a k tp =>
    cases a with
    | Name y py =>
      have h : (if (isSlice k || !okName y) = true then none else match nmOf N sc (.Name y py), trE g N 40 true sc k, trOp o, trE g N 40 true sc v with
        | some i, some k', some o', some e => some (frz mu (aliasE e ++ aliasE k') (.augix i k' o' e))
        | _, _, _, _ => none) = some css := h
      split at h
      · cases h
      · rename_i hc
        cases h1 : nmOf N sc (.Name y py) with
        | none => rw [h1] at h; cases h
        | some i =>
          cases h4 : trE g N 40 true sc k with
          | none => rw [h1, h4] at h; cases h
          | some k' =>
            cases h2 : trOp o with
            | none => rw [h1, h4, h2] at h; cases h
            | some o' =>
              cases h3 : trE g N 40 true sc v with
              | none => rw [h1, h4, h2, h3] at h; cases h
              | some e =>
                rw [h1, h4, h2, h3] at h
                cases h
                obtain ⟨n1, n2, n3, n4⟩ := nm_ok S h1
                have ho := trOp_ok h2
                subst ho
                have hsl : isSlice k = false := by
                  cases q : isSlice k with
                  | false => rfl
                  | true => rw [q] at hc; exact absurd rfl hc
                have hnm : okName y = true := by
                  cases q : okName y with
                  | true => rfl
                  | false => rw [q, Bool.or_comm] at hc; exact absurd rfl hc
                obtain ⟨d1, d2⟩ := okName_ok hnm
                exact ps_frzs (ps_augixX n1 n4 d1 d2 (slice_ne hsl) (S.ok.p v e h3) (S.ok.p k k' h4)) mu _
    | _ => cases h
  | _ => cases h
theorem noTup_asg {t : Expr} (h : noTupT t = true) (env : Env) : (assignEach [t] env).map (·.2) = [assign t env] := by
  cases t <;> first | rfl | cases h
theorem assign_ok (S : SCtx X x call g N sc) {mu : List Nat} {n : Nat} {t v : Expr} {p : Pos} {css : List CS} (h : trS g N sc mu (n + 1) (.Assign [t] v p) = some css) : PS X (.Assign [t] v p) (sE x (evalB call css)) := by
  by_cases hp : isPop v = true
  · obtain ⟨y, py, ap, cp, rfl⟩ := pop_form hp
    have h : (if (ap.endLine == cp.line && okName y && noTupT t) = true then match nmOf N sc (.Name y py), trT 8 N sc t with
        | some i, some t' => some [CS.popTo t' i]
        | _, _ => none
      else none) = some css := h
    split at h
    · rename_i hc
      obtain ⟨hc, hc3⟩ := Bool.and_eq_true_iff.mp hc
      obtain ⟨hc1, hc2⟩ := Bool.and_eq_true_iff.mp hc
      cases h1 : nmOf N sc (.Name y py) with
      | none => rw [h1] at h; cases h
      | some i =>
        cases h2 : trT 8 N sc t with
        | none => rw [h1, h2] at h; cases h
        | some t' =>
          rw [h1, h2] at h
          cases h
          obtain ⟨n1, n2, n3, n4⟩ := nm_ok S h1
          obtain ⟨d1, d2⟩ := okName_ok hc2
          refine ps_eqE (ps_popX S.c.calm n1 n4 d1 d2 hc1 (pg_ok S.c.K S.c.calm S.c.eN S.c.nd S.ms 8 _ t' h2) ?_ ?_ (noTup_asg hc3 X.env)) fun env => evalB_one.symm
          · rfl
          · cases t <;> first | rfl | cases hc3
    · cases h
  · have h : (if isPop v = true then match (generalizing := false) v with
        | .Call (.Attribute (.Name x xp) m mp) [] [] cp => if (mp.endLine == cp.line && okName x && noTupT t) = true then match nmOf N sc (.Name x xp), trT 8 N sc t with
            | some i, some t' => some [CS.popTo t' i]
            | _, _ => none
          else none
        | _ => none
      else trAsg (trE g N 40) N sc mu t v) = some css := h
    rw [if_neg hp] at h
    exact asg_ok S h
theorem expr_ok (S : SCtx X x call g N sc) {mu : List Nat} {n : Nat} {e : Expr} {p : Pos} {css : List CS} (h : trS g N sc mu (n + 1) (.Expr e p) = some css) : PS X (.Expr e p) (sE x (evalB call css)) := by
  have gen : (if noComp e = true then match trE g N 40 false sc e with
      | some e' => some (frz mu (aliasE e') (.expr e'))
      | none => none
    else none) = some css → PS X (.Expr e p) (sE x (evalB call css)) := fun h => by
    split at h
    · rename_i hc
      cases h1 : trE g N 40 false sc e with
      | none => rw [h1] at h; cases h
      | some e' =>
        rw [h1] at h
        cases h
        exact ps_frzs (ps_exprX (pe_toE (S.ok.e e e' h1)) fun l => swaps_noComp hc _ _ _) mu _
    · cases h
  have app : ∀ y py m ap as cp, e = .Call (.Attribute (.Name y py) m ap) as [] cp → PS X (.Expr e p) (sE x (evalB call css)) := fun y py m ap as cp he => by
    subst he
    replace h : (if (m == ("append" : Str) && ap.endLine == cp.line && okName y) = true then match (generalizing := false) nmOf N sc (.Name y py), as with
        | some i, [a] => match trE g N 40 false sc a with
          | some e => some (frz mu (aliasE e) (.app i e))
          | none => none
        | _, _ => none
      else none) = some css := h
    split at h
    · rename_i hc
      obtain ⟨hc, hc3⟩ := Bool.and_eq_true_iff.mp hc
      obtain ⟨hc1, hc2⟩ := Bool.and_eq_true_iff.mp hc
      have hm := eq_of_beq hc1
      subst hm
      split at h
      · rename_i i a h1
        split at h
        · rename_i e' h2
          cases h
          obtain ⟨n1, n2, n3, n4⟩ := nm_ok S h1
          obtain ⟨d1, d2⟩ := okName_ok hc3
          exact ps_frzs (ps_appX n1 n4 d1 d2 hc2 (trE_ns h2) (pe_toE (S.ok.e a e' h2))) mu _
        · cases h
      · cases h
    · cases h
  cases e with
  | Constant k j q =>
    cases k with
    | str s => cases h; exact ps_eqE ps_docX fun env => evalB_one.symm
    | _ => exact gen h
  | Call f as ks cp =>
    cases f with
    | Attribute o m ap =>
      cases o with
      | Name y py =>
        cases ks with
        | nil => exact app _ _ _ _ _ _ rfl
        | cons _ _ => exact gen h
      | _ => exact gen h
    | _ => exact gen h
  | _ => exact gen h
mutual
theorem st_ok (S : SCtx X x call g N sc) {mu : List Nat} : ∀ (n : Nat) (st : Stmt) (css : List CS), trS g N sc mu n st = some css → PS X st (sE x (evalB call css))
  | 0, _, _, h => by cases h
  | n + 1, st, css, h => by
    cases st with
    | Pass p => cases h; exact ps_eqE ps_passX fun env => evalB_one.symm
    | Break p => cases h; exact ps_eqE ps_breakX fun env => evalB_one.symm
    | Continue p => cases h; exact ps_eqE ps_contX fun env => evalB_one.symm
    | Return o p =>
      cases o with
      | none => cases h; exact ps_eqE ps_retNX fun env => evalB_one.symm
      | some e =>
        have h : (match trE g N 40 false sc e with
          | some e' => some (frz mu (aliasE e') (.ret e'))
          | none => none) = some css := h
        cases h1 : trE g N 40 false sc e with
        | none => rw [h1] at h; cases h
        | some e' =>
          rw [h1] at h
          cases h
          exact ps_frzs (ps_retX (pe_toE (S.ok.e e e' h1))) mu _
    | If c a b p =>
      have h : (match trE g N 40 true sc c, allSome (a.map (trS g N sc mu n)), allSome (b.map (trS g N sc mu n)) with
        | some c', some a', some b' => some (frz mu (aliasE c') (.ifs c' a'.flatten b'.flatten))
        | _, _, _ => none) = some css := h
      cases h1 : trE g N 40 true sc c with
      | none => rw [h1] at h; cases h
      | some c' =>
        cases h2 : allSome (a.map (trS g N sc mu n)) with
        | none => rw [h1, h2] at h; cases h
        | some a' =>
          cases h3 : allSome (b.map (trS g N sc mu n)) with
          | none => rw [h1, h2, h3] at h; cases h
          | some b' =>
            rw [h1, h2, h3] at h
            cases h
            exact ps_frzs (ps_ifX (S.ok.t true c c' h1) (sts_ok S n a a' h2) (sts_ok S n b b' h3)) mu _
    | While c a o p =>
      cases o with
      | cons _ _ => cases h
      | nil =>
        have h : (match trE g N 40 true sc c, allSome (a.map (trS g N sc mu n)) with
          | some c', some a' => if mu.any (fun i => (aliasE c').contains i) = true then none else some [CS.whil c' a'.flatten]
          | _, _ => none) = some css := h
        cases h1 : trE g N 40 true sc c with
        | none => rw [h1] at h; cases h
        | some c' =>
          cases h2 : allSome (a.map (trS g N sc mu n)) with
          | none => rw [h1, h2] at h; cases h
          | some a' =>
            rw [h1, h2] at h
            replace h : (if mu.any (fun i => (aliasE c').contains i) = true then none else some [CS.whil c' a'.flatten]) = some css := h
            split at h
            · cases h
            · cases h
              exact ps_eqE (ps_whileX S.xe (S.ok.t true c c' h1) (sts_ok S n a a' h2)) fun env => evalB_one.symm
    | For t it a o p =>
      cases o with
      | cons _ _ => cases h
      | nil =>
        have h : (match trT 8 N sc t, (if setless it = true then trIt false (trE g N 40) g sc (isTup t) it else none), allSome (a.map (trS g N sc mu n)) with
          | some t', some it', some a' => some (frz mu (aliasI it' ++ peekI it') (.fors t' it' a'.flatten))
          | _, _, _ => none) = some css := h
        cases h1 : trT 8 N sc t with
        | none => rw [h1] at h; cases h
        | some t' =>
          by_cases hs : setless it = true
          · rw [if_pos hs] at h
            cases h2 : trIt false (trE g N 40) g sc (isTup t) it with
            | none => rw [h1, h2] at h; cases h
            | some it' =>
              cases h3 : allSome (a.map (trS g N sc mu n)) with
              | none => rw [h1, h2, h3] at h; cases h
              | some a' =>
                rw [h1, h2, h3] at h
                cases h
                exact ps_frzs (ps_forX S.xe S.c.calm rfl (it_for (n := n) S h2) (pg_ok S.c.K S.c.calm S.c.eN S.c.nd S.ms 8 _ t' h1) (sts_ok S n a a' h3) (fun v => folded_of hs _ v)) mu _
          · rw [if_neg hs, h1] at h; cases h
    | Expr e p => exact expr_ok S h
    | Assign ts v p =>
      match ts, h with
      | [t], h => exact assign_ok S h
      | [], h => cases h
      | _ :: _ :: _, h => cases h
    | AugAssign t o v p => exact aug_ok S h
    | Raise e c p => exact raise_ok S h
    | _ => cases h
theorem sts_ok (S : SCtx X x call g N sc) {mu : List Nat} : ∀ (n : Nat) (a : List Stmt) (l : List (List CS)), allSome (a.map (trS g N sc mu n)) = some l → PSs X a (sE x (evalB call l.flatten))
  | n, [], l, h => by
    cases h
    exact pss_nilE
  | n, s :: a, l, h => by
    obtain ⟨c, l', h1, h2, e⟩ := allSome_cons h
    subst e
    exact pss_eqE (pss_consE (st_ok S n s c h1) (sts_ok S n a l' h2)) fun env => by rw [List.flatten_cons, evalB_append]
end
end
end EV

set_option maxRecDepth 100000
set_option maxHeartbeats 4000000
/-! EvF: defs. -/
namespace EV
open PySem PySem.Spec PyProof.Rows L2
/-- a def of the text, translated -/
structure DefF (K : PySem.W.Frag) (mg : Str → Option Value) (g : Glb) (G : Tab) (f : Str) : Prop where
  ex : ∃ (pa : Arguments) (body : List Stmt) (sc : Scope) (fa : Addr) (fd : FuncData) (N ps : List Str) (cf : CFun), FunD K f f pa body sc [] [] fa fd ∧ mg f = some (.ref fa) ∧ Binds K fd ps [] ∧ FnScope N ps sc ∧ trF g ps.length N sc body = some cf ∧ G.lookup f = some cf
/-- what the module gives -/
structure ModF (K : PySem.W.Frag) (mg : Str → Option Value) (g : Glb) (G : Tab) : Prop where
  df : ∀ f, g.funs.contains f = true → DefF K mg g G f
  bi : ∀ b ∈ BI, mg b = none
  co : ∀ y v, g.consts.lookup y = some v → ∃ w u, mg y = some u ∧ RelV w u ∧ ∀ F C, RepV K F C v w
theorem start_get {N : List Str} {vs : List V} {i : Nat} : (show List (Option V) from L2.start N vs)[i]? = if i < vs.length then (vs[i]?).map some else if i < vs.length + (N.length - vs.length) then some none else none := by
  show (vs.map some ++ List.replicate (N.length - vs.length) none)[i]? = _
  by_cases h : i < vs.length
  · rw [if_pos h, List.getElem?_append_left (by rw [List.length_map]; exact h), List.getElem?_map]
  · rw [if_neg h, List.getElem?_append_right (by rw [List.length_map]; omega), List.length_map, List.getElem?_replicate]
    by_cases h2 : i < vs.length + (N.length - vs.length)
    · rw [if_pos h2, if_pos (by omega)]
    · rw [if_neg h2, if_neg (by omega)]
theorem startE_get {n : Nat} {ps : List PV} {i : Nat} : (startE n ps)[i]? = if i < ps.length then (ps[i]?).map .val else if i < ps.length + (n - ps.length) then some .no else none := by
  unfold startE
  by_cases h : i < ps.length
  · rw [if_pos h, List.getElem?_append_left (by rw [List.length_map]; exact h), List.getElem?_map]
  · rw [if_neg h, List.getElem?_append_right (by rw [List.length_map]; omega), List.length_map, List.getElem?_replicate]
    by_cases h2 : i < ps.length + (n - ps.length)
    · rw [if_pos h2, if_pos (by omega)]
    · rw [if_neg h2, if_neg (by omega)]
theorem slots_start {x : Fix} {F H : Hp} {N : List Str} {ps : List PV} {vs : List V} (r : RepVs x.K F x.C ps vs) : Slots x F H (L2.start N vs) (startE N.length ps) where
  len := by
    show (vs.map some ++ List.replicate (N.length - vs.length) none).length = _
    unfold startE
    rw [List.length_append, List.length_append, List.length_map, List.length_map, List.length_replicate, List.length_replicate, r.length]
  ok := fun i => by
    rw [start_get, startE_get, r.length]
    by_cases h : i < vs.length
    · rw [if_pos h, if_pos h]
      have hi : i < ps.length := by rw [r.length]; exact h
      obtain ⟨p, hp⟩ : ∃ p, ps[i]? = some p := ⟨_, List.getElem?_eq_getElem hi⟩
      obtain ⟨v, hv, rp⟩ := r.get hp
      rw [hp, hv]
      exact ⟨v, rfl, rp⟩
    · rw [if_neg h]
      by_cases h2 : i < vs.length + (N.length - vs.length)
      · rw [if_pos h2]; trivial
      · rw [if_neg h2]; trivial
  sep := fun i j v w a h1 => by
    rw [startE_get] at h1
    split at h1
    · cases e : ps[i]? with
      | none => rw [e] at h1; cases h1
      | some p => rw [e] at h1; cases h1
    · split at h1 <;> cases h1
theorem sE_ret {x : Fix} {m : Ev → M Out} {cup : Cup} {F H : Hp} {σ : L2.St} {env : Ev} {Q : VK} (g : Good x cup F H) (hF : x.F0 = F) (hH : x.H0 = H) (sl : Slots x F H σ env) (w : WP x (m env >>= outV) cup F H fun v _ F' H' => ∀ y, RepV x.K F' x.C v y → Q y H') :
    sE x m { nx := fun _ H' => Q .non H', rt := Q } σ H := by
  refine ⟨cup, F, env, g, sl, ?_⟩
  rw [hF, hH]
  refine (WP.bindB w).mono fun o c F' H' s' g' w' le => ?_
  cases o with
  | next e => exact fun _ _ => WP.pureB w' s' g' _ .non
  | ret v => exact fun y r => WP.pureB w' s' g' y r
  | brk e => exact w'.elim
  | cnt e => exact w'.elim
section
variable {P : Program} {w : World} {K : PySem.W.Frag} {mg : Str → Option Value} {base : Heap} {g : Glb} {G : Tab}
theorem ctx_of (MF : ModF K mg g G) {X : Cx} {x : Fix} {call : Str → List PV → M PV} {N : List Str} {n : Nat} (hp : X.prog = P) (hw : X.w = w) (hb : X.base = base) (hK : X.K = K) (hmg : X.mg = mg) (hxK : x.K = K) (hE : x.E = noE) (eN : X.N = N) (nd : N.Nodup) (calm : X.calm = true) (hxe : X.xe = fun _ _ => False) (hfn : ∀ y, X.fn y = true) (hr : Room n X.A)
    (ca : ∀ f, g.funs.contains f = true → C8.Cal P w K mg base n f (spF K (call f)) []) : SCtx X x call g N X.env.scope where
  xe := hxe
  ms := fun y h => by
    unfold isStore at h
    refine ⟨?_, .inl (hfn y)⟩
    cases e : X.env.scope.names.lookup y with
    | none => rw [e] at h; cases h
    | some k =>
      rw [e] at h
      cases k with
      | «local» => exact .inl e
      | cell => exact .inr e
      | _ => cases h
  c := {
    K := by rw [hK, hxK]
    E := hE
    eN := eN
    nd := nd
    sc := rfl
    calm := calm
    hu := by have := hr.un; omega
    bi := fun b hb => by rw [hmg]; exact MF.bi b hb
    co := fun y v h => by rw [hmg, hxK]; exact MF.co y v h
    ca := ⟨n, n, Nat.le_refl n, hr, fun f hf => by subst hp hw hb hK hmg; rw [hxK]; exact ca f hf⟩ }
theorem cal_all (MF : ModF K mg g G) : ∀ (n : Nat) (f : Str), g.funs.contains f = true → C8.Cal P w K mg base n f (spF K (evalF G n f)) []
  | 0, f, hf => by
    obtain ⟨pa, body, sc, fa, fd, N, ps, cf, D, hm, B, S, _, _⟩ := (MF.df f hf).ex
    refine ⟨fa, fd, ps, [], ⟨fun vs H Q E h => ?_, fun A outer s H args us vs Q E hr e0 hb r h => ?_⟩, hm, D.kp, B, .nil⟩
    · obtain ⟨C, F, cup, qs, g', r, w⟩ := h
      exact w.elim
    · obtain ⟨C, F, cup, qs, g', r, w⟩ := h
      exact w.elim
  | n + 1, f, hf => by
    obtain ⟨pa, body, sc, fa, fd, N, ps, cf, D, hm, B, S, ht, hG⟩ := (MF.df f hf).ex
    obtain ⟨b, hb, ecf⟩ := Option.map_eq_some_iff.mp (show (trB g N sc body).map (fun b => (⟨ps.length, N, b⟩ : CFun)) = some cf from ht)
    obtain ⟨l, hl, eb⟩ := Option.map_eq_some_iff.mp (show (allSome (body.map (trS g N sc (changed N 12 body) 12))).map List.flatten = some b from hb)
    have hev : ∀ qs, evalF G (n + 1) f qs = if qs.length = ps.length then (do let o ← evalB (evalF G n) l.flatten (startE N.length qs); outV o) else fail := fun qs => by
      show (match G.lookup f with | some cf => runF (evalF G n) cf qs | none => fail : M PV) = _
      rw [hG]
      subst ecf eb
      rfl
    refine ⟨fa, fd, ps, [], D.ok S (fun vs H Q E h => ?_) (fun cdv A outer s H vs Q E hr h => ?_), hm, D.kp, B, .nil⟩
    · obtain ⟨C, F, cup, qs, g', r, w⟩ := h
      rw [hev] at w
      obtain ⟨hz, _⟩ := WP.ite w
      rw [← r.length]
      exact hz
    · obtain ⟨C, F, cup, qs, g', r, wq⟩ := h
      rw [hev] at wq
      obtain ⟨hz, wq⟩ := WP.ite wq
      have SX : SCtx (cxOf C8.CX0 P w K mg base N f sc fa cdv A outer s H E).nox ⟨K, H, F, C, noE⟩ (evalF G n) g N sc :=
        ctx_of (P := P) (w := w) (base := base) (n := n) MF rfl rfl rfl rfl rfl rfl rfl rfl S.nd rfl rfl (fun _ => rfl) hr fun f hf => cal_all MF n f hf
      exact ⟨_, PSs.nox (sts_ok SX 12 _ l hl), sE_ret g' rfl rfl (slots_start r) wq⟩
end
end EV

set_option maxRecDepth 100000
set_option maxHeartbeats 4000000
/-! EvL: a law of these: its cup comes out of the script, the rest is the evaluator's. -/
namespace EV
open PySem PySem.Spec PyProof.Rows L2
/-- cell = abs((list(script) + [0])[0]) -/
def isCup1 : Stmt → Bool
  | .Assign [.Name y _] (.Call (.Name f _) [.Subscript (.BinOp (.Call (.Name l _) [.Name z _] [] _) .Add (.List [.Constant (.int a) _ _] _) _) (.Constant (.int b) _ _) _] [] _) _ =>
    decide (y = "cell") && decide (f = "abs") && decide (l = "list") && decide (z = "script") && decide (a = 0) && decide (b = 0)
  | _ => false
/-- cup = _law_cup(script) -/
def isCup0 : Stmt → Bool
  | .Assign [.Name y _] (.Call (.Name f _) [.Name z _] [] _) _ => decide (y = "cup") && decide (f = "_law_cup") && decide (z = "script")
  | _ => false
def cellOf : List Int → Int
  | [] => 0
  | k :: _ => if k < 0 then -k else k
theorem cellOf_nn : ∀ ns, 0 ≤ cellOf ns
  | [] => Int.le_refl 0
  | k :: _ => by unfold cellOf; split <;> omega
def anyX (K : PySem.W.Frag) (m : Ev → M Out) : TS := fun D σ H => ∃ x : Fix, x.K = K ∧ x.E = noE ∧ sE x m D σ H
def spLaw (K : PySem.W.Frag) : Sp := fun vs H Q _ => ∃ (a : Addr) (ns : List Int), vs = [.ref a] ∧ SqL K H a (ns.map V.int) ∧ ns.length ≤ 1000 ∧ ∀ H', Q (.bl true) H'
def spCup (K : PySem.W.Frag) (call : Str → List PV → M PV) (css : List CS) : Sp := fun vs H Q _ => ∃ (a : Addr) (ns : List Int) (i j : Int), vs = [.ref a] ∧ SqL K H a (ns.map V.int) ∧ ns.length ≤ 1000 ∧
  evalB call css [.no, .val (.int (cellOf ns))] [] = .ok (.ret (.lst [.int i, .int j])) [] ∧ ∀ p H', H' p = some (.lst [.int i, .int j]) → Q (.ref p) H'
section
variable {P : Program} {w : World} {K : PySem.W.Frag} {mg : Str → Option Value} {base : Heap} {g : Glb} {G : Tab} {n : Nat}
theorem cup_cell {X : Cx} {s1 : Stmt} (h1 : isCup1 s1 = true) (hN : X.N = (["script", "cell"] : List Str)) (hc : X.calm = true) (hg : ∀ y, X.env.scope.names.lookup y = some .globalImplicit → Gl X y) (sa : X.env.scope.names.lookup ("abs" : Str) = some .globalImplicit) (sl : X.env.scope.names.lookup ("list" : Str) = some .globalImplicit)
    (ss : Vis X.env.scope "script") (sc : Loc X.env.scope "cell") (hf : ∀ y, X.fn y = true) (ma : X.mg "abs" = none) (ml : X.mg "list" = none) :
    PS X s1 fun D σ H => ∃ (a : Addr) (ns : List Int), (show List (Option V) from σ)[0]? = some (some (.ref a)) ∧ SqL X.K H a (ns.map V.int) ∧ ns.length ≤ 1000 ∧ ∀ H', D.nx (σ.set 1 (some (.int (cellOf ns)))) H' := by
  unfold isCup1 at h1
  split at h1
  · rename_i y py f pf l pl z pz pc1 a ja pa pl2 pb b jb pb2 ps pc2 pos
    simp only [Bool.and_eq_true, decide_eq_true_eq] at h1
    obtain ⟨⟨⟨⟨⟨rfl, rfl⟩, rfl⟩, rfl⟩, rfl⟩, rfl⟩ := h1
    have pscript : PE X (.Name "script" pz) (tVar 0) := pe_var (by rw [hN]; rfl) ss
    have plist := pe_callTy (pos := pc1) (p := pl) call_list_of (hg _ sl) ml (by decide +kernel) (pa_cons pscript pa_nil)
    have pzero : PE X (.List [.Constant (.int 0) ja pa] pl2) (tLst (tCons (tC (.int 0)) tNil)) := pe_lst (pa_cons pe_int pa_nil)
    have pcat := pe_op (pos := pb) op_cat plist pzero
    have pidx := pe_ix (pos := ps) ix_list pcat (pe_int (i := 0) (j := jb) (pos := pb2)) (fun _ _ => rfl)
    have pabs := pe_callB (pos := pc2) (p := pf) call_abs (hg _ sa) ma (by decide +kernel) (pa_cons pidx pa_nil)
    refine (ps_set (i := 1) (by rw [hN]; decide +kernel) (by rw [hN]; rfl) sc pabs rfl (.inl (hf _))).weak fun D σ H h => ?_
    obtain ⟨a, ns, e0, hq, hl, hn⟩ := h
    refine ⟨.ref a, e0, a, ns.map V.int, rfl, .inl hq, fun p hp => ?_⟩
    refine ⟨by rw [line_eq]; show 1 ≤ LINE; decide, fun q hq2 => ?_⟩
    have h1001 : (1001 : Nat) ≤ LINE := by decide
    have hz : ns.length + 1 ≤ LINE := by omega
    have hqp : q ≠ p := fun e => by rw [e, upd_same] at hq2; cases hq2
    refine ⟨p, q, ns.map V.int, [.int 0], rfl, rfl, by rw [upd_ne (fun e => hqp e.symm)]; exact upd_same, upd_same, by rw [List.length_map, line_eq]; exact hz, fun r hr => ?_⟩
    cases ns with
    | nil => exact ⟨r, [.int 0], 0, .int 0, rfl, rfl, .inl (.inl upd_same), rfl, 0, rfl, hn _⟩
    | cons k ks => 
      refine ⟨r, V.int k :: (ks.map V.int ++ [.int 0]), 0, .int k, rfl, rfl, .inl (.inl upd_same), ?_, k, rfl, hn _⟩
      unfold atI ixN
      rw [if_pos (Int.le_refl 0), if_pos (by simp; omega)]
      rfl
  · cases h1

theorem pss_any {X : Cx} {x0K : PySem.W.Frag} {ss : List Stmt} {m : Ev → M Out} (h : ∀ x : Fix, x.K = x0K → x.E = noE → PSs X ss (sE x m)) : PSs X ss (anyX x0K m) :=
  ⟨fun pins s σ H D I ⟨x, e1, e2, q⟩ => (h x e1 e2).run pins s σ H D I q⟩
/-- _law_cup(script) -/
theorem cup_ok (MF : ModF K mg g G) {pa : Arguments} {body : List Stmt} {sc : Scope} {f : Addr} {fd : FuncData} {s1 s2 : Stmt} {css : List CS} (F : FunD K "_law_cup" "_law_cup" pa body sc [] [] f fd) (S : FnScope ["script", "cell"] ["script"] sc) (hb : body = [s1, s2]) (h1 : isCup1 s1 = true)
    (sa : sc.names.lookup ("abs" : Str) = some .globalImplicit) (sl : sc.names.lookup ("list" : Str) = some .globalImplicit) (sv : Vis sc "script") (scell : Loc sc "cell") (ht : trS g ["script", "cell"] sc [] 12 s2 = some css) :
    FnOk P w K mg base C8.CX0 (n + 1) f fd ["script"] (spCup K (evalF G n) css) := by
  subst hb
  refine F.ok S (fun vs H Q E h => ?_) fun cdv A outer s H vs Q E hr h => ?_
  · obtain ⟨a, ns, i, j, rfl, _⟩ := h
    rfl
  · obtain ⟨a, ns, i, j, rfl, hq, hn, hev, hQ⟩ := h
    have p1 := cup_cell (X := (cxOf C8.CX0 P w K mg base ["script", "cell"] "_law_cup" sc f cdv A outer s H E).nox) h1 rfl rfl (fun y h => h) sa sl sv scell (fun _ => rfl) (MF.bi _ (by decide)) (MF.bi _ (by decide))
    have p2 : PSs (cxOf C8.CX0 P w K mg base ["script", "cell"] "_law_cup" sc f cdv A outer s H E).nox [s2] (anyX K (evalB (evalF G n) css)) := pss_any fun x e1 e2 => by
      have SX : SCtx (cxOf C8.CX0 P w K mg base ["script", "cell"] "_law_cup" sc f cdv A outer s H E).nox x (evalF G n) g ["script", "cell"] sc :=
        ctx_of (P := P) (w := w) (base := base) (n := n) MF rfl rfl rfl rfl rfl e1 e2 rfl S.nd rfl rfl (fun _ => rfl) hr fun f hf => cal_all MF n f hf
      exact pss_one (st_ok SX 12 s2 css ht)
    refine ⟨_, PSs.nox (pss_cons p1 p2), a, ns, rfl, hq, hn, fun H1 => ⟨⟨K, H1, fun _ => none, none, noE⟩, rfl, rfl, ?_⟩⟩
    have g1 : Good ⟨K, H1, fun _ => none, none, noE⟩ [] (fun _ => none) H1 := ⟨fun _ _ h => (nomatch h), Le.refl _, fun _ _ h => (nomatch h), fun _ _ h _ _ => h, fun _ h => h, fun _ h => (nomatch h)⟩
    refine ⟨[], fun _ => none, [.no, .val (.int (cellOf ns))], g1, ⟨rfl, fun k => ?_, fun k j v w b h => ?_⟩, ?_⟩
    · match k with
      | 0 => trivial
      | 1 => exact ⟨_, rfl, .int _⟩
      | k + 2 => trivial
    · match k, h with
      | 0, h => cases h
      | 1, h => cases h
      | k + 2, h => cases h
    · show WP _ (evalB (evalF G n) css [.no, .val (.int (cellOf ns))]) [] _ _ _
      unfold WP
      rw [hev]
      intro F' H' s' g' le y ry
      cases ry with
      | lst hf z r =>
        cases r with
        | cons r1 t => cases t with
          | cons r2 t => cases t; cases r1; cases r2; exact hQ _ _ (hf.at g'.sub)
def cupEnv (m : Nat) : Ev := [.no, .val .cell] ++ List.replicate (m - 2) .no
/-- THE LAW -/
theorem law_ok (MF : ModF K mg g G) {pc : Arguments} {bc : List Stmt} {scc : Scope} {fc : Addr} {fdc : FuncData} {s1 s2 : Stmt} {cssc : List CS} (Fc : FunD K "_law_cup" "_law_cup" pc bc scc [] [] fc fdc) (hmc : mg "_law_cup" = some (.ref fc)) (Bc : Binds K fdc ["script"] []) (Sc : FnScope ["script", "cell"] ["script"] scc) (hbc : bc = [s1, s2]) (h1 : isCup1 s1 = true)
    (sa : scc.names.lookup ("abs" : Str) = some .globalImplicit) (sl : scc.names.lookup ("list" : Str) = some .globalImplicit) (sv : Vis scc "script") (scell : Loc scc "cell") (htc : trS g ["script", "cell"] scc [] 12 s2 = some cssc)
    {pl : Arguments} {bl : List Stmt} {scl : Scope} {fl : Addr} {fdl : FuncData} {N : List Str} {t1 : Stmt} {rest : List Stmt} {l : List (List CS)} (Fl : FunD K "law" "law" pl bl scl [] [] fl fdl) (Sl : FnScope N ["script"] scl) (hbl : bl = t1 :: rest) (h0 : isCup0 t1 = true) (hN : N[1]? = some ("cup" : Str)) (hN0 : N[0]? = some ("script" : Str))
    (sg : scl.names.lookup ("_law_cup" : Str) = some .globalImplicit) (svl : Vis scl "script") (scup : Loc scl "cup") (htl : allSome (rest.map (trS g N scl (changed N 12 rest) 12)) = some l)
    (hev : ∀ cell : Int, 0 ≤ cell → ∃ i j c', evalB (evalF G n) cssc [.no, .val (.int cell)] [] = .ok (.ret (.lst [.int i, .int j])) [] ∧ (evalB (evalF G (n + 1)) l.flatten (cupEnv N.length) >>= outV) [.int i, .int j] = .ok (.bl true) c') :
    FnOk P w K mg base C8.CX0 (n + 2) fl fdl ["script"] (spLaw K) := by
  subst hbl
  refine Fl.ok Sl (fun vs H Q E h => ?_) fun cdv A outer s H vs Q E hr h => ?_
  · obtain ⟨a, ns, rfl, _⟩ := h
    rfl
  · obtain ⟨a, ns, rfl, hq, hn, hQ⟩ := h
    obtain ⟨i, j, c', e1, e2⟩ := hev (cellOf ns) (cellOf_nn ns)
    have hNl : 2 ≤ N.length := by
      have := (List.getElem?_eq_some_iff.mp hN).1
      omega
    unfold isCup0 at h0
    split at h0
    · rename_i y py f pf z pz pcall pos
      simp only [Bool.and_eq_true, decide_eq_true_eq] at h0
      obtain ⟨⟨rfl, rfl⟩, rfl⟩ := h0
      have cal : C8.Cal P w K mg base (n + 1) "_law_cup" (spCup K (evalF G n) cssc) [] := ⟨fc, fdc, ["script"], [], cup_ok MF Fc Sc hbc h1 sa sl sv scell htc, hmc, Fc.kp, Bc, .nil⟩
      let X : Cx := (cxOf C8.CX0 P w K mg base N "law" scl fl cdv A outer s H E).nox
      have pz' : PE X (.Name "script" pz) (tVar 0) := pe_var hN0 svl
      have pcl := C8.pe_c (X := X) (p := pf) (pos := pcall) cal hr (Nat.le_refl _) sg (pa_cons pz' pa_nil)
      have p1 : PS X (.Assign [.Name "cup" py] (.Call (.Name "_law_cup" pf) [.Name "script" pz] [] pcall) pos) (tAsg (tCall (spCup K (evalF G n) cssc) [] C8.E0 (tCons (tVar 0) tNil)) (gName 1)) := ps_set (i := 1) Sl.nd hN scup pcl rfl (.inl rfl)
      have p2 : PSs X rest (anyX K (evalB (evalF G (n + 1)) l.flatten)) := pss_any fun x e1 e2 => by
        have SX : SCtx X x (evalF G (n + 1)) g N scl :=
          ctx_of (P := P) (w := w) (base := base) (n := n + 1) MF rfl rfl rfl rfl rfl e1 e2 rfl Sl.nd rfl rfl (fun _ => rfl) hr fun f hf => cal_all MF (n + 1) f hf
        exact sts_ok SX 12 rest l htl
      refine ⟨_, PSs.nox (pss_cons p1 p2), .ref a, ?_, a, ns, i, j, rfl, hq, hn, e1, fun p H' hp => ⟨⟨K, H', fun _ => none, some p, noE⟩, rfl, rfl, ?_⟩⟩
      · show ([V.ref a].map some ++ List.replicate (N.length - 1) none)[0]? = _
        rfl
      have g1 : Good ⟨K, H', fun _ => none, some p, noE⟩ [.int i, .int j] (fun _ => none) H' := ⟨fun _ _ h => (nomatch h), Le.refl _, fun _ _ h => (nomatch h), fun _ _ h _ _ => h, fun _ h => h, fun c h => (by cases h; exact ⟨rfl, _, hp, .cons (.int i) (.cons (.int j) .nil)⟩)⟩
      refine sE_ret (env := cupEnv N.length) g1 rfl rfl ⟨?_, fun k => ?_, fun k j v w b h => ?_⟩ ?_
      · show (List.set ([V.ref a].map some ++ List.replicate (N.length - 1) none) 1 (some (.ref p))).length = _
        unfold cupEnv
        rw [List.length_set, List.length_append, List.length_append, List.length_replicate, List.length_replicate]
        simp
        omega
      · unfold cupEnv
        match k with
        | 0 => trivial
        | 1 =>
          refine ⟨.ref p, ?_, .cell rfl⟩
          show (List.set ([V.ref a].map some ++ List.replicate (N.length - 1) none) 1 (some (.ref p)))[1]? = _
          rw [List.getElem?_set_self]
          rw [List.length_append, List.length_replicate]
          simp
          omega
        | k + 2 =>
          show SlotOk _ _ _ ((List.replicate (N.length - 2) Slot.no)[k]?) _
          rw [List.getElem?_replicate]
          split <;> trivial
      · unfold cupEnv at h
        match k, h with
        | 0, h => cases h
        | 1, h => cases h
        | k + 2, h =>
          have h : (List.replicate (N.length - 2) Slot.no)[k]? = some (.own v) := h
          rw [List.getElem?_replicate] at h
          split at h <;> cases h
      · unfold WP
        rw [e2]
        intro F' H2 s' g' y ry
        cases ry
        exact hQ H2
    · cases h0
end
end EV

set_option maxRecDepth 100000
/-! EvTc: what a module's constants are: tuples too. -/
namespace EV
open PySem PySem.Spec PyProof.Rows L2
mutual
/-- a constant as it lies in the written part -/
def conB (K : PySem.W.Frag) : PV → Value → Bool
  | .non, .none => true
  | .bl b, .bool c => b == c
  | .int i, .int j _ => i == j
  | .str l, .str y _ => okS (toS l) && decide (toS l = y)
  | .tup ps, .ref a => match K.lookup a with
    | some ⟨.type c, _, .seq its _, _⟩ => decide (c = "tuple") && (decide (its.size ≤ sizeLine) && conBs K ps its.toList)
    | _ => false
  | _, _ => false
def conBs (K : PySem.W.Frag) : List PV → List Value → Bool
  | [], [] => true
  | p :: ps, v :: vs => conB K p v && conBs K ps vs
  | _, _ => false
end
mutual
theorem conB_ok {K : PySem.W.Frag} : ∀ {p : PV} {v : Value}, conB K p v = true → ∃ y, RelV y v ∧ ∀ F C, RepV K F C p y
  | .non, v, h => by
    cases v <;> first | (unfold conB at h; cases h; done) | exact ⟨.non, rfl, fun _ _ => .non⟩
  | .bl b, v, h => by
    cases v <;> first | (unfold conB at h; cases h; done) | skip
    rename_i c
    unfold conB at h
    have h := eq_of_beq h
    subst h
    exact ⟨.bl b, rfl, fun _ _ => .bl b⟩
  | .int i, v, h => by
    cases v <;> first | (unfold conB at h; cases h; done) | skip
    rename_i j t
    unfold conB at h
    have h := eq_of_beq h
    subst h
    exact ⟨.int i, ⟨t, rfl⟩, fun _ _ => .int i⟩
  | .str l, v, h => by
    cases v <;> first | (unfold conB at h; cases h; done) | skip
    rename_i s t
    unfold conB at h
    obtain ⟨h1, h2⟩ := Bool.and_eq_true_iff.mp h
    have h2 := of_decide_eq_true h2
    subst h2
    exact ⟨.str (toS l), ⟨t, rfl⟩, fun _ _ => .str l ((okS_iff l).mp h1)⟩
  | .tup ps, v, h => by
    cases v <;> first | (unfold conB at h; cases h; done) | skip
    rename_i a
    unfold conB at h
    cases e : K.lookup a with
    | none => rw [e] at h; cases h
    | some o =>
      rw [e] at h
      obtain ⟨oc, od, dt, sl⟩ := o
      cases oc with
      | type c =>
        cases dt with
        | seq its n =>
          have h : (decide (c = "tuple") && (decide (its.size ≤ sizeLine) && conBs K ps its.toList)) = true := h
          obtain ⟨h1, h2⟩ := Bool.and_eq_true_iff.mp h
          obtain ⟨h2, h3⟩ := Bool.and_eq_true_iff.mp h2
          obtain ⟨ys, r, rs⟩ := conBs_ok h3
          refine ⟨.ref a, rfl, fun F C => .tup (.inr ⟨_, its, n, e, congrArg Value.type (of_decide_eq_true h1), rfl, of_decide_eq_true h2, r⟩) ?_ (rs F C)⟩
          rw [← line_eq, Vals.length r, Array.length_toList]
          exact of_decide_eq_true h2
        | _ => cases h
      | _ => cases dt <;> cases h
  | .lst _, v, h => by unfold conB at h; cases v <;> cases h
  | .dict _, v, h => by unfold conB at h; cases v <;> cases h
  | .set _, v, h => by unfold conB at h; cases v <;> cases h
  | .cell, v, h => by unfold conB at h; cases v <;> cases h
  | .fn _, v, h => by unfold conB at h; cases v <;> cases h
theorem conBs_ok {K : PySem.W.Frag} : ∀ {ps : List PV} {vs : List Value}, conBs K ps vs = true → ∃ ys, Vals ys vs ∧ ∀ F C, RepVs K F C ps ys
  | [], [], _ => ⟨[], .nil, fun _ _ => .nil⟩
  | [], _ :: _, h => by cases h
  | _ :: _, [], h => by cases h
  | p :: ps, v :: vs, h => by
    obtain ⟨h1, h2⟩ := Bool.and_eq_true_iff.mp (show (conB K p v && conBs K ps vs) = true from h)
    obtain ⟨y, r, q⟩ := conB_ok h1
    obtain ⟨ys, rs, qs⟩ := conBs_ok h2
    exact ⟨y :: ys, .cons r rs, fun F C => .cons (q F C) (qs F C)⟩
end
def consB (K : PySem.W.Frag) (tb : List (Str × PV)) : Bool := tb.all fun p => match PySem.W.nsIn K mainGlobals p.1 with
  | some (some v) => conB K p.2 v
  | _ => false
abbrev AlT : Type := Bool × He.AlD
def SaysT (tb : List (Str × PV)) (fa : List He.Fa) (fn : List He.DefD) (K : PySem.W.Frag) : Prop := consB K tb = true ∧ He.SaysD fa fn K
def obsT (n : Nat) (tb : List (Str × PV)) (fa : List He.Fa) (fn : List He.DefD) (g : Addr → Option Obj) : AlT := (consB (He.frG g (He.asD g n)) tb, He.obsD fa fn (He.frG g (He.asD g n)))
def hookT (n : Nat) (tb : List (Str × PV)) (fa : List He.Fa) (fn : List He.DefD) : PySem.W.Hook where
  α := AlT
  obs := fun s => obsT n tb fa fn s.heap.get?
  val := fun _ => (true, He.valD fn)
  says := fun _ h => ∃ K : PySem.W.Frag, K.In h ∧ SaysT tb fa fn K
  of := fun _ _ e => ⟨_, He.frG_in, congrArg Prod.fst e, congrArg Prod.snd e⟩
  keeps := fun _ _ _ ⟨K, hK, c⟩ k => ⟨K, PySem.W.Frag.In.keeps hK k, c⟩
theorem obsT_eq {n : Nat} {tb : List (Str × PV)} {fa : List He.Fa} {fn : List He.DefD} {g : Addr → Option Obj} {s : Shared} (h : ∀ a, g a = s.heap.get? a) : obsT n tb fa fn g = (hookT n tb fa fn).obs s := by
  have e : g = s.heap.get? := funext h
  rw [e]
  rfl
theorem con_ok {K : PySem.W.Frag} {h : Heap} {mg : Str → Option Value} (X : K.In h) (Y : h.Ns mainGlobals mg) {tb : List (Str × PV)} (c : consB K tb = true) {y : Str} {p : PV} (hm : (y, p) ∈ tb) : ∃ w u, mg y = some u ∧ RelV w u ∧ ∀ F C, RepV K F C p w := by
  have q := List.all_eq_true.mp c _ hm
  dsimp only at q
  cases e : PySem.W.nsIn K mainGlobals y with
  | none => rw [e] at q; cases q
  | some o =>
    cases o with
    | none => rw [e] at q; cases q
    | some v =>
      rw [e] at q
      obtain ⟨w, r, rp⟩ := conB_ok q
      exact ⟨w, v, PySem.W.mg_of X Y e, r, rp⟩
end EV

set_option maxRecDepth 100000
/-! EvM: rules for reading the evaluator's words (no program, no heap). -/
namespace EV
instance : LawfulMonad M := LawfulMonad.mk' M
  (id_map := fun m => by
    funext c
    show (match m c with | .ok a c' => _ | .ex e c' => _ | .stuck => _) = m c
    cases m c <;> rfl)
  (pure_bind := fun a f => rfl)
  (bind_assoc := fun m f g => by
    funext c
    show M.bnd (M.bnd m f) g c = M.bnd m (fun x => M.bnd (f x) g) c
    unfold M.bnd
    cases m c <;> rfl)
/-- m ends well at c, and Q holds then -/
def Ends (m : M α) (c : Cup) (Q : α → Cup → Prop) : Prop := match m c with
  | .ok v c' => Q v c'
  | _ => False
theorem Ends.mono {m : M α} {c : Cup} {Q R : α → Cup → Prop} (h : Ends m c Q) (i : ∀ v c', Q v c' → R v c') : Ends m c R := by
  unfold Ends at h ⊢
  cases e : m c with
  | ok v c' => rw [e] at h; exact i v c' h
  | ex _ _ => rw [e] at h; exact h
  | stuck => rw [e] at h; exact h
theorem Ends.bind {m : M α} {f : α → M β} {c : Cup} {Q : β → Cup → Prop} (h : Ends m c fun v c' => Ends (f v) c' Q) : Ends (m >>= f) c Q := by
  show Ends (M.bnd m f) c Q
  unfold Ends M.bnd at *
  cases e : m c with
  | ok v c' => rw [e] at h; exact h
  | ex _ _ => rw [e] at h; exact h
  | stuck => rw [e] at h; exact h
theorem Ends.seq {m : M α} {f : α → M β} {c : Cup} {P : α → Cup → Prop} {Q : β → Cup → Prop} (h : Ends m c P) (i : ∀ v c', P v c' → Ends (f v) c' Q) : Ends (m >>= f) c Q := Ends.bind (h.mono i)
theorem Ends.pure {a : α} {c : Cup} {Q : α → Cup → Prop} (h : Q a c) : Ends (Pure.pure a) c Q := h
theorem ends_pure {a : α} {c : Cup} {Q : α → Cup → Prop} : Ends (Pure.pure a) c Q ↔ Q a c := Iff.rfl
theorem Ends.ok {m : M α} {c : Cup} {Q : α → Cup → Prop} (h : Ends m c Q) : ∃ v c', m c = .ok v c' ∧ Q v c' := by
  unfold Ends at h
  cases e : m c with
  | ok v c' => rw [e] at h; exact ⟨v, c', rfl, h⟩
  | ex _ _ => rw [e] at h; exact h.elim
  | stuck => rw [e] at h; exact h.elim
theorem Ends.of_ok {m : M α} {c c' : Cup} {v : α} {Q : α → Cup → Prop} (e : m c = .ok v c') (h : Q v c') : Ends m c Q := by
  unfold Ends
  rw [e]
  exact h
/-- the cup of a law -/
def CupOk (c : Cup) : Prop := ∃ a b : Int, c = [.int a, .int b]
/-- from every cup: ends well, the cup stays a cup -/
def Does (m : M α) (P : α → Prop) : Prop := ∀ c, CupOk c → Ends m c fun v c' => P v ∧ CupOk c'
theorem Does.mono {m : M α} {P R : α → Prop} (h : Does m P) (i : ∀ v, P v → R v) : Does m R := fun c hc => (h c hc).mono fun v c' q => ⟨i v q.1, q.2⟩
theorem Does.pure {a : α} {P : α → Prop} (h : P a) : Does (Pure.pure a) P := fun c hc => ⟨h, hc⟩
theorem Does.bind {m : M α} {f : α → M β} {P : α → Prop} {Q : β → Prop} (h : Does m P) (i : ∀ v, P v → Does (f v) Q) : Does (m >>= f) Q := fun c hc =>
  (h c hc).seq fun v c' q => i v q.1 c' q.2
theorem Does.iff_pure {a : α} {P : α → Prop} : Does (Pure.pure a) P ↔ P a := ⟨fun h => (h [.int 0, .int 0] ⟨0, 0, rfl⟩).1, Does.pure⟩
theorem Does.of_eq {m : M α} {a : α} {P : α → Prop} (e : m = Pure.pure a) (h : P a) : Does m P := e ▸ Does.pure h
/-- a comprehension without a draw -/
theorem flatM_pure {f : PV → M (List PV)} {g : PV → List PV} : ∀ {xs : List PV}, (∀ x ∈ xs, f x = Pure.pure (g x)) → flatM f xs = Pure.pure (xs.flatMap g)
  | [], _ => rfl
  | x :: xs, h => by
    unfold flatM
    rw [h x List.mem_cons_self, pure_bind, flatM_pure fun y hy => h y (List.mem_cons_of_mem _ hy), pure_bind, List.flatMap_cons]
theorem flatM_map {f : PV → M (List PV)} {g : PV → PV} {xs : List PV} (h : ∀ x ∈ xs, f x = Pure.pure [g x]) : flatM f xs = Pure.pure (xs.map g) := by
  rw [flatM_pure h]
  congr 1
  induction xs with
  | nil => rfl
  | cons x xs ih => rw [List.flatMap_cons, List.map_cons, ih fun y hy => h y (List.mem_cons_of_mem _ hy)]; rfl
theorem flatM_filter {f : PV → M (List PV)} {g : PV → PV} {b : PV → Bool} {xs : List PV} (h : ∀ x ∈ xs, f x = Pure.pure (if b x then [g x] else [])) : flatM f xs = Pure.pure ((xs.filter b).map g) := by
  rw [flatM_pure h]
  congr 1
  clear h
  induction xs with
  | nil => rfl
  | cons x xs ih =>
    rw [List.flatMap_cons, ih]
    by_cases e : b x = true
    · rw [if_pos e, List.filter_cons_of_pos e]; rfl
    · rw [if_neg e, List.filter_cons_of_neg e]; rfl
/-- a comprehension that draws -/
theorem flatM_does {f : PV → M (List PV)} {P : PV → Prop} : ∀ {xs : List PV}, (∀ x ∈ xs, Does (f x) fun l => ∃ v, l = [v] ∧ P v) → Does (flatM f xs) fun l => l.length = xs.length ∧ ∀ v ∈ l, P v
  | [], _ => Does.pure ⟨rfl, fun _ h => nomatch h⟩
  | x :: xs, h => by
    unfold flatM
    refine Does.bind (h x List.mem_cons_self) fun l hl => ?_
    obtain ⟨v, rfl, hv⟩ := hl
    refine Does.bind (flatM_does fun y hy => h y (List.mem_cons_of_mem _ hy)) fun r hr => Does.pure ⟨?_, fun u hu => ?_⟩
    · show ([v] ++ r).length = (x :: xs).length
      simp only [List.length_append, hr.1, List.length_cons, List.length_nil]
      omega
    · rcases List.mem_append.mp hu with q | q
      · rw [List.mem_singleton.mp q]; exact hv
      · exact hr.2 u q
/-- a loop that goes to its end, with an invariant -/
theorem forL_inv {f : PV → Ev → M Out} (I : Nat → Ev → Prop) : ∀ {xs : List PV} {k : Nat} {env : Ev}, I k env → (∀ (i : Nat) x e, xs[i]? = some x → I (k + i) e → Does (f x e) fun o => ∃ e', (o = .next e' ∨ o = .cnt e') ∧ I (k + i + 1) e') →
    Does (forL f xs env) fun o => ∃ e', o = .next e' ∧ I (k + xs.length) e'
  | [], k, env, h, _ => Does.pure ⟨env, rfl, h⟩
  | x :: xs, k, env, h, st => by
    unfold forL
    refine Does.bind (st 0 x env rfl h) fun o ho => ?_
    obtain ⟨e', ho, he⟩ := ho
    have go : Does (forL f xs e') fun o => ∃ e'', o = .next e'' ∧ I (k + (x :: xs).length) e'' := by
      have q := forL_inv I (xs := xs) (k := k + 1) (env := e') he fun i y e hi hI => by
        have w := st (i + 1) y e (by rw [List.getElem?_cons_succ]; exact hi) (by rw [show k + (i + 1) = k + 1 + i by omega]; exact hI)
        rw [show k + (i + 1) + 1 = k + 1 + i + 1 by omega] at w
        exact w
      rw [show k + 1 + xs.length = k + (x :: xs).length by rw [List.length_cons]; omega] at q
      exact q
    rcases ho with rfl | rfl <;> exact go
/-- a loop of which no turn leaves, with an invariant that does not count -/
theorem forL_same {f : PV → Ev → M Out} (I : Ev → Prop) {xs : List PV} {env : Ev} (h : I env) (st : ∀ x ∈ xs, ∀ e, I e → Does (f x e) fun o => ∃ e', (o = .next e' ∨ o = .cnt e') ∧ I e') :
    Does (forL f xs env) fun o => ∃ e', o = .next e' ∧ I e' :=
  forL_inv (k := 0) (fun _ => I) h fun i x e hi hI => st x (List.mem_of_getElem? hi) e hI

/-! ### the words, read one by one -/
theorem getP_v {v : PV} {e : Ev} : getP (.val v :: e) 0 = Pure.pure v := rfl
theorem getP_o {v : PV} {e : Ev} : getP (.own v :: e) 0 = Pure.pure v := rfl
theorem getP_s {s : Slot} {e : Ev} {i : Nat} : getP (s :: e) (i + 1) = getP e i := rfl
theorem getV_v {v : PV} {e : Ev} : getV (.val v :: e) 0 = Pure.pure v := rfl
theorem getV_s {s : Slot} {e : Ev} {i : Nat} : getV (s :: e) (i + 1) = getV e i := rfl
theorem truM_b {b : Bool} : truM (.bl b) = Pure.pure b := rfl
theorem truM_n : truM .non = Pure.pure false := rfl
theorem truM_i {i : Int} : truM (.int i) = Pure.pure (i != 0) := rfl
theorem truM_s {l : List Nat} : truM (.str l) = Pure.pure (!l.isEmpty) := rfl
theorem truM_l {l : List PV} : truM (.lst l) = Pure.pure (!l.isEmpty) := rfl
theorem truM_t {l : List PV} : truM (.tup l) = Pure.pure (!l.isEmpty) := rfl
theorem optM_s {α : Type} {a : α} : optM (some a) = Pure.pure a := rfl
theorem lenV_l {l : List PV} : lenV (.lst l) = Pure.pure (.int l.length) := rfl
theorem lenV_t {l : List PV} : lenV (.tup l) = Pure.pure (.int l.length) := rfl
theorem lenV_s {l : List Nat} : lenV (.str l) = Pure.pure (.int l.length) := rfl
theorem seqOf_l {l : List PV} : seqOf (.lst l) = some l := rfl
theorem seqOf_t {l : List PV} : seqOf (.tup l) = some l := rfl
theorem seqOf_s {l : List Nat} : seqOf (.str l) = some (l.map fun c => .str [c]) := rfl
theorem out_ret {v : PV} : outV (.ret v) = Pure.pure v := rfl
theorem out_next {e : Ev} : outV (.next e) = Pure.pure .non := rfl
theorem add_i {i j : Int} : addV (.int i) (.int j) = Pure.pure (.int (i + j)) := rfl
theorem sub_i {i j : Int} : subV (.int i) (.int j) = Pure.pure (.int (i - j)) := rfl
theorem int_i {i : Int} : intV (.int i) = Pure.pure (.int i) := rfl
theorem cmp_lt {i j : Int} : cmpM .lt (.int i) (.int j) = Pure.pure (decide (i < j)) := rfl
theorem cmp_le {i j : Int} : cmpM .le (.int i) (.int j) = Pure.pure (decide (i ≤ j)) := rfl
theorem cmp_gt {i j : Int} : cmpM .gt (.int i) (.int j) = Pure.pure (decide (j < i)) := rfl
theorem cmp_ge {i j : Int} : cmpM .ge (.int i) (.int j) = Pure.pure (decide (j ≤ i)) := rfl
theorem cmp_eq {a b : PV} : cmpM .eq a b = eqM a b := rfl
theorem cmp_ne {a b : PV} : cmpM .ne a b = (eqM a b >>= fun r => Pure.pure (!r)) := rfl
theorem cmp_is {a b : PV} : cmpM .is a b = isM a b := rfl
theorem cmp_in {a b : PV} : cmpM .isin a b = inM a b := rfl
theorem cmp_nin {a b : PV} : cmpM .notin a b = (inM a b >>= fun r => Pure.pure (!r)) := rfl
theorem slot_cell {e : Ev} : slotOk (.val .cell :: e) 0 = true := rfl
theorem slot_ol {l : List PV} {e : Ev} : slotOk (.own (.lst l) :: e) 0 = true := rfl
theorem slot_s {s : Slot} {i : Nat} {e : Ev} : slotOk (s :: e) (i + 1) = slotOk e i := rfl
theorem rec_join {l : List Nat} : recvOk .join (.str l) = true := rfl
theorem rec_sw {l : List Nat} : recvOk .startswith (.str l) = true := rfl
theorem rec_ew {l : List Nat} : recvOk .endswith (.str l) = true := rfl
theorem rec_count {l : List Nat} : recvOk .count (.str l) = true := rfl
theorem rec_index {l : List Nat} : recvOk .index (.str l) = true := rfl
theorem rec_indexl {l : List PV} : recvOk .index (.lst l) = true := rfl
theorem rec_get {l : List (PV × PV)} : recvOk .get (.dict l) = true := rfl
theorem guard_t : guardM true = Pure.pure () := rfl
theorem asg_nm {i : Nat} {v : PV} {e : Ev} : asgT (.nm i) v e = Pure.pure (e.set i (.val v)) := rfl
theorem asg_t0 {e : Ev} : asgT (.tup []) (.tup []) e = Pure.pure e := rfl
theorem asg_t2 {i j : Nat} {u v : PV} {e : Ev} : asgT (.tup [.nm i, .nm j]) (.tup [u, v]) e = Pure.pure ((e.set i (.val u)).set j (.val v)) := rfl
theorem isTy_int_int {i : Int} : isTy (.int i) .int = some true := rfl
theorem isTy_int_str {i : Int} : isTy (.int i) .str = some false := rfl
theorem isTy_int_bool {i : Int} : isTy (.int i) .bool = some false := rfl
theorem isTy_int_tuple {i : Int} : isTy (.int i) .tuple = some false := rfl
theorem isTy_int_list {i : Int} : isTy (.int i) .list = some false := rfl
theorem isTy_bl_int {i : Bool} : isTy (.bl i) .int = some true := rfl
theorem isTy_bl_str {i : Bool} : isTy (.bl i) .str = some false := rfl
theorem isTy_bl_bool {i : Bool} : isTy (.bl i) .bool = some true := rfl
theorem isTy_bl_tuple {i : Bool} : isTy (.bl i) .tuple = some false := rfl
theorem isTy_bl_list {i : Bool} : isTy (.bl i) .list = some false := rfl
theorem isTy_str_int {i : List Nat} : isTy (.str i) .int = some false := rfl
theorem isTy_str_str {i : List Nat} : isTy (.str i) .str = some true := rfl
theorem isTy_str_bool {i : List Nat} : isTy (.str i) .bool = some false := rfl
theorem isTy_str_tuple {i : List Nat} : isTy (.str i) .tuple = some false := rfl
theorem isTy_str_list {i : List Nat} : isTy (.str i) .list = some false := rfl
theorem isTy_tup_int {i : List PV} : isTy (.tup i) .int = some false := rfl
theorem isTy_tup_str {i : List PV} : isTy (.tup i) .str = some false := rfl
theorem isTy_tup_bool {i : List PV} : isTy (.tup i) .bool = some false := rfl
theorem isTy_tup_tuple {i : List PV} : isTy (.tup i) .tuple = some true := rfl
theorem isTy_tup_list {i : List PV} : isTy (.tup i) .list = some false := rfl
theorem isTy_lst_int {i : List PV} : isTy (.lst i) .int = some false := rfl
theorem isTy_lst_str {i : List PV} : isTy (.lst i) .str = some false := rfl
theorem isTy_lst_bool {i : List PV} : isTy (.lst i) .bool = some false := rfl
theorem isTy_lst_tuple {i : List PV} : isTy (.lst i) .tuple = some false := rfl
theorem isTy_lst_list {i : List PV} : isTy (.lst i) .list = some true := rfl
theorem isTy_dict_int {i : List (PV × PV)} : isTy (.dict i) .int = some false := rfl
theorem isTy_dict_str {i : List (PV × PV)} : isTy (.dict i) .str = some false := rfl
theorem isTy_dict_bool {i : List (PV × PV)} : isTy (.dict i) .bool = some false := rfl
theorem isTy_dict_tuple {i : List (PV × PV)} : isTy (.dict i) .tuple = some false := rfl
theorem isTy_dict_list {i : List (PV × PV)} : isTy (.dict i) .list = some false := rfl
theorem isTy_non_int : isTy .non .int = some false := rfl
theorem isTy_non_str : isTy .non .str = some false := rfl
theorem isTy_non_bool : isTy .non .bool = some false := rfl
theorem isTy_non_tuple : isTy .non .tuple = some false := rfl
theorem isTy_non_list : isTy .non .list = some false := rfl
theorem ownD_int {i : Int} {k : Nat} {e : Ev} (h : e[k]? = some (.val (.int i))) : ownD e (.peek k) = false := by simp only [ownD, h]
theorem ownD_bl {i : Bool} {k : Nat} {e : Ev} (h : e[k]? = some (.val (.bl i))) : ownD e (.peek k) = false := by simp only [ownD, h]
theorem ownD_str {i : List Nat} {k : Nat} {e : Ev} (h : e[k]? = some (.val (.str i))) : ownD e (.peek k) = false := by simp only [ownD, h]
theorem ownD_tup {i : List PV} {k : Nat} {e : Ev} (h : e[k]? = some (.val (.tup i))) : ownD e (.peek k) = false := by simp only [ownD, h]
theorem ownD_lst {i : List PV} {k : Nat} {e : Ev} (h : e[k]? = some (.val (.lst i))) : ownD e (.peek k) = false := by simp only [ownD, h]
theorem ownD_ol {i : List PV} {k : Nat} {e : Ev} (h : e[k]? = some (.own (.lst i))) : ownD e (.peek k) = false := by simp only [ownD, h]
end EV

set_option maxRecDepth 100000
namespace EV
open PySem
/-- the table has this def: so many parameters, so many names, this body -/
def Fn (G : Tab) (f : Str) (np len : Nat) (body : List CS) : Prop := ∃ N, G.lookup f = some ⟨np, N, body⟩ ∧ N.length = len
theorem Fn.at {G : Tab} {f : Str} {np len : Nat} {body : List CS} (h : Fn G f np len body) (n : Nat) (vs : List PV) (hl : vs.length = np) : evalF G (n + 1) f vs = (evalB (evalF G n) body (vs.map .val ++ List.replicate (len - vs.length) .no) >>= outV) := by
  obtain ⟨N, h, rfl⟩ := h
  show (match G.lookup f with | some cf => runF (evalF G n) cf vs | none => fail) = _
  rw [h]
  show (if vs.length = np then _ else fail) = _
  rw [if_pos hl]
  rfl
def tupB : List CS := [.ret (.and (.isi (.peek 0) .tuple) (.cmp2 .le .le (.peek 1) (.blt .len [(.peek 0)]) (.peek 2)))]
def wholeB : List CS := [.ret (.and (.isi (.peek 0) .int) (.and (.not (.isi (.peek 0) .bool)) (.cmp2 .le .le (.peek 1) (.peek 0) (.peek 2))))]
def letsB : List CS := [.ret (.and (.isi (.peek 0) .str) (.and (.cmp2 .le .le (.peek 2) (.blt .len [(.peek 0)]) (.peek 3)) (.blt .all [(.comp (.cmp .isin (.peek 4) (.slc (.glb "LETTERS" (.str [97, 98, 99, 100])) none (some (.peek 1)))) [4] (.mk (.nm 4) (.seq (.peek 0)) []) [])])))]
local macro_rules | `(tactic| walk_at "evs1") => `(tactic| simp only [evalB, evalS, evalE, evalEs, evalO, evalIt, evalIfs, partM, getP_v, getP_o, getP_s, getV_v, getV_s, truM_b, truM_n, truM_i, truM_s, truM_l, truM_t, optM_s, lenV_l, lenV_t, lenV_s, seqOf_l, seqOf_t, seqOf_s, out_ret, out_next, add_i, sub_i, int_i, cmp_lt, cmp_le, cmp_gt, cmp_ge, cmp_eq, cmp_ne, cmp_is, cmp_in, cmp_nin, slot_cell, slot_ol, slot_s, rec_join, rec_sw, rec_ew, rec_count, rec_index, rec_indexl, rec_get, guard_t, asg_nm, asg_t0, asg_t2, ownD, pure_bind, bind_assoc, bltV, blt1, blt2, binV, isTy_int_int, isTy_int_str, isTy_int_bool, isTy_int_tuple, isTy_int_list, isTy_bl_int, isTy_bl_str, isTy_bl_bool, isTy_bl_tuple, isTy_bl_list, isTy_str_int, isTy_str_str, isTy_str_bool, isTy_str_tuple, isTy_str_list, isTy_tup_int, isTy_tup_str, isTy_tup_bool, isTy_tup_tuple, isTy_tup_list, isTy_lst_int, isTy_lst_str, isTy_lst_bool, isTy_lst_tuple, isTy_lst_list, isTy_dict_int, isTy_dict_str, isTy_dict_bool, isTy_dict_tuple, isTy_dict_list, isTy_non_int, isTy_non_str, isTy_non_bool, isTy_non_tuple, isTy_non_list, List.getElem?_cons_zero, List.getElem?_cons_succ, List.getElem?_nil, if_true, if_false, ↓reduceIte, Bool.false_eq_true, Bool.not_true, Bool.not_false, List.map_cons, List.map_nil, List.length_cons, List.length_nil, Nat.reduceSub, Nat.reduceAdd, List.replicate_succ, List.replicate_zero, wipeE, List.set_cons_zero, List.set_cons_succ, List.set_nil, List.cons_append, List.nil_append])
local macro_rules | `(tactic| walk_at "evs") => `(tactic| try walk_at "evs1")
theorem is_tuple_of {G : Tab} (h : Fn G "is_tuple_of" 3 3 tupB) (n : Nat) (l : List PV) (lo hi : Int) (h1 : lo ≤ l.length) (h2 : (l.length : Int) ≤ hi) :
    evalF G (n + 1) "is_tuple_of" [.tup l, .int lo, .int hi] = pure (.bl true) := by
  rw [h.at _ _ rfl]
  unfold tupB
  walk_at "evs"
  simp [h1, h2]
theorem fits_whole {G : Tab} (h : Fn G "fits_whole" 3 3 wholeB) (n : Nat) (i : Int) (lo hi : Int) (h1 : lo ≤ i) (h2 : i ≤ hi) :
    evalF G (n + 1) "fits_whole" [.int i, .int lo, .int hi] = pure (.bl true) := by
  rw [h.at _ _ rfl]
  unfold wholeB
  walk_at "evs"
  simp [h1, h2]

theorem subL_one (c : Nat) (s : List Nat) (i : Nat) : subL [c] s i = (s[i]? == some c) := by
  unfold subL
  rw [List.length_singleton]
  cases h : s[i]? with
  | none =>
    rw [List.drop_eq_nil_of_le (List.getElem?_eq_none_iff.mp h)]
    rfl
  | some a =>
    obtain ⟨hi, e⟩ := List.getElem?_eq_some_iff.mp h
    rw [List.drop_eq_getElem_cons hi, e]
    show ([a] == [c]) = (some a == some c)
    simp
theorem isInfix_one {c : Nat} {s : List Nat} : isInfix [c] s = decide (c ∈ s) := by
  unfold isInfix
  rw [Bool.eq_iff_iff, List.any_eq_true, decide_eq_true_eq, List.mem_iff_getElem?]
  constructor
  · rintro ⟨i, -, h⟩
    rw [subL_one] at h
    exact ⟨i, eq_of_beq h⟩
  · rintro ⟨i, h⟩
    refine ⟨i, List.mem_range.mpr (Nat.lt_succ_of_lt (List.getElem?_eq_some_iff.mp h).1), ?_⟩
    rw [subL_one, h]
    exact beq_self_eq_true _
/-- the first n letters -/
def Let (n : Nat) : List Nat := [97, 98, 99, 100].take n
/-- a word of the first n letters -/
def Wrd (n : Nat) (w : List Nat) : Prop := ∀ c ∈ w, c ∈ Let n
theorem cut_take {α : Type} (l : List α) (n : Nat) : cut l none (some (n : Int)) = l.take n := by
  unfold cut clip
  simp only [show ¬ ((n : Int) < 0) by omega, if_false, Int.toNat_natCast, List.drop_zero, Nat.sub_zero]
  rw [List.take_eq_take_iff]
  omega
theorem boolsOf_true {α : Type} (l : List α) : boolsOf (l.map fun _ => PV.bl true) = some (l.map fun _ => true) := by
  induction l with
  | nil => rfl
  | cons a l ih =>
    show (boolsOf (l.map fun _ => PV.bl true)).map (true :: ·) = _
    rw [ih]
    rfl
theorem allV_true {α : Type} (l : List α) : allV (.lst (l.map fun _ => PV.bl true)) = pure (.bl true) := by
  show (do let bs ← optM (boolsOf (l.map fun _ => PV.bl true)); pure (.bl (bs.all id)) : M PV) = _
  rw [boolsOf_true]
  show (pure (.bl ((l.map fun _ => true).all id)) : M PV) = _
  congr 2
  rw [List.all_map, List.all_eq_true]
  exact fun _ _ => rfl
theorem fits_letters {G : Tab} (h : Fn G "fits_letters" 4 5 letsB) (n : Nat) (w : List Nat) (size : Nat) (lo hi : Int) (hw : Wrd size w) (h1 : lo ≤ w.length) (h2 : (w.length : Int) ≤ hi) :
    evalF G (n + 1) "fits_letters" [.str w, .int size, .int lo, .int hi] = pure (.bl true) := by
  rw [h.at _ _ rfl]
  unfold letsB
  walk_at "evs"
  simp [h1, h2]
  rw [flatM_map (g := fun _ => .bl true)]
  · exact allV_true _
  · intro x hx
    obtain ⟨c, hc, rfl⟩ := List.mem_map.mp hx
    have e : slcV (.str [97, 98, 99, 100]) none (some (size : Int)) = pure (.str (Let size)) := by
      show (pure (.str (cut [97, 98, 99, 100] none (some (size : Int)))) : M PV) = _
      rw [cut_take]
      rfl
    rw [e, pure_bind]
    show (fun a => [PV.bl a]) <$> (pure (isInfix [c] (Let size)) : M Bool) = _
    rw [map_pure, isInfix_one, decide_eq_true (hw c hc)]

def ruleB : List CS := [.ifs (.or (.not (.call "is_tuple_of" [(.var 1), (.cst (.int 2)), (.cst (.int 2))])) (.not (.call "fits_letters" [(.idx (.peek 1) (.cst (.int 0))), (.var 0), (.cst (.int 1)), (.glb "SIDE" (.int 6))]))) [.ret (.cst (.bl false))] [],
  .ret (.and (.call "fits_letters" [(.idx (.peek 1) (.cst (.int 1))), (.var 0), (.cst (.int 0)), (.glb "SIDE" (.int 6))]) (.cmp .ne (.idx (.peek 1) (.cst (.int 0))) (.idx (.peek 1) (.cst (.int 1)))))]
def fsysB : List CS := [.ifs (.or (.not (.call "is_tuple_of" [(.var 0), (.cst (.int 2)), (.cst (.int 2))])) (.not (.call "fits_whole" [(.idx (.peek 0) (.glb "SIZE" (.int 0))), (.cst (.int 1)), (.blt .len [(.glb "LETTERS" (.str [97, 98, 99, 100]))])]))) [.ret (.cst (.bl false))] [],
  .asg (.tup [(.nm 1), (.nm 2)]) (.var 0),
  .ifs (.or (.not (.call "is_tuple_of" [(.var 2), (.cst (.int 1)), (.glb "MOST_RULES" (.int 8))])) (.not (.blt .all [(.comp (.call "fits_rule" [(.var 1), (.var 3)]) [3] (.mk (.nm 3) (.seq (.peek 2)) []) [])]))) [.ret (.cst (.bl false))] [],
  .ret (.cmp .eq (.blt .lenset [(.peek 2)]) (.blt .len [(.peek 2)]))]
def nsysB : List CS := [.ifs (.not (.call "fits_system" [(.var 0)])) [.raise "InvalidSystem" [(.cst (.str [110, 111, 116, 32, 97, 32, 115, 121, 115, 116, 101, 109]))]] []]
def nwordB : List CS := [.ifs (.not (.call "fits_letters" [(.var 1), (.idx (.peek 0) (.glb "SIZE" (.int 0))), (.cst (.int 0)), (.glb "LONG" (.int 60))])) [.raise "InvalidWord" [(.cst (.str [110, 111, 116, 32, 97, 32, 119, 111, 114, 100, 32, 111, 102, 32, 116, 104, 101, 32, 115, 121, 115, 116, 101, 109]))]] []]
def nbothB : List CS := [.expr (.call "need_system" [(.var 0)]),
  .expr (.call "need_word" [(.var 0), (.var 1)])]
abbrev Rl := List Nat × List Nat
def rP (r : Rl) : PV := .tup [.str r.1, .str r.2]
def sP (n : Nat) (rs : List Rl) : PV := .tup [.int n, .tup (rs.map rP)]
structure Rul (n : Nat) (r : Rl) : Prop where
  wl : Wrd n r.1
  wr : Wrd n r.2
  l1 : 1 ≤ r.1.length
  l6 : r.1.length ≤ 6
  r6 : r.2.length ≤ 6
  ne : r.1 ≠ r.2
structure Sys (n : Nat) (rs : List Rl) : Prop where
  n1 : 1 ≤ n
  n4 : n ≤ 4
  m1 : 1 ≤ rs.length
  m8 : rs.length ≤ 8
  ok : ∀ r ∈ rs, Rul n r
  nd : rs.Nodup
theorem eqM_str (a b : List Nat) : eqM (.str a) (.str b) = pure (a == b) := rfl
theorem eqM_int (a b : Int) : eqM (.int a) (.int b) = pure (a == b) := rfl
theorem atO_nat {α : Type} (l : List α) (k : Nat) : atO l (k : Int) = l[k]? := by
  unfold atO ixOf
  rw [if_pos (Int.natCast_nonneg k)]
  by_cases h : k < l.length
  · rw [if_pos (by omega)]
    rfl
  · rw [if_neg (by omega), List.getElem?_eq_none_iff.mpr (by omega)]
    rfl
theorem idx_tup0 (a : PV) (l : List PV) : idxV (.tup (a :: l)) (.int 0) = pure a := by
  show optM (atO (a :: l) ((0 : Nat) : Int)) = _
  rw [atO_nat]
  rfl
theorem idx_tup1 (a b : PV) (l : List PV) : idxV (.tup (a :: b :: l)) (.int 1) = pure b := by
  show optM (atO (a :: b :: l) ((1 : Nat) : Int)) = _
  rw [atO_nat]
  rfl
theorem fits_rule {G : Tab} (h : Fn G "fits_rule" 2 2 ruleB) (h1 : Fn G "is_tuple_of" 3 3 tupB) (h2 : Fn G "fits_letters" 4 5 letsB) (n : Nat) {k : Nat} {r : Rl} (hr : Rul k r) :
    evalF G (n + 2) "fits_rule" [.int k, rP r] = pure (.bl true) := by
  rw [h.at _ _ rfl]
  unfold ruleB rP
  walk_at "evs"
  have q1 := is_tuple_of h1 n [.str r.1, .str r.2] 2 2 (by simp) (by simp)
  have q2 := fits_letters h2 n r.1 k 1 6 hr.wl (by have := hr.l1; omega) (by have := hr.l6; omega)
  have q3 := fits_letters h2 n r.2 k 0 6 hr.wr (by omega) (by have := hr.r6; omega)
  rw [q1]
  walk_at "evs"
  rw [idx_tup0, pure_bind, q2]
  walk_at "evs"
  rw [idx_tup1, pure_bind, q3]
  walk_at "evs"
  rw [idx_tup0, pure_bind, eqM_str]
  walk_at "evs"
  rw [beq_eq_false_iff_ne.mpr hr.ne]
  rfl
theorem beq_rP (a b : Rl) : PV.beq (rP a) (rP b) = decide (a = b) := by
  obtain ⟨a1, a2⟩ := a
  obtain ⟨b1, b2⟩ := b
  unfold rP
  simp only [PV.beq, PV.beqs, Bool.and_true]
  rw [Bool.eq_iff_iff]
  simp
theorem dedup_nodup : ∀ {rs acc : List Rl}, (acc ++ rs).Nodup → dedup (acc.map rP) (rs.map rP) = (acc ++ rs).map rP
  | [], acc, _ => by rw [List.append_nil]; rfl
  | r :: rs, acc, h => by
    have hn : (acc.map rP).any (PV.beq (rP r)) = false := by
      rw [List.any_map, List.any_eq_false]
      intro x hx
      show ¬ PV.beq (rP r) (rP x) = true
      rw [beq_rP, decide_eq_true_eq]
      rintro rfl
      have := List.nodup_append.mp h
      exact this.2.2 _ hx _ List.mem_cons_self rfl
    have q := dedup_nodup (rs := rs) (acc := acc ++ [r]) (by rw [List.append_assoc]; exact h)
    rw [List.map_cons]
    unfold dedup
    rw [hn, if_neg (by decide)]
    rw [List.map_append, List.append_assoc] at q
    exact q
theorem lenset_rules {rs : List Rl} (h : rs.Nodup) (h8 : rs.length ≤ 8) : lensetV (.tup (rs.map rP)) = pure (.int rs.length) := by
  have e := dedup_nodup (rs := rs) (acc := []) h
  show (if (List.all (rs.map rP) isTupKey && decide ((rs.map rP).length < 64)) = true then _ else _) = _
  rw [if_pos]
  · show (pure (.int (dedup [] (rs.map rP)).length) : M PV) = _
    rw [show dedup [] (rs.map rP) = rs.map rP from e, List.length_map]
  · rw [List.length_map, Bool.and_eq_true, List.all_map, List.all_eq_true, decide_eq_true_eq]
    exact ⟨fun _ _ => rfl, by omega⟩
theorem fits_system {G : Tab} (h : Fn G "fits_system" 1 4 fsysB) (h0 : Fn G "fits_rule" 2 2 ruleB) (h1 : Fn G "is_tuple_of" 3 3 tupB) (h2 : Fn G "fits_letters" 4 5 letsB) (h3 : Fn G "fits_whole" 3 3 wholeB) (n : Nat) {k : Nat} {rs : List Rl} (hs : Sys k rs) :
    evalF G (n + 3) "fits_system" [sP k rs] = pure (.bl true) := by
  rw [h.at _ _ rfl]
  unfold fsysB sP
  walk_at "evs"
  have q1 := is_tuple_of h1 (n + 1) [.int k, .tup (rs.map rP)] 2 2 (by simp) (by simp)
  have q2 := fits_whole h3 (n + 1) k 1 4 (by have := hs.n1; omega) (by have := hs.n4; omega)
  have q3 := is_tuple_of h1 (n + 1) (rs.map rP) 1 8 (by have := hs.m1; rw [List.length_map]; omega) (by have := hs.m8; rw [List.length_map]; omega)
  rw [q1]
  walk_at "evs"
  rw [idx_tup0, pure_bind]
  rw [show ((4 : Nat) : Int) = 4 from rfl, q2]
  walk_at "evs"
  rw [q3]
  walk_at "evs"
  rw [flatM_map (g := fun _ => .bl true)]
  · walk_at "evs"
    rw [allV_true]
    walk_at "evs"
    rw [lenset_rules hs.nd hs.m8]
    walk_at "evs"
    rw [eqM_int, List.length_map]
    walk_at "evs"
    rw [beq_self_eq_true]
  · intro x hx
    obtain ⟨r, hr, rfl⟩ := List.mem_map.mp hx
    rw [fits_rule h0 h1 h2 n (hs.ok r hr)]
    rfl
structure Base (G : Tab) : Prop where
  tup : Fn G "is_tuple_of" 3 3 tupB
  whole : Fn G "fits_whole" 3 3 wholeB
  lets : Fn G "fits_letters" 4 5 letsB
  rule : Fn G "fits_rule" 2 2 ruleB
  sys : Fn G "fits_system" 1 4 fsysB
theorem need_system {G : Tab} (B : Base G) (h : Fn G "need_system" 1 1 nsysB) (n : Nat) {k : Nat} {rs : List Rl} (hs : Sys k rs) :
    evalF G (n + 4) "need_system" [sP k rs] = pure .non := by
  rw [h.at _ _ rfl]
  unfold nsysB
  walk_at "evs"
  rw [fits_system B.sys B.rule B.tup B.lets B.whole n hs]
  walk_at "evs"
theorem need_word {G : Tab} (B : Base G) (h : Fn G "need_word" 2 2 nwordB) (n : Nat) {k : Nat} {rs : List Rl} {w : List Nat} (hw : Wrd k w) (h60 : w.length ≤ 60) :
    evalF G (n + 2) "need_word" [sP k rs, .str w] = pure .non := by
  rw [h.at _ _ rfl]
  unfold nwordB sP
  walk_at "evs"
  rw [idx_tup0, pure_bind, fits_letters B.lets n w k 0 60 hw (by omega) (by omega)]
  walk_at "evs"
theorem need_both {G : Tab} (B : Base G) (h : Fn G "need_both" 2 2 nbothB) (h1 : Fn G "need_system" 1 1 nsysB) (h2 : Fn G "need_word" 2 2 nwordB) (n : Nat) {k : Nat} {rs : List Rl} {w : List Nat} (hs : Sys k rs) (hw : Wrd k w) (h60 : w.length ≤ 60) :
    evalF G (n + 5) "need_both" [sP k rs, .str w] = pure .non := by
  rw [h.at _ _ rfl]
  unfold nbothB
  walk_at "evs"
  rw [need_system B h1 n hs]
  walk_at "evs"
  rw [need_word B h2 (n + 2) hw h60]
  walk_at "evs"
end EV

set_option maxRecDepth 100000
/-! EvQ: the program's words. -/
namespace EV
open PySem
local macro_rules | `(tactic| walk_at "evs1") => `(tactic| simp only [evalB, evalS, evalE, evalEs, evalO, evalIt, evalIfs, partM, getP_v, getP_o, getP_s, getV_v, getV_s, truM_b, truM_n, truM_i, truM_s, truM_l, truM_t, optM_s, lenV_l, lenV_t, lenV_s, seqOf_l, seqOf_t, seqOf_s, out_ret, out_next, add_i, sub_i, int_i, cmp_lt, cmp_le, cmp_gt, cmp_ge, cmp_eq, cmp_ne, cmp_is, cmp_in, cmp_nin, slot_cell, slot_ol, slot_s, rec_join, rec_sw, rec_ew, rec_count, rec_index, rec_indexl, rec_get, guard_t, asg_nm, asg_t0, asg_t2, ownD, pure_bind, bind_assoc, bltV, blt1, blt2, binV, isTy_int_int, isTy_int_str, isTy_int_bool, isTy_int_tuple, isTy_int_list, isTy_bl_int, isTy_bl_str, isTy_bl_bool, isTy_bl_tuple, isTy_bl_list, isTy_str_int, isTy_str_str, isTy_str_bool, isTy_str_tuple, isTy_str_list, isTy_tup_int, isTy_tup_str, isTy_tup_bool, isTy_tup_tuple, isTy_tup_list, isTy_lst_int, isTy_lst_str, isTy_lst_bool, isTy_lst_tuple, isTy_lst_list, isTy_dict_int, isTy_dict_str, isTy_dict_bool, isTy_dict_tuple, isTy_dict_list, isTy_non_int, isTy_non_str, isTy_non_bool, isTy_non_tuple, isTy_non_list, List.getElem?_cons_zero, List.getElem?_cons_succ, List.getElem?_nil, if_true, if_false, ↓reduceIte, Bool.false_eq_true, Bool.not_true, Bool.not_false, List.map_cons, List.map_nil, List.length_cons, List.length_nil, Nat.reduceSub, Nat.reduceAdd, List.replicate_succ, List.replicate_zero, wipeE, List.set_cons_zero, List.set_cons_succ, List.set_nil, List.cons_append, List.nil_append])
local macro_rules | `(tactic| walk_at "evs") => `(tactic| try walk_at "evs1")
theorem flatM_over {α : Type} {f : PV → M (List PV)} {inj : α → PV} {g : α → List PV} : ∀ {xs : List α}, (∀ a ∈ xs, f (inj a) = pure (g a)) → flatM f (xs.map inj) = pure (xs.flatMap g)
  | [], _ => rfl
  | x :: xs, h => by
    rw [List.map_cons]
    unfold flatM
    rw [h x List.mem_cons_self, pure_bind, flatM_over fun y hy => h y (List.mem_cons_of_mem _ hy), pure_bind, List.flatMap_cons]
theorem flatM_overM {α : Type} {f : PV → M (List PV)} {inj : α → PV} {g : α → PV} {xs : List α} (h : ∀ a ∈ xs, f (inj a) = pure [g a]) : flatM f (xs.map inj) = pure (xs.map g) := by
  rw [flatM_over h]
  congr 1
  clear h
  induction xs with
  | nil => rfl
  | cons x xs ih => rw [List.flatMap_cons, ih]; rfl
theorem flatM_overF {α : Type} {f : PV → M (List PV)} {inj : α → PV} {b : α → Bool} {g : α → PV} {xs : List α} (h : ∀ a ∈ xs, f (inj a) = pure (if b a then [g a] else [])) : flatM f (xs.map inj) = pure ((xs.filter b).map g) := by
  rw [flatM_over h]
  congr 1
  clear h
  induction xs with
  | nil => rfl
  | cons x xs ih =>
    rw [List.flatMap_cons, ih]
    by_cases e : b x = true
    · rw [if_pos e, List.filter_cons_of_pos e]; rfl
    · rw [if_neg e, List.filter_cons_of_neg e]; rfl
theorem rng1 {j : Int} {n : Nat} (h : j.toNat = n) (h1 : -1000000 ≤ j) (h2 : j ≤ 1000000) : rngM [.int j] = pure ((List.range n).map fun (k : Nat) => .int k) := by
  show (if (decide (-(2 ^ 62) ≤ j) && decide (j ≤ LINE)) = true then _ else _) = _
  rw [if_pos, h]
  rw [Bool.and_eq_true, decide_eq_true_eq, decide_eq_true_eq]
  have : (LINE : Int) = 16777216 := rfl
  omega
theorem cut_nat {α : Type} (l : List α) (a b : Nat) : cut l (some (a : Int)) (some (b : Int)) = (l.drop a).take (b - a) := by
  unfold cut clip
  simp only [show ¬ ((a : Int) < 0) by omega, show ¬ ((b : Int) < 0) by omega, if_false, Int.toNat_natCast]
  by_cases h : a ≤ l.length
  · rw [Nat.min_eq_left h, List.take_eq_take_iff, List.length_drop]
    omega
  · rw [List.drop_eq_nil_of_le (by omega), List.drop_eq_nil_of_le (by omega)]
    simp
theorem slc_s {w : List Nat} {a b : Nat} : slcV (.str w) (some (a : Int)) (some (b : Int)) = pure (.str ((w.drop a).take (b - a))) := by
  show (pure (.str (cut w (some (a : Int)) (some (b : Int)))) : M PV) = _
  rw [cut_nat]
def placesB : List CS := [.ret (.comp (.var 2) [2] (.mk (.nm 2) (.rng [(.bin .add (.bin .sub (.blt .len [(.peek 1)]) (.blt .len [(.peek 0)])) (.cst (.int 1)))]) [(.cmp .eq (.slc (.peek 1) (some (.peek 2)) (some (.bin .add (.peek 2) (.blt .len [(.peek 0)])))) (.peek 0))]) [])]
/-- where p stands in w -/
def places (p w : List Nat) : List Nat := (List.range (w.length + 1 - p.length)).filter fun k => (w.drop k).take p.length == p
def natsP (l : List Nat) : List PV := l.map fun (k : Nat) => .int k
theorem places_in {G : Tab} (h : Fn G "places_in" 2 3 placesB) (n : Nat) (p w : List Nat) (hp : p.length ≤ 100000) (hw : w.length ≤ 100000) :
    evalF G (n + 1) "places_in" [.str p, .str w] = pure (.lst (natsP (places p w))) := by
  rw [h.at _ _ rfl]
  unfold placesB
  walk_at "evs"
  rw [rng1 (n := w.length + 1 - p.length) (by omega) (by omega) (by omega)]
  walk_at "evs"
  rw [flatM_overF (b := fun k => (w.drop k).take p.length == p) (g := fun (k : Nat) => .int k)]
  · walk_at "evs"
    rfl
  · intro k hk
    walk_at "evs"
    rw [show ((k : Int) + (p.length : Int)) = ((k + p.length : Nat) : Int) by omega, slc_s]
    walk_at "evs"
    rw [eqM_str, show k + p.length - k = p.length by omega]
    walk_at "evs"
    split <;> rfl

def placesOfB : List CS := [.expr (.call "need_both" [(.var 0), (.var 1)]),
  .ifs (.not (.call "fits_whole" [(.var 2), (.cst (.int 0)), (.bin .sub (.blt .len [(.idx (.peek 0) (.glb "RULES" (.int 1)))]) (.cst (.int 1)))])) [.raise "InvalidNumber" [(.cst (.str [110, 111, 116, 32, 97, 32, 114, 117, 108, 101]))]] [],
  .ret (.blt .tuple [(.call "places_in" [(.idx (.idx (.idx (.peek 0) (.glb "RULES" (.int 1))) (.peek 2)) (.cst (.int 0))), (.var 1)])])]
def lettersB : List CS := [.ifs (.not (.call "fits_letters" [(.var 0), (.blt .len [(.glb "LETTERS" (.str [97, 98, 99, 100]))]), (.cst (.int 0)), (.glb "LONG" (.int 60))])) [.raise "InvalidWord" [(.cst (.str [110, 111, 116, 32, 97, 32, 119, 111, 114, 100]))]] [],
  .ret (.blt .tuple [(.comp (.mth .count (.peek 0) [(.var 1)]) [1] (.mk (.nm 1) (.seq (.glb "LETTERS" (.str [97, 98, 99, 100]))) []) [])])]
def insideB : List CS := [.fors (.nm 2) (.seq (.tup [(.var 0), (.var 1)])) [.ifs (.not (.call "fits_letters" [(.var 2), (.blt .len [(.glb "LETTERS" (.str [97, 98, 99, 100]))]), (.cst (.int 0)), (.glb "LONG" (.int 60))])) [.raise "InvalidWord" [(.cst (.str [110, 111, 116, 32, 97, 32, 119, 111, 114, 100]))]] []],
  .ret (.cmp .isin (.peek 0) (.peek 1))]
theorem idx_n {l : List PV} {k : Nat} {v : PV} (h : l[k]? = some v) : idxV (.tup l) (.int (k : Int)) = pure v := by
  show optM (atO l (k : Int)) = _
  rw [atO_nat, h]
  rfl
theorem idx_nl {l : List PV} {k : Nat} {v : PV} (h : l[k]? = some v) : idxV (.lst l) (.int (k : Int)) = pure v := by
  show optM (atO l (k : Int)) = _
  rw [atO_nat, h]
  rfl
theorem tup_l {l : List PV} : tupV (.lst l) = pure (.tup l) := rfl
/-- the words' part of the table -/
structure Words (G : Tab) : Prop extends Base G where
  nsys : Fn G "need_system" 1 1 nsysB
  nword : Fn G "need_word" 2 2 nwordB
  nboth : Fn G "need_both" 2 2 nbothB
theorem places_of {G : Tab} (B : Words G) (h : Fn G "places_of" 3 3 placesOfB) (h1 : Fn G "places_in" 2 3 placesB) (n : Nat) {k : Nat} {rs : List Rl} {w : List Nat} (hs : Sys k rs) (hw : Wrd k w) (h60 : w.length ≤ 60) {i : Nat} {r : Rl} (hr : rs[i]? = some r) :
    evalF G (n + 6) "places_of" [sP k rs, .str w, .int (i : Int)] = pure (.tup (natsP (places r.1 w))) := by
  have hi : i < rs.length := (List.getElem?_eq_some_iff.mp hr).1
  have hm : r ∈ rs := List.mem_of_getElem? hr
  rw [h.at _ _ rfl]
  unfold placesOfB
  walk_at "evs"
  rw [need_both B.toBase B.nboth B.nsys B.nword n hs hw h60]
  unfold sP
  walk_at "evs"
  rw [idx_tup1, pure_bind]
  walk_at "evs"
  rw [fits_whole B.whole (n + 4) i 0 _ (by omega) (by rw [List.length_map]; omega)]
  walk_at "evs"
  rw [idx_tup1, pure_bind, idx_n (v := rP r) (by rw [List.getElem?_map, hr]; rfl), pure_bind]
  unfold rP
  rw [idx_tup0, pure_bind, places_in h1 (n + 4) r.1 w (by have := (hs.ok r hm).l6; omega) (by omega)]
  walk_at "evs"
  rw [tup_l]
  walk_at "evs"
theorem letters_of {G : Tab} (B : Base G) (h : Fn G "letters_of" 1 2 lettersB) (n : Nat) {w : List Nat} (hw : Wrd 4 w) (h60 : w.length ≤ 60) :
    evalF G (n + 2) "letters_of" [.str w] = pure (.tup ([97, 98, 99, 100].map fun c => .int (w.count c))) := by
  rw [h.at _ _ rfl]
  unfold lettersB
  walk_at "evs"
  rw [show ((4 : Nat) : Int) = ((4 : Nat) : Int) from rfl, fits_letters B.lets n w 4 0 60 hw (by omega) (by omega)]
  walk_at "evs"
  rfl
theorem is_inside {G : Tab} (B : Base G) (h : Fn G "is_inside" 2 3 insideB) (n : Nat) {p w : List Nat} (hp : Wrd 4 p) (hw : Wrd 4 w) (p60 : p.length ≤ 60) (h60 : w.length ≤ 60) :
    evalF G (n + 2) "is_inside" [.str p, .str w] = pure (.bl (isInfix p w)) := by
  rw [h.at _ _ rfl]
  unfold insideB
  walk_at "evs"
  simp only [forL, asg_nm, pure_bind]
  walk_at "evs"
  rw [fits_letters B.lets n p 4 0 60 hp (by omega) (by omega)]
  walk_at "evs"
  rw [fits_letters B.lets n w 4 0 60 hw (by omega) (by omega)]
  walk_at "evs"
  rfl
end EV

set_option maxRecDepth 100000
/-! EvR: what the laws themselves have: draws, words, systems. -/
namespace EV
open PySem
local macro_rules | `(tactic| walk_at "evs1") => `(tactic| simp only [evalB, evalS, evalE, evalEs, evalO, evalIt, evalIfs, partM, getP_v, getP_o, getP_s, getV_v, getV_s, truM_b, truM_n, truM_i, truM_s, truM_l, truM_t, optM_s, lenV_l, lenV_t, lenV_s, seqOf_l, seqOf_t, seqOf_s, out_ret, out_next, add_i, sub_i, int_i, cmp_lt, cmp_le, cmp_gt, cmp_ge, cmp_eq, cmp_ne, cmp_is, cmp_in, cmp_nin, slot_cell, slot_ol, slot_s, rec_join, rec_sw, rec_ew, rec_count, rec_index, rec_indexl, rec_get, guard_t, asg_nm, asg_t0, asg_t2, ownD, pure_bind, bind_assoc, bltV, blt1, blt2, binV, isTy_int_int, isTy_int_str, isTy_int_bool, isTy_int_tuple, isTy_int_list, isTy_bl_int, isTy_bl_str, isTy_bl_bool, isTy_bl_tuple, isTy_bl_list, isTy_str_int, isTy_str_str, isTy_str_bool, isTy_str_tuple, isTy_str_list, isTy_tup_int, isTy_tup_str, isTy_tup_bool, isTy_tup_tuple, isTy_tup_list, isTy_lst_int, isTy_lst_str, isTy_lst_bool, isTy_lst_tuple, isTy_lst_list, isTy_dict_int, isTy_dict_str, isTy_dict_bool, isTy_dict_tuple, isTy_dict_list, isTy_non_int, isTy_non_str, isTy_non_bool, isTy_non_tuple, isTy_non_list, List.getElem?_cons_zero, List.getElem?_cons_succ, List.getElem?_nil, if_true, if_false, ↓reduceIte, Bool.false_eq_true, Bool.not_true, Bool.not_false, List.map_cons, List.map_nil, List.length_cons, List.length_nil, Nat.reduceSub, Nat.reduceAdd, List.replicate_succ, List.replicate_zero, wipeE, List.set_cons_zero, List.set_cons_succ, List.set_nil, List.cons_append, List.nil_append])
local macro_rules | `(tactic| walk_at "evs") => `(tactic| try walk_at "evs1")
def rollB (a b m c d e : Int) : List CS := [.ifs (.cmp .gt (.idx (.peek 0) (.cst (.int 0))) (.cst (.int 0))) [.asg (.nm 2) (.bin .mod (.blt .int [(.idx (.peek 0) (.cst (.int 0)))]) (.peek 1)), .setix 0 (.cst (.int 0)) (.bin .fdiv (.idx (.peek 0) (.cst (.int 0))) (.peek 1)), .ret (.var 2)] [],
  .setix 0 (.cst (.int 1)) (.bin .mod (.blt .int [(.bin .add (.bin .mul (.idx (.peek 0) (.cst (.int 1))) (.cst (.int a))) (.cst (.int b)))]) (.cst (.int m))),
  .asg (.nm 3) (.bin .mod (.blt .int [(.bin .mul (.idx (.peek 0) (.cst (.int 1))) (.bin .add (.idx (.peek 0) (.cst (.int 1))) (.cst (.int c))))]) (.cst (.int d))),
  .ret (.bin .mod (.blt .int [(.bin .fdiv (.peek 3) (.cst (.int e)))]) (.peek 1))]
def someB : List CS := [.ret (.idx (.peek 1) (.call "_law_roll" [(.var 0), (.blt .len [(.peek 1)])]))]
def wordB : List CS := [.ret (.mth .join (.cst (.str [])) [(.comp (.call "_law_some" [(.var 0), (.blt .list [(.slc (.cst (.str [97, 98, 99, 100])) none (some (.peek 1)))])]) [3] (.mk (.nm 3) (.rng [(.call "_law_roll" [(.var 0), (.bin .add (.peek 2) (.cst (.int 1)))])]) []) [])])]
/-- numbers that a law's draws may have -/
def RollC (a m e : Int) : Prop := 0 < a ∧ a < 2 ^ 40 ∧ 0 < m ∧ m < 2 ^ 40 ∧ 0 < e ∧ e < 2 ^ 20
theorem ends_bind {m : M α} {f : α → M β} {c c' : Cup} {v : α} {Q : β → Cup → Prop} (e : m c = .ok v c') (h : Ends (f v) c' Q) : Ends (m >>= f) c Q := Ends.bind (Ends.of_ok e h)
theorem law_roll {G : Tab} {a b m c d e : Int} (h : Fn G "_law_roll" 2 4 (rollB a b m c d e)) (q : RollC a m e) (hd : d ≠ 0) (n : Nat) (many : Nat) (hm : 0 < many) (hm2 : many < 1000000) :
    Does (evalF G (n + 1) "_law_roll" [.cell, .int (many : Int)]) fun v => ∃ k : Nat, v = .int k ∧ k < many := by
  rintro cup ⟨x, y, rfl⟩
  obtain ⟨q1, q2, q3, q4, q5, q6⟩ := q
  rw [h.at _ _ rfl]
  unfold rollB
  walk_at "evs"
  have get0 : ∀ x y : Int, idxV .cell (.int 0) [.int x, .int y] = .ok (.int x) [.int x, .int y] := fun x y => by
    show (optM (atO [PV.int x, PV.int y] ((0 : Nat) : Int)) : M PV) _ = _
    rw [atO_nat]
    rfl
  have get1 : ∀ x y : Int, idxV .cell (.int 1) [.int x, .int y] = .ok (.int y) [.int x, .int y] := fun x y => by
    show (optM (atO [PV.int x, PV.int y] ((1 : Nat) : Int)) : M PV) _ = _
    rw [atO_nat]
    rfl
  have put0 : ∀ (x y : Int) (v : PV) (env : Ev), putIx (.val .cell :: env) 0 (.int 0) v [.int x, .int y] = .ok (.val .cell :: env) [v, .int y] := fun x y v env => rfl
  have put1 : ∀ (x y : Int) (v : PV) (env : Ev), putIx (.val .cell :: env) 0 (.int 1) v [.int x, .int y] = .ok (.val .cell :: env) [.int x, v] := fun x y v env => rfl
  have fm : ∀ (i j : Int), j ≠ 0 → modV (.int i) (.int j) = pure (.int (i.fmod j)) := fun i j hj => by
    show (if j ≠ 0 then _ else _) = _
    rw [if_pos hj]
  have fd : ∀ (i j : Int), 0 < j → j < 1000000000 → fdivV (.int i) (.int j) = pure (.int (i.fdiv j)) := fun i j hj hj2 => by
    show (if (decide (j ≠ 0) && decide (j.natAbs < 1073741824)) = true then _ else _) = _
    rw [if_pos]
    rw [Bool.and_eq_true, decide_eq_true_eq, decide_eq_true_eq]
    omega
  have fmB : ∀ (i j : Int), 0 < j → 0 ≤ i.fmod j ∧ i.fmod j < j := fun i j hj => by
    rw [Int.fmod_eq_emod_of_nonneg i (show (0 : Int) ≤ j by omega)]
    exact ⟨Int.emod_nonneg i (by omega), Int.emod_lt_of_pos i hj⟩
  have ml : ∀ (i j : Int), (0 < j ∧ j < 2 ^ 40) → mulV (.int i) (.int j) = pure (.int (i * j)) := fun i j hj => by
    show (if (small64 i || small64 j) = true then _ else _) = _
    rw [if_pos]
    rw [Bool.or_eq_true]
    right
    unfold small64
    rw [Bool.and_eq_true, decide_eq_true_eq, decide_eq_true_eq]
    omega
  have ml2 : ∀ (i j : Int), (0 ≤ i ∧ i < 2 ^ 40) → mulV (.int i) (.int j) = pure (.int (i * j)) := fun i j hj => by
    show (if (small64 i || small64 j) = true then _ else _) = _
    rw [if_pos]
    rw [Bool.or_eq_true]
    left
    unfold small64
    rw [Bool.and_eq_true, decide_eq_true_eq, decide_eq_true_eq]
    omega
  have fin : ∀ i : Int, ∃ k : Nat, PV.int (i.fmod (many : Int)) = .int k ∧ k < many := fun i => by
    have h1 := Int.emod_nonneg i (show (many : Int) ≠ 0 by omega)
    have h2 := Int.emod_lt_of_pos i (show (0 : Int) < many by omega)
    rw [← Int.fmod_eq_emod_of_nonneg i (show (0 : Int) ≤ many by omega)] at h1 h2
    exact ⟨(i.fmod many).toNat, by rw [Int.toNat_of_nonneg h1], by omega⟩
  refine ends_bind (get0 x y) ?_
  walk_at "evs"
  by_cases hx : 0 < x
  · rw [decide_eq_true hx]
    walk_at "evs"
    refine ends_bind (get0 x y) ?_
    walk_at "evs"
    rw [fm _ _ (by omega)]
    walk_at "evs"
    refine ends_bind (get0 x y) ?_
    rw [fd _ _ (by omega) (by omega)]
    walk_at "evs"
    refine ends_bind (put0 x y _ _) ?_
    walk_at "evs"
    exact ⟨fin x, ⟨_, _, rfl⟩⟩
  · rw [decide_eq_false hx]
    walk_at "evs"
    refine ends_bind (get1 x y) ?_
    rw [ml _ _ (by omega)]
    walk_at "evs"
    rw [fm _ _ (by omega)]
    walk_at "evs"
    have hb := fmB (y * a + b) m q3
    generalize (y * a + b).fmod m = z at hb
    refine ends_bind (put1 x y _ _) ?_
    walk_at "evs"
    refine ends_bind (get1 x z) ?_
    refine ends_bind (get1 x z) ?_
    walk_at "evs"
    rw [ml2 _ _ (by omega)]
    walk_at "evs"
    rw [fm _ _ hd]
    walk_at "evs"
    rw [fd _ _ q5 (by omega)]
    walk_at "evs"
    rw [fm _ _ (by omega)]
    walk_at "evs"
    exact ⟨fin _, ⟨_, _, rfl⟩⟩

/-- the draws of a law: its number of steps below -/
structure Draws (G : Tab) : Prop where
  roll : ∀ (n many : Nat), 0 < many → many < 1000000 → Does (evalF G (n + 1) "_law_roll" [.cell, .int (many : Int)]) fun v => ∃ k : Nat, v = .int k ∧ k < many
  some_ : Fn G "_law_some" 2 2 someB
theorem Does.seq {m : M α} {f : α → M β} {P : α → Prop} {Q : β → Prop} (h : Does m P) (i : ∀ v, P v → Does (f v) Q) : Does (m >>= f) Q := Does.bind h i
theorem law_some_l {G : Tab} (D : Draws G) (n : Nat) {l : List PV} (h0 : l ≠ []) (h1 : l.length < 1000000) : Does (evalF G (n + 2) "_law_some" [.cell, .lst l]) fun v => v ∈ l := by
  rw [D.some_.at _ _ rfl]
  unfold someB
  walk_at "evs"
  refine Does.seq (D.roll n l.length (List.length_pos_iff.mpr h0) h1) fun v hv => ?_
  obtain ⟨k, rfl, hk⟩ := hv
  rw [idx_nl (List.getElem?_eq_getElem hk)]
  walk_at "evs"
  exact Does.pure (List.getElem_mem hk)
theorem law_some_t {G : Tab} (D : Draws G) (n : Nat) {l : List PV} (h0 : l ≠ []) (h1 : l.length < 1000000) : Does (evalF G (n + 2) "_law_some" [.cell, .tup l]) fun v => v ∈ l := by
  rw [D.some_.at _ _ rfl]
  unfold someB
  walk_at "evs"
  refine Does.seq (D.roll n l.length (List.length_pos_iff.mpr h0) h1) fun v hv => ?_
  obtain ⟨k, rfl, hk⟩ := hv
  rw [idx_n (List.getElem?_eq_getElem hk)]
  walk_at "evs"
  exact Does.pure (List.getElem_mem hk)
theorem slc_to {w : List Nat} {a : Nat} : slcV (.str w) none (some (a : Int)) = pure (.str (w.take a)) := by
  show (pure (.str (cut w none (some (a : Int)))) : M PV) = _
  rw [cut_take]
theorem list_s {w : List Nat} : listV (.str w) = pure (.lst (w.map fun c => .str [c])) := rfl
/-- one letter -/
theorem law_letter {G : Tab} (D : Draws G) (n : Nat) {k : Nat} (h1 : 1 ≤ k) : Does (evalF G (n + 2) "_law_some" [.cell, .lst ((Let k).map fun c => .str [c])]) fun v => ∃ c, v = .str [c] ∧ c ∈ Let k := by
  refine (law_some_l D n ?_ ?_).mono fun v hv => ?_
  · intro e
    have e := congrArg List.length e
    unfold Let at e
    rw [List.length_map, List.length_take] at e
    simp only [List.length_cons, List.length_nil] at e
    omega
  · unfold Let
    rw [List.length_map, List.length_take]
    simp only [List.length_cons, List.length_nil]
    omega
  · obtain ⟨c, hc, rfl⟩ := List.mem_map.mp hv
    exact ⟨c, rfl, hc⟩
theorem strs_letters : ∀ {l : List PV}, (∀ v ∈ l, ∃ c, v = PV.str [c] ∧ c ∈ Let k) → ∃ w : List Nat, Wrd k w ∧ w.length = l.length ∧ l = w.map fun c => .str [c]
  | [], _ => ⟨[], (by intro c hc; cases hc), rfl, rfl⟩
  | v :: l, h => by
    obtain ⟨c, rfl, hc⟩ := h v List.mem_cons_self
    obtain ⟨w, h1, h2, rfl⟩ := strs_letters fun u hu => h u (List.mem_cons_of_mem _ hu)
    exact ⟨c :: w, fun x hx => (List.mem_cons.mp hx).elim (fun e => e ▸ hc) (h1 x), by simp, rfl⟩
theorem join_letters (w : List Nat) (h : w.length ≤ 1000) : joinV (.str []) (.lst (w.map fun c => .str [c])) = pure (.str w) := by
  have e1 : ∀ w : List Nat, strsOf (w.map fun c => PV.str [c]) = some (w.map fun c => [c]) := by
    intro w
    induction w with
    | nil => rfl
    | cons c w ih =>
      show (strsOf (w.map fun c => PV.str [c])).map ([c] :: ·) = _
      rw [ih]
      rfl
  have e2 : ∀ w : List Nat, joinS [] (w.map fun c => [c]) = w := by
    intro w
    induction w with
    | nil => rfl
    | cons c w ih =>
      cases w with
      | nil => rfl
      | cons d w =>
        show [c] ++ [] ++ joinS [] ((d :: w).map fun c => [c]) = _
        rw [ih]
        rfl
  have e3 : ∀ w : List Nat, ((w.map fun c => [c]).map (·.length)).sum = w.length := by
    intro w
    induction w with
    | nil => rfl
    | cons c w ih =>
      simp only [List.map_cons, List.sum_cons, ih, List.length_cons, List.length_nil]
      omega
  show (do
    let ss ← optM (strsOf (w.map fun c => PV.str [c]))
    if (ss.map (·.length)).sum + ss.length * ([] : List Nat).length ≤ LINE then pure (.str (joinS [] ss)) else fail : M PV) = _
  rw [e1, optM_s, pure_bind, e3, e2, if_pos]
  have : LINE = 16777216 := rfl
  simp only [List.length_nil, Nat.mul_zero]
  omega
theorem rngN (n : Nat) (h : n ≤ 1000000) : rngM [.int (n : Int)] = pure ((List.range n).map fun (k : Nat) => .int k) := rng1 (by omega) (by omega) (by omega)
theorem law_word {G : Tab} (D : Draws G) (h : Fn G "_law_word" 3 4 wordB) (n : Nat) {k : Nat} (h1 : 1 ≤ k) (many : Nat) (hm : many ≤ 100) :
    Does (evalF G (n + 3) "_law_word" [.cell, .int (k : Int), .int (many : Int)]) fun v => ∃ w, v = .str w ∧ Wrd k w ∧ w.length ≤ many := by
  rw [h.at _ _ rfl]
  unfold wordB
  walk_at "evs"
  rw [show ((many : Int) + 1) = ((many + 1 : Nat) : Int) by omega]
  refine Does.seq (D.roll (n + 1) (many + 1) (by omega) (by omega)) fun v hv => ?_
  obtain ⟨j, rfl, hj⟩ := hv
  rw [rngN j (by omega)]
  walk_at "evs"
  refine Does.seq (flatM_does (P := fun v => ∃ c, v = .str [c] ∧ c ∈ Let k) fun x hx => ?_) fun l hl => ?_
  · rw [slc_to]
    walk_at "evs"
    rw [list_s]
    walk_at "evs"
    refine Does.seq (law_letter D n h1) fun v hv => Does.pure ⟨v, rfl, hv⟩
  · obtain ⟨w, w1, w2, rfl⟩ := strs_letters hl.2
    have hlen : w.length = j := by rw [w2, hl.1, List.length_map, List.length_range]
    show Does (mthV .join (.str []) [.lst (w.map fun c => .str [c])] >>= _) _
    show Does (joinV (.str []) (.lst (w.map fun c => .str [c])) >>= _) _
    rw [join_letters w (by omega), pure_bind]
    exact Does.pure ⟨w, rfl, w1, by omega⟩
end EV

set_option maxRecDepth 100000
/-! EvSy: _law_system, as 51 laws have it. -/
namespace EV
open PySem
local macro_rules | `(tactic| walk_at "evs1") => `(tactic| simp only [evalB, evalS, evalE, evalEs, evalO, evalIt, evalIfs, partM, getP_v, getP_o, getP_s, getV_v, getV_s, truM_b, truM_n, truM_i, truM_s, truM_l, truM_t, optM_s, lenV_l, lenV_t, lenV_s, seqOf_l, seqOf_t, seqOf_s, out_ret, out_next, add_i, sub_i, int_i, cmp_lt, cmp_le, cmp_gt, cmp_ge, cmp_eq, cmp_ne, cmp_is, cmp_in, cmp_nin, slot_cell, slot_ol, slot_s, rec_join, rec_sw, rec_ew, rec_count, rec_index, rec_indexl, rec_get, guard_t, asg_nm, asg_t0, asg_t2, ownD, pure_bind, bind_assoc, bltV, blt1, blt2, binV, isTy_int_int, isTy_int_str, isTy_int_bool, isTy_int_tuple, isTy_int_list, isTy_bl_int, isTy_bl_str, isTy_bl_bool, isTy_bl_tuple, isTy_bl_list, isTy_str_int, isTy_str_str, isTy_str_bool, isTy_str_tuple, isTy_str_list, isTy_tup_int, isTy_tup_str, isTy_tup_bool, isTy_tup_tuple, isTy_tup_list, isTy_lst_int, isTy_lst_str, isTy_lst_bool, isTy_lst_tuple, isTy_lst_list, isTy_dict_int, isTy_dict_str, isTy_dict_bool, isTy_dict_tuple, isTy_dict_list, isTy_non_int, isTy_non_str, isTy_non_bool, isTy_non_tuple, isTy_non_list, List.getElem?_cons_zero, List.getElem?_cons_succ, List.getElem?_nil, if_true, if_false, ↓reduceIte, Bool.false_eq_true, Bool.not_true, Bool.not_false, List.map_cons, List.map_nil, List.length_cons, List.length_nil, Nat.reduceSub, Nat.reduceAdd, List.replicate_succ, List.replicate_zero, wipeE, List.set_cons_zero, List.set_cons_succ, List.set_nil, List.cons_append, List.nil_append])
local macro_rules | `(tactic| walk_at "evs") => `(tactic| try walk_at "evs1")
def sysHead : List CS := [.asg (.nm 1) (.lst [(.tup [(.cst (.int 2)), (.tup [(.tup [(.cst (.str [98, 97])), (.cst (.str [97, 98]))])])]), (.tup [(.cst (.int 2)), (.tup [(.tup [(.cst (.str [97, 97])), (.cst (.str []))]), (.tup [(.cst (.str [98, 98])), (.cst (.str []))])])]), (.tup [(.cst (.int 2)), (.tup [(.tup [(.cst (.str [97, 98])), (.cst (.str []))])])]), (.tup [(.cst (.int 2)), (.tup [(.tup [(.cst (.str [97, 97])), (.cst (.str []))]), (.tup [(.cst (.str [98, 98])), (.cst (.str []))]), (.tup [(.cst (.str [98, 97, 98])), (.cst (.str [97, 98, 97]))])])])]),
  .asg (.nm 1) (.bin .add (.peek 1) (.lst [(.tup [(.cst (.int 2)), (.tup [(.tup [(.cst (.str [97, 98])), (.cst (.str [98, 98, 97]))])])]), (.tup [(.cst (.int 2)), (.tup [(.tup [(.cst (.str [97, 98])), (.cst (.str [97, 97, 98]))])])]), (.tup [(.cst (.int 3)), (.tup [(.tup [(.cst (.str [98, 97])), (.cst (.str [97, 98]))]), (.tup [(.cst (.str [99, 97])), (.cst (.str [97, 99]))]), (.tup [(.cst (.str [99, 98])), (.cst (.str [98, 99]))])])]), (.tup [(.cst (.int 1)), (.tup [(.tup [(.cst (.str [97, 97, 97])), (.cst (.str [97]))])])])])),
  .asg (.tup [(.nm 2), (.nm 3)]) (.call "_law_some" [(.var 0), (.var 1)]),
  .asg (.nm 4) (.call "_law_roll" [(.var 0), (.cst (.int 3))]),
  .ifs (.cmp .eq (.peek 4) (.cst (.int 0))) [.ret (.tup [(.var 2), (.var 3)])] [],
  .ifs (.cmp .eq (.peek 4) (.cst (.int 1))) [.par [(2, false), (3, false)] [(.bin .add (.cst (.int 1)) (.call "_law_roll" [(.var 0), (.cst (.int 4))])), (.tup [])]] []]
def sysTail : List CS := [.fors (.nm 5) (.rng [(.bin .add (.cst (.int 1)) (.call "_law_roll" [(.var 0), (.cst (.int 3))]))]) [.asg (.nm 6) (.bin .add (.call "_law_word" [(.var 0), (.var 2), (.cst (.int 2))]) (.call "_law_some" [(.var 0), (.blt .list [(.slc (.cst (.str [97, 98, 99, 100])) none (some (.peek 2)))])])), .asg (.nm 7) (.call "_law_word" [(.var 0), (.var 2), (.cst (.int 3))]), .ifs (.and (.cmp .ne (.peek 6) (.peek 7)) (.cmp .notin (.tup [(.var 6), (.var 7)]) (.peek 3))) [.asg (.nm 3) (.bin .add (.peek 3) (.tup [(.tup [(.var 6), (.var 7)])]))] []],
  .ret (.tup [(.var 2), (.ite (.cmp .ne (.peek 3) (.tup [])) (.var 3) (.tup [(.tup [(.cst (.str [97])), (.cst (.str []))])]))])]
def systemB : List CS := sysHead ++ sysTail
instance : Decidable (Wrd n w) := by unfold Wrd; infer_instance
def rulB (n : Nat) (r : Rl) : Bool := decide (Wrd n r.1) && decide (Wrd n r.2) && decide (1 ≤ r.1.length) && decide (r.1.length ≤ 6) && decide (r.2.length ≤ 6) && decide (r.1 ≠ r.2)
theorem rulB_ok {n : Nat} {r : Rl} (h : rulB n r = true) : Rul n r := by
  unfold rulB at h
  simp only [Bool.and_eq_true, decide_eq_true_eq] at h
  obtain ⟨⟨⟨⟨⟨a, b⟩, c⟩, d⟩, e⟩, f⟩ := h
  exact ⟨a, b, c, d, e, f⟩
def sysB (n : Nat) (rs : List Rl) : Bool := decide (1 ≤ n) && decide (n ≤ 4) && decide (1 ≤ rs.length) && decide (rs.length ≤ 8) && rs.all (rulB n) && decide rs.Nodup
theorem sysB_ok {n : Nat} {rs : List Rl} (h : sysB n rs = true) : Sys n rs := by
  unfold sysB at h
  simp only [Bool.and_eq_true, decide_eq_true_eq, List.all_eq_true] at h
  obtain ⟨⟨⟨⟨⟨a, b⟩, c⟩, d⟩, e⟩, f⟩ := h
  exact ⟨a, b, c, d, fun r hr => rulB_ok (e r hr), f⟩
def sampleL : List (Nat × List Rl) := [(2, [([98, 97], [97, 98])]), (2, [([97, 97], []), ([98, 98], [])]), (2, [([97, 98], [])]), (2, [([97, 97], []), ([98, 98], []), ([98, 97, 98], [97, 98, 97])]), (2, [([97, 98], [98, 98, 97])]), (2, [([97, 98], [97, 97, 98])]), (3, [([98, 97], [97, 98]), ([99, 97], [97, 99]), ([99, 98], [98, 99])]), (1, [([97, 97, 97], [97])])]
theorem sample_ok : (sampleL.all fun p => sysB p.1 p.2 && decide (p.2.length ≤ 3)) = true := by decide +kernel
theorem sample_in {v : PV} (h : v ∈ sampleL.map fun p => sP p.1 p.2) : ∃ k rs, v = sP k rs ∧ Sys k rs ∧ rs.length ≤ 3 := by
  obtain ⟨p, hp, rfl⟩ := List.mem_map.mp h
  have := List.all_eq_true.mp sample_ok p hp
  rw [Bool.and_eq_true, decide_eq_true_eq] at this
  exact ⟨p.1, p.2, rfl, sysB_ok this.1, this.2⟩

theorem asg_t2v {i j : Nat} {k : Nat} {rs : List Rl} {e : Ev} : asgT (.tup [.nm i, .nm j]) (sP k rs) e = pure ((e.set i (.val (.int k))).set j (.val (.tup (rs.map rP)))) := rfl
theorem add_t {a b : List PV} (h : a.length + b.length ≤ 1000) : addV (.tup a) (.tup b) = pure (.tup (a ++ b)) := by
  show (if a.length + b.length ≤ LINE then _ else _) = _
  rw [if_pos]
  have : LINE = 16777216 := rfl
  omega
theorem add_l {a b : List PV} (h : a.length + b.length ≤ 1000) : addV (.lst a) (.lst b) = pure (.lst (a ++ b)) := by
  show (if a.length + b.length ≤ LINE then _ else _) = _
  rw [if_pos]
  have : LINE = 16777216 := rfl
  omega
theorem add_s {a b : List Nat} (h : a.length + b.length ≤ 1000) : addV (.str a) (.str b) = pure (.str (a ++ b)) := by
  show (if a.length + b.length ≤ LINE then _ else _) = _
  rw [if_pos]
  have : LINE = 16777216 := rfl
  omega
/-- the law's system: what its loop keeps -/
structure Grow (k : Nat) (rs : List Rl) (m : Nat) : Prop where
  n1 : 1 ≤ k
  n4 : k ≤ 4
  ok : ∀ r ∈ rs, Rul k r
  nd : rs.Nodup
  len : rs.length ≤ m

theorem plains_rules : ∀ rs : List Rl, plains (rs.map rP) = true
  | [] => rfl
  | r :: rs => by
    rw [List.map_cons]
    simp only [plains, plains_rules rs, Bool.and_true]
    rfl
theorem eqv_rP (a b : Rl) : eqv (rP a) (rP b) = decide (a = b) := by
  obtain ⟨a1, a2⟩ := a
  obtain ⟨b1, b2⟩ := b
  unfold rP
  simp only [eqv, eqvs, Bool.and_true]
  rw [Bool.eq_iff_iff]
  simp
theorem inM_rule {rs : List Rl} {r : Rl} : inM (rP r) (.tup (rs.map rP)) = pure (decide (r ∈ rs)) := by
  show (if (okD (rP r) && plains (rs.map rP)) = true then pure (isInV (rP r) (rs.map rP)) else fail : M Bool) = _
  rw [if_pos]
  · congr 1
    unfold isInV
    rw [Bool.eq_iff_iff, List.any_map, List.any_eq_true, decide_eq_true_eq]
    constructor
    · rintro ⟨x, hx, e⟩
      have e : eqv (rP x) (rP r) = true := e
      rw [eqv_rP, decide_eq_true_eq] at e
      exact e ▸ hx
    · intro hr
      exact ⟨r, hr, by show eqv (rP r) (rP r) = true; rw [eqv_rP]; exact decide_eq_true rfl⟩
  · rw [plains_rules, Bool.and_true]
    rfl
theorem deps_rules : ∀ rs : List Rl, deps (rs.map rP) ≤ 1
  | [] => Nat.zero_le _
  | r :: rs => by
    rw [List.map_cons]
    have h := deps_rules rs
    have e : dep (rP r) = 1 := by unfold rP; simp only [dep, deps]; rfl
    simp only [deps, e]
    omega
theorem okD_rules (rs : List Rl) : okD (.tup (rs.map rP)) = true := by
  unfold okD
  have h := deps_rules rs
  simp only [plain, plains_rules, dep, Bool.true_and]
  exact decide_eq_true (by omega)
theorem eqM_rules {rs : List Rl} : eqM (.tup (rs.map rP)) (.tup []) = pure rs.isEmpty := by
  show (if (okD (.tup (rs.map rP)) && okD (.tup [])) = true then pure (eqv (.tup (rs.map rP)) (.tup [])) else fail : M Bool) = _
  rw [okD_rules, if_pos (by rfl)]
  cases rs <;> rfl
theorem sys_tail {G : Tab} (D : Draws G) (hw : Fn G "_law_word" 3 4 wordB) (n : Nat) {k : Nat} {rs : List Rl} (g : Grow k rs 3) (s1 s4 s5 s6 s7 : Slot) :
    Does (evalB (evalF G (n + 3)) sysTail [.val .cell, s1, .val (.int k), .val (.tup (rs.map rP)), s4, s5, s6, s7] >>= outV) fun v => ∃ k rs, v = sP k rs ∧ Sys k rs := by
  unfold sysTail
  walk_at "evs"
  refine Does.seq (D.roll (n + 2) 3 (by omega) (by omega)) fun v hv => ?_
  obtain ⟨j, rfl, hj⟩ := hv
  walk_at "evs"
  rw [show ((1 : Int) + (j : Int)) = ((1 + j : Nat) : Int) by omega, rngN _ (by omega)]
  walk_at "evs"
  refine Does.seq (forL_inv (k := 0) (fun m e => ∃ rs s1 s4 s5 s6 s7, e = [.val .cell, s1, .val (.int k), .val (.tup (rs.map rP)), s4, s5, s6, s7] ∧ Grow k rs (3 + m)) ⟨rs, s1, s4, s5, s6, s7, rfl, g⟩ fun i x e hx hI => ?_) fun o ho => ?_
  · obtain ⟨rs, s1, s4, s5, s6, s7, rfl, g⟩ := hI
    have hi : i < 3 := by
      have := (List.getElem?_eq_some_iff.mp hx).1
      rw [List.length_map, List.length_range] at this
      omega
    walk_at "evs"
    refine Does.seq (law_word D hw n g.n1 2 (by omega)) fun v hv => ?_
    obtain ⟨w, rfl, w1, w2⟩ := hv
    rw [slc_to]
    walk_at "evs"
    rw [list_s]
    walk_at "evs"
    refine Does.seq (law_letter D (n + 1) g.n1) fun v hv => ?_
    obtain ⟨c, rfl, hc⟩ := hv
    rw [add_s (by simp only [List.length_cons, List.length_nil]; omega)]
    walk_at "evs"
    refine Does.seq (law_word D hw n g.n1 3 (by omega)) fun v hv => ?_
    obtain ⟨u, rfl, u1, u2⟩ := hv
    rw [eqM_str]
    walk_at "evs"
    have wl : Wrd k (w ++ [c]) := fun x hx => (List.mem_append.mp hx).elim (w1 x) fun h => by rw [List.mem_singleton.mp h]; exact hc
    have len : (w ++ [c]).length = w.length + 1 := by rw [List.length_append]; rfl
    have keep : Grow k rs (3 + (0 + i + 1)) := ⟨g.n1, g.n4, g.ok, g.nd, by have := g.len; omega⟩
    by_cases e : w ++ [c] = u
    · rw [beq_iff_eq.mpr e]
      walk_at "evs"
      exact Does.pure ⟨_, .inl rfl, rs, _, _, _, _, _, rfl, keep⟩
    · rw [beq_eq_false_iff_ne.mpr e]
      walk_at "evs"
      have q : inM (.tup [.str (w ++ [c]), .str u]) (.tup (rs.map rP)) = pure (decide ((w ++ [c], u) ∈ rs)) := inM_rule (r := (w ++ [c], u))
      rw [q]
      walk_at "evs"
      by_cases hin : (w ++ [c], u) ∈ rs
      · rw [decide_eq_true hin]
        walk_at "evs"
        exact Does.pure ⟨_, .inl rfl, rs, _, _, _, _, _, rfl, keep⟩
      · rw [decide_eq_false hin]
        walk_at "evs"
        have q2 : addV (.tup (rs.map rP)) (.tup [.tup [.str (w ++ [c]), .str u]]) = pure (.tup ((rs ++ [(w ++ [c], u)]).map rP)) := by
          rw [add_t (by rw [List.length_map]; have := g.len; simp only [List.length_cons, List.length_nil]; omega), List.map_append]
          rfl
        rw [q2]
        walk_at "evs"
        refine Does.pure ⟨_, .inl rfl, rs ++ [(w ++ [c], u)], _, _, _, _, _, rfl, g.n1, g.n4, fun r hr => ?_, ?_, ?_⟩
        · rcases List.mem_append.mp hr with h | h
          · exact g.ok r h
          · rw [List.mem_singleton.mp h]
            exact ⟨wl, u1, by show 1 ≤ (w ++ [c]).length; omega, by show (w ++ [c]).length ≤ 6; omega, by show u.length ≤ 6; omega, e⟩
        · exact List.nodup_append.mpr ⟨g.nd, by simp, fun a ha b hb => by rw [List.mem_singleton.mp hb]; rintro rfl; exact hin ha⟩
        · have := g.len
          rw [List.length_append]
          simp only [List.length_cons, List.length_nil]
          omega
  · obtain ⟨e, rfl, rs, s1, s4, s5, s6, s7, rfl, g⟩ := ho
    rw [List.length_map, List.length_range] at g
    walk_at "evs"
    rw [eqM_rules]
    walk_at "evs"
    cases rs with
    | nil =>
      walk_at "evs"
      exact Does.pure ⟨k, [([97], [])], rfl, sysB_ok (by
        have h1 := g.n1
        have h4 := g.n4
        have : k = 1 ∨ k = 2 ∨ k = 3 ∨ k = 4 := by omega
        rcases this with rfl | rfl | rfl | rfl <;> decide)⟩
    | cons r rs =>
      walk_at "evs"
      exact Does.pure ⟨k, r :: rs, rfl, g.n1, g.n4, by rw [List.length_cons]; omega, by have := g.len; omega, g.ok, g.nd⟩

/-- one statement after the other -/
theorem evalB_cat (call : Str → List PV → M PV) : ∀ (a b : List CS) (env : Ev), evalB call (a ++ b) env = (evalB call a env >>= fun o => match o with
    | .next e => evalB call b e
    | .ret v => pure (.ret v)
    | .brk e => pure (.brk e)
    | .cnt e => pure (.cnt e))
  | [], b, env => by
    simp only [List.nil_append, evalB, pure_bind]
  | s :: a, b, env => by
    rw [List.cons_append]
    simp only [evalB, bind_assoc]
    congr 1
    funext o
    cases o with
    | next e => exact evalB_cat call a b e
    | ret v => simp only [pure_bind]
    | brk e => simp only [pure_bind]
    | cnt e => simp only [pure_bind]
theorem law_system {G : Tab} (D : Draws G) (hw : Fn G "_law_word" 3 4 wordB) (h : Fn G "_law_system" 1 8 systemB) (n : Nat) :
    Does (evalF G (n + 4) "_law_system" [.cell]) fun v => ∃ k rs, v = sP k rs ∧ Sys k rs := by
  rw [h.at _ _ rfl]
  unfold systemB
  rw [evalB_cat, bind_assoc]
  unfold sysHead
  walk_at "evs"
  rw [add_l (by simp)]
  walk_at "evs"
  refine Does.seq (P := fun v => v ∈ sampleL.map fun p => sP p.1 p.2) (law_some_l D (n + 1) (by simp) (by simp)) fun v hv => ?_
  obtain ⟨k, rs, rfl, hs, h3⟩ := sample_in hv
  rw [asg_t2v]
  walk_at "evs"
  refine Does.seq (D.roll (n + 2) 3 (by omega) (by omega)) fun v hv => ?_
  obtain ⟨way, rfl, hway⟩ := hv
  rw [eqM_int]
  walk_at "evs"
  by_cases e0 : (way : Int) = 0
  · rw [beq_iff_eq.mpr e0]
    walk_at "evs"
    exact Does.pure ⟨k, rs, rfl, hs⟩
  · rw [beq_eq_false_iff_ne.mpr e0]
    walk_at "evs"
    rw [eqM_int]
    walk_at "evs"
    by_cases e1 : (way : Int) = 1
    · rw [beq_iff_eq.mpr e1]
      walk_at "evs"
      refine Does.seq (D.roll (n + 2) 4 (by omega) (by omega)) fun v hv => ?_
      obtain ⟨j, rfl, hj⟩ := hv
      walk_at "evs"
      simp only [parT]
      walk_at "evs"
      have q := sys_tail D hw n (k := 1 + j) (rs := []) ⟨by omega, by omega, (fun r hr => by cases hr), List.nodup_nil, Nat.zero_le _⟩
      have q1 : ((1 : Int) + (j : Int)) = ((1 + j : Nat) : Int) := by omega
      rw [q1]
      exact q _ _ _ _ _
    · rw [beq_eq_false_iff_ne.mpr e1]
      walk_at "evs"
      exact sys_tail D hw n ⟨hs.n1, hs.n4, hs.ok, hs.nd, h3⟩ _ _ _ _ _
end EV

set_option maxRecDepth 100000
/-! EvSa: _law_same of a value and itself; _law_cup. -/
namespace EV
open PySem
local macro_rules | `(tactic| walk_at "evs1") => `(tactic| simp only [evalB, evalS, evalE, evalEs, evalO, evalIt, evalIfs, partM, getP_v, getP_o, getP_s, getV_v, getV_s, truM_b, truM_n, truM_i, truM_s, truM_l, truM_t, optM_s, lenV_l, lenV_t, lenV_s, seqOf_l, seqOf_t, seqOf_s, out_ret, out_next, add_i, sub_i, int_i, cmp_lt, cmp_le, cmp_gt, cmp_ge, cmp_eq, cmp_ne, cmp_is, cmp_in, cmp_nin, slot_cell, slot_ol, slot_s, rec_join, rec_sw, rec_ew, rec_count, rec_index, rec_indexl, rec_get, guard_t, asg_nm, asg_t0, asg_t2, ownD, pure_bind, bind_assoc, bltV, blt1, blt2, binV, isTy_int_int, isTy_int_str, isTy_int_bool, isTy_int_tuple, isTy_int_list, isTy_bl_int, isTy_bl_str, isTy_bl_bool, isTy_bl_tuple, isTy_bl_list, isTy_str_int, isTy_str_str, isTy_str_bool, isTy_str_tuple, isTy_str_list, isTy_tup_int, isTy_tup_str, isTy_tup_bool, isTy_tup_tuple, isTy_tup_list, isTy_lst_int, isTy_lst_str, isTy_lst_bool, isTy_lst_tuple, isTy_lst_list, isTy_dict_int, isTy_dict_str, isTy_dict_bool, isTy_dict_tuple, isTy_dict_list, isTy_non_int, isTy_non_str, isTy_non_bool, isTy_non_tuple, isTy_non_list, List.getElem?_cons_zero, List.getElem?_cons_succ, List.getElem?_nil, if_true, if_false, ↓reduceIte, Bool.false_eq_true, Bool.not_true, Bool.not_false, List.map_cons, List.map_nil, List.length_cons, List.length_nil, Nat.reduceSub, Nat.reduceAdd, List.replicate_succ, List.replicate_zero, wipeE, List.set_cons_zero, List.set_cons_succ, List.set_nil, List.cons_append, List.nil_append])
local macro_rules | `(tactic| walk_at "evs") => `(tactic| try walk_at "evs1")
def sameB : List CS := [.ifs (.isi (.peek 1) .tuple) [.ifs (.or (.not (.isi (.peek 0) .tuple)) (.cmp .ne (.blt .len [(.peek 0)]) (.blt .len [(.peek 1)]))) [.ret (.cst (.bl false))] [], .ret (.blt .all [(.comp (.call "_law_same" [(.idx (.peek 0) (.peek 2)), (.idx (.peek 1) (.peek 2))]) [2] (.mk (.nm 2) (.rng [(.blt .len [(.peek 1)])]) []) [])])] [],
  .ifs (.cmp .is (.peek 1) (.cst .non)) [.ret (.cmp .is (.peek 0) (.cst .non))] [],
  .ifs (.isi (.peek 1) .bool) [.ret (.ite (.peek 1) (.cmp .is (.peek 0) (.cst (.bl true))) (.cmp .is (.peek 0) (.cst (.bl false))))] [],
  .ifs (.isi (.peek 1) .int) [.ret (.and (.isi (.peek 0) .int) (.and (.not (.isi (.peek 0) .bool)) (.cmp .eq (.blt .int [(.peek 0)]) (.peek 1))))] [],
  .ret (.and (.isi (.peek 0) .str) (.cmp .eq (.blt .str [(.peek 0)]) (.peek 1)))]
/-- what may be compared so: so deep at most, so long at most -/
def okSame : Nat → PV → Bool
  | _, .non | _, .bl _ | _, .int _ | _, .str _ => true
  | n + 1, .tup l => decide (l.length ≤ 1000) && l.all (okSame n)
  | _, _ => false
theorem isM_nn : isM .non .non = pure true := rfl
theorem isM_in {i : Int} : isM (.int i) .non = pure false := rfl
theorem isM_bn {i : Bool} : isM (.bl i) .non = pure false := rfl
theorem isM_sn {i : List Nat} : isM (.str i) .non = pure false := rfl
theorem isM_bb {a b : Bool} : isM (.bl a) (.bl b) = pure (a == b) := rfl
theorem str_s {w : List Nat} : strV (.str w) = pure (.str w) := rfl
theorem law_same {G : Tab} (h : Fn G "_law_same" 2 3 sameB) : ∀ (n : Nat) (v : PV), okSame n v = true → evalF G (n + 1) "_law_same" [v, v] = pure (.bl true) := by
  intro n
  induction n with
  | zero =>
    intro v hv
    rw [h.at _ _ rfl]
    unfold sameB
    cases v with
    | non => walk_at "evs"; rw [isM_nn]; walk_at "evs"
    | bl b => walk_at "evs"; rw [isM_bn]; walk_at "evs"; rw [isM_bb, isM_bb]; cases b <;> rfl
    | int i => walk_at "evs"; rw [isM_in]; walk_at "evs"; rw [eqM_int, beq_self_eq_true]; walk_at "evs"
    | str s => walk_at "evs"; rw [isM_sn]; walk_at "evs"; rw [str_s]; walk_at "evs"; rw [eqM_str, beq_self_eq_true]; walk_at "evs"
    | _ => cases hv
  | succ n ih =>
    intro v hv
    rw [h.at _ _ rfl]
    unfold sameB
    cases v with
    | non => walk_at "evs"; rw [isM_nn]; walk_at "evs"
    | bl b => walk_at "evs"; rw [isM_bn]; walk_at "evs"; rw [isM_bb, isM_bb]; cases b <;> rfl
    | int i => walk_at "evs"; rw [isM_in]; walk_at "evs"; rw [eqM_int, beq_self_eq_true]; walk_at "evs"
    | str s => walk_at "evs"; rw [isM_sn]; walk_at "evs"; rw [str_s]; walk_at "evs"; rw [eqM_str, beq_self_eq_true]; walk_at "evs"
    | tup l =>
      simp only [okSame, Bool.and_eq_true, decide_eq_true_eq, List.all_eq_true] at hv
      obtain ⟨h1, h2⟩ := hv
      walk_at "evs"
      rw [eqM_int, beq_self_eq_true]
      walk_at "evs"
      rw [rngN _ (by omega)]
      walk_at "evs"
      rw [flatM_overM (g := fun _ => .bl true)]
      · rw [pure_bind, allV_true]
        walk_at "evs"
      · intro k hk
        have hk := List.mem_range.mp hk
        rw [idx_n (List.getElem?_eq_getElem hk)]
        walk_at "evs"
        rw [ih _ (h2 _ (List.getElem_mem hk))]
        walk_at "evs"
    | _ => cases hv
end EV

set_option maxRecDepth 100000
namespace EV
open PySem
local macro_rules | `(tactic| walk_at "evs1") => `(tactic| simp only [evalB, evalS, evalE, evalEs, evalO, evalIt, evalIfs, partM, getP_v, getP_o, getP_s, getV_v, getV_s, truM_b, truM_n, truM_i, truM_s, truM_l, truM_t, optM_s, lenV_l, lenV_t, lenV_s, seqOf_l, seqOf_t, seqOf_s, out_ret, out_next, add_i, sub_i, int_i, cmp_lt, cmp_le, cmp_gt, cmp_ge, cmp_eq, cmp_ne, cmp_is, cmp_in, cmp_nin, slot_cell, slot_ol, slot_s, rec_join, rec_sw, rec_ew, rec_count, rec_index, rec_indexl, rec_get, guard_t, asg_nm, asg_t0, asg_t2, ownD, pure_bind, bind_assoc, bltV, blt1, blt2, binV, isTy_int_int, isTy_int_str, isTy_int_bool, isTy_int_tuple, isTy_int_list, isTy_bl_int, isTy_bl_str, isTy_bl_bool, isTy_bl_tuple, isTy_bl_list, isTy_str_int, isTy_str_str, isTy_str_bool, isTy_str_tuple, isTy_str_list, isTy_tup_int, isTy_tup_str, isTy_tup_bool, isTy_tup_tuple, isTy_tup_list, isTy_lst_int, isTy_lst_str, isTy_lst_bool, isTy_lst_tuple, isTy_lst_list, isTy_dict_int, isTy_dict_str, isTy_dict_bool, isTy_dict_tuple, isTy_dict_list, isTy_non_int, isTy_non_str, isTy_non_bool, isTy_non_tuple, isTy_non_list, List.getElem?_cons_zero, List.getElem?_cons_succ, List.getElem?_nil, if_true, if_false, ↓reduceIte, Bool.false_eq_true, Bool.not_true, Bool.not_false, List.map_cons, List.map_nil, List.length_cons, List.length_nil, Nat.reduceSub, Nat.reduceAdd, List.replicate_succ, List.replicate_zero, wipeE, List.set_cons_zero, List.set_cons_succ, List.set_nil, List.cons_append, List.nil_append])
local macro_rules | `(tactic| walk_at "evs") => `(tactic| try walk_at "evs1")
theorem take_short {p w : List Nat} {k : Nat} (h : w.length + 1 - p.length ≤ k) (hp : 1 ≤ p.length) : ((w.drop k).take p.length == p) = false := by
  rw [beq_eq_false_iff_ne]
  intro e
  have e := congrArg List.length e
  rw [List.length_take, List.length_drop] at e
  omega
/-- all places, looked for in the whole word -/
theorem places_all {p w : List Nat} (hp : 1 ≤ p.length) : (List.range w.length).filter (fun k => (w.drop k).take p.length == p) = places p w := by
  unfold places
  have hn : w.length = (w.length + 1 - p.length) + (w.length - (w.length + 1 - p.length)) := by omega
  rw [hn, List.range_add, List.filter_append, ← hn]
  have : (List.map (fun x => w.length + 1 - p.length + x) (List.range (w.length - (w.length + 1 - p.length)))).filter (fun k => (w.drop k).take p.length == p) = [] := by
    rw [List.filter_eq_nil_iff]
    intro k hk
    obtain ⟨x, hx, rfl⟩ := List.mem_map.mp hk
    rw [take_short (by omega) hp]
    decide
  rw [this, List.append_nil]
theorem inside_places {p w : List Nat} (hp : 1 ≤ p.length) : isInfix p w = (places p w != []) := by
  rw [← places_all hp]
  unfold isInfix
  have e : ∀ k, subL p w k = ((w.drop k).take p.length == p) := fun k => rfl
  rw [Bool.eq_iff_iff, List.any_eq_true, bne_iff_ne, ne_eq, List.filter_eq_nil_iff]
  constructor
  · rintro ⟨k, hk, h⟩ hno
    rw [e] at h
    by_cases hl : k < w.length
    · exact hno k (List.mem_range.mpr hl) h
    · rw [take_short (by omega) hp] at h
      cases h
  · intro hno
    have : ∃ k ∈ List.range w.length, ((w.drop k).take p.length == p) = true := by
      refine Classical.byContradiction fun hh => hno fun k hk hkk => hh ⟨k, hk, hkk⟩
    obtain ⟨k, hk, h⟩ := this
    exact ⟨k, List.mem_range.mpr (Nat.lt_succ_of_lt (List.mem_range.mp hk)), h⟩
end EV
namespace EV
open PySem
local macro_rules | `(tactic| walk_at "evs1") => `(tactic| simp only [evalB, evalS, evalE, evalEs, evalO, evalIt, evalIfs, partM, getP_v, getP_o, getP_s, getV_v, getV_s, truM_b, truM_n, truM_i, truM_s, truM_l, truM_t, optM_s, lenV_l, lenV_t, lenV_s, seqOf_l, seqOf_t, seqOf_s, out_ret, out_next, add_i, sub_i, int_i, cmp_lt, cmp_le, cmp_gt, cmp_ge, cmp_eq, cmp_ne, cmp_is, cmp_in, cmp_nin, slot_cell, slot_ol, slot_s, rec_join, rec_sw, rec_ew, rec_count, rec_index, rec_indexl, rec_get, guard_t, asg_nm, asg_t0, asg_t2, ownD, pure_bind, bind_assoc, bltV, blt1, blt2, binV, isTy_int_int, isTy_int_str, isTy_int_bool, isTy_int_tuple, isTy_int_list, isTy_bl_int, isTy_bl_str, isTy_bl_bool, isTy_bl_tuple, isTy_bl_list, isTy_str_int, isTy_str_str, isTy_str_bool, isTy_str_tuple, isTy_str_list, isTy_tup_int, isTy_tup_str, isTy_tup_bool, isTy_tup_tuple, isTy_tup_list, isTy_lst_int, isTy_lst_str, isTy_lst_bool, isTy_lst_tuple, isTy_lst_list, isTy_dict_int, isTy_dict_str, isTy_dict_bool, isTy_dict_tuple, isTy_dict_list, isTy_non_int, isTy_non_str, isTy_non_bool, isTy_non_tuple, isTy_non_list, List.getElem?_cons_zero, List.getElem?_cons_succ, List.getElem?_nil, if_true, if_false, ↓reduceIte, Bool.false_eq_true, Bool.not_true, Bool.not_false, List.map_cons, List.map_nil, List.length_cons, List.length_nil, Nat.reduceSub, Nat.reduceAdd, List.replicate_succ, List.replicate_zero, wipeE, List.set_cons_zero, List.set_cons_succ, List.set_nil, List.cons_append, List.nil_append])
local macro_rules | `(tactic| walk_at "evs") => `(tactic| try walk_at "evs1")
theorem isInfix_part (w : List Nat) (b n : Nat) (hb : b ≤ w.length) : isInfix ((w.drop b).take n) w = true := by
  unfold isInfix
  rw [List.any_eq_true]
  refine ⟨b, List.mem_range.mpr (by omega), ?_⟩
  unfold subL
  rw [beq_iff_eq, List.length_take, List.take_eq_take_iff]
  omega
theorem isInfix_longer {p w : List Nat} (h : w.length < p.length) : isInfix p w = false := by
  unfold isInfix
  rw [List.any_eq_false]
  intro k _ e
  have e := congrArg List.length (eq_of_beq e)
  rw [List.length_take, List.length_drop] at e
  omega
theorem isIs_b {a b : Bool} : isM (.bl a) (.bl b) = pure (a == b) := rfl
theorem findS_abcd : ∀ c ∈ Let 4, ∃ j : Nat, findS [c] [97, 98, 99, 100] = some j ∧ j < 4 ∧ c = 97 + j := by decide +kernel
theorem index_s {a b : List Nat} {k : Nat} (h : findS b a = some k) : indexV (.str a) (.str b) = pure (.int k) := by
  show (do let k ← optM (findS b a); pure (.int k) : M PV) = _
  rw [h]
  rfl
end EV

namespace EV
open PySem
local macro_rules | `(tactic| walk_at "evs1") => `(tactic| simp only [evalB, evalS, evalE, evalEs, evalO, evalIt, evalIfs, partM, getP_v, getP_o, getP_s, getV_v, getV_s, truM_b, truM_n, truM_i, truM_s, truM_l, truM_t, optM_s, lenV_l, lenV_t, lenV_s, seqOf_l, seqOf_t, seqOf_s, out_ret, out_next, add_i, sub_i, int_i, cmp_lt, cmp_le, cmp_gt, cmp_ge, cmp_eq, cmp_ne, cmp_is, cmp_in, cmp_nin, slot_cell, slot_ol, slot_s, rec_join, rec_sw, rec_ew, rec_count, rec_index, rec_indexl, rec_get, guard_t, asg_nm, asg_t0, asg_t2, ownD, pure_bind, bind_assoc, bltV, blt1, blt2, binV, isTy_int_int, isTy_int_str, isTy_int_bool, isTy_int_tuple, isTy_int_list, isTy_bl_int, isTy_bl_str, isTy_bl_bool, isTy_bl_tuple, isTy_bl_list, isTy_str_int, isTy_str_str, isTy_str_bool, isTy_str_tuple, isTy_str_list, isTy_tup_int, isTy_tup_str, isTy_tup_bool, isTy_tup_tuple, isTy_tup_list, isTy_lst_int, isTy_lst_str, isTy_lst_bool, isTy_lst_tuple, isTy_lst_list, isTy_dict_int, isTy_dict_str, isTy_dict_bool, isTy_dict_tuple, isTy_dict_list, isTy_non_int, isTy_non_str, isTy_non_bool, isTy_non_tuple, isTy_non_list, List.getElem?_cons_zero, List.getElem?_cons_succ, List.getElem?_nil, if_true, if_false, ↓reduceIte, Bool.false_eq_true, Bool.not_true, Bool.not_false, List.map_cons, List.map_nil, List.length_cons, List.length_nil, Nat.reduceSub, Nat.reduceAdd, List.replicate_succ, List.replicate_zero, wipeE, List.set_cons_zero, List.set_cons_succ, List.set_nil, List.cons_append, List.nil_append])
local macro_rules | `(tactic| walk_at "evs") => `(tactic| try walk_at "evs1")
theorem idx_sys0 {k : Nat} {rs : List Rl} : idxV (sP k rs) (.int 0) = pure (.int k) := idx_tup0 _ _
theorem idx_sys1 {k : Nat} {rs : List Rl} : idxV (sP k rs) (.int 1) = pure (.tup (rs.map rP)) := idx_tup1 _ _ _
theorem idx_rule0 {r : Rl} : idxV (rP r) (.int 0) = pure (.str r.1) := idx_tup0 _ _
theorem idx_rule1 {r : Rl} : idxV (rP r) (.int 1) = pure (.str r.2) := idx_tup1 _ _ _
theorem idx_rules {rs : List Rl} {i : Nat} {r : Rl} (h : rs[i]? = some r) : idxV (.tup (rs.map rP)) (.int (i : Int)) = pure (rP r) := idx_n (by rw [List.getElem?_map, h]; rfl)
/-- a list of letters -/
def chP (w : List Nat) : List PV := w.map fun c => .str [c]
theorem chP_plains : ∀ w : List Nat, plains (chP w) = true
  | [] => rfl
  | c :: w => by
    show (plain (.str [c]) && plains (chP w)) = true
    rw [chP_plains w]
    rfl
theorem chP_deps : ∀ w : List Nat, deps (chP w) = 0
  | [] => rfl
  | c :: w => by
    show max (dep (.str [c])) (deps (chP w)) = 0
    rw [chP_deps w]
    rfl
theorem chP_eqvs : ∀ a b : List Nat, eqvs (chP a) (chP b) = (a == b)
  | [], [] => rfl
  | [], _ :: _ => rfl
  | _ :: _, [] => rfl
  | c :: a, d :: b => by
    show (eqv (.str [c]) (.str [d]) && eqvs (chP a) (chP b)) = _
    rw [chP_eqvs a b]
    show (([c] == [d]) && (a == b)) = (c :: a == d :: b)
    simp [Bool.eq_iff_iff]
theorem okD_ch (w : List Nat) : okD (.lst (chP w)) = true := by
  unfold okD
  simp only [plain, chP_plains, dep, chP_deps, Bool.true_and]
  exact decide_eq_true (by omega)
theorem eqM_ch (a b : List Nat) : eqM (.lst (chP a)) (.lst (chP b)) = pure (a == b) := by
  show (if (okD (.lst (chP a)) && okD (.lst (chP b))) = true then pure (eqv (.lst (chP a)) (.lst (chP b))) else fail : M Bool) = _
  rw [okD_ch, okD_ch, if_pos (by rfl)]
  simp only [eqv, chP_eqvs]
theorem listV_ch {w : List Nat} : listV (.str w) = pure (.lst (chP w)) := rfl
end EV

namespace EV
open PySem
local macro_rules | `(tactic| walk_at "evs1") => `(tactic| simp only [evalB, evalS, evalE, evalEs, evalO, evalIt, evalIfs, partM, getP_v, getP_o, getP_s, getV_v, getV_s, truM_b, truM_n, truM_i, truM_s, truM_l, truM_t, optM_s, lenV_l, lenV_t, lenV_s, seqOf_l, seqOf_t, seqOf_s, out_ret, out_next, add_i, sub_i, int_i, cmp_lt, cmp_le, cmp_gt, cmp_ge, cmp_eq, cmp_ne, cmp_is, cmp_in, cmp_nin, slot_cell, slot_ol, slot_s, rec_join, rec_sw, rec_ew, rec_count, rec_index, rec_indexl, rec_get, guard_t, asg_nm, asg_t0, asg_t2, ownD, pure_bind, bind_assoc, bltV, blt1, blt2, binV, isTy_int_int, isTy_int_str, isTy_int_bool, isTy_int_tuple, isTy_int_list, isTy_bl_int, isTy_bl_str, isTy_bl_bool, isTy_bl_tuple, isTy_bl_list, isTy_str_int, isTy_str_str, isTy_str_bool, isTy_str_tuple, isTy_str_list, isTy_tup_int, isTy_tup_str, isTy_tup_bool, isTy_tup_tuple, isTy_tup_list, isTy_lst_int, isTy_lst_str, isTy_lst_bool, isTy_lst_tuple, isTy_lst_list, isTy_dict_int, isTy_dict_str, isTy_dict_bool, isTy_dict_tuple, isTy_dict_list, isTy_non_int, isTy_non_str, isTy_non_bool, isTy_non_tuple, isTy_non_list, List.getElem?_cons_zero, List.getElem?_cons_succ, List.getElem?_nil, if_true, if_false, ↓reduceIte, Bool.false_eq_true, Bool.not_true, Bool.not_false, List.map_cons, List.map_nil, List.length_cons, List.length_nil, Nat.reduceSub, Nat.reduceAdd, List.replicate_succ, List.replicate_zero, wipeE, List.set_cons_zero, List.set_cons_succ, List.set_nil, List.cons_append, List.nil_append])
local macro_rules | `(tactic| walk_at "evs") => `(tactic| try walk_at "evs1")
theorem flatM_id {f : PV → M (List PV)} {xs : List PV} (h : ∀ x ∈ xs, f x = pure [x]) : flatM f xs = pure xs := by
  rw [flatM_map (g := id) h, List.map_id]
theorem natsP_plains : ∀ l : List Nat, plains (natsP l) = true
  | [] => rfl
  | c :: w => by
    show (plain (.int c) && plains (natsP w)) = true
    rw [natsP_plains w]
    rfl
theorem natsP_deps : ∀ l : List Nat, deps (natsP l) = 0
  | [] => rfl
  | c :: w => by
    show max (dep (.int c)) (deps (natsP w)) = 0
    rw [natsP_deps w]
    rfl
theorem okD_nats (w : List Nat) : okD (.lst (natsP w)) = true := by
  unfold okD
  simp only [plain, natsP_plains, dep, natsP_deps, Bool.true_and]
  exact decide_eq_true (by omega)
theorem eqM_nats0 (l : List Nat) : eqM (.lst (natsP l)) (.lst []) = pure (l == []) := by
  show (if (okD (.lst (natsP l)) && okD (.lst [])) = true then pure (eqv (.lst (natsP l)) (.lst [])) else fail : M Bool) = _
  rw [okD_nats, if_pos (by rfl)]
  cases l <;> rfl
theorem okSame_nats (n : Nat) (l : List Nat) (h : l.length ≤ 1000) : okSame (n + 1) (.tup (natsP l)) = true := by
  simp only [okSame, Bool.and_eq_true, decide_eq_true_eq, List.all_eq_true]
  refine ⟨by unfold natsP; rw [List.length_map]; exact h, fun x hx => ?_⟩
  obtain ⟨k, _, rfl⟩ := List.mem_map.mp hx
  cases n <;> rfl
theorem places_len (p w : List Nat) : (places p w).length ≤ w.length + 1 := by
  unfold places
  refine Nat.le_trans (List.length_filter_le _ _) ?_
  rw [List.length_range]
  omega
end EV

namespace EV
local macro_rules | `(tactic| walk_at "evs1") => `(tactic| simp only [evalB, evalS, evalE, evalEs, evalO, evalIt, evalIfs, partM, getP_v, getP_o, getP_s, getV_v, getV_s, truM_b, truM_n, truM_i, truM_s, truM_l, truM_t, optM_s, lenV_l, lenV_t, lenV_s, seqOf_l, seqOf_t, seqOf_s, out_ret, out_next, add_i, sub_i, int_i, cmp_lt, cmp_le, cmp_gt, cmp_ge, cmp_eq, cmp_ne, cmp_is, cmp_in, cmp_nin, slot_cell, slot_ol, slot_s, rec_join, rec_sw, rec_ew, rec_count, rec_index, rec_indexl, rec_get, guard_t, asg_nm, asg_t0, asg_t2, ownD, pure_bind, bind_assoc, bltV, blt1, blt2, binV, isTy_int_int, isTy_int_str, isTy_int_bool, isTy_int_tuple, isTy_int_list, isTy_bl_int, isTy_bl_str, isTy_bl_bool, isTy_bl_tuple, isTy_bl_list, isTy_str_int, isTy_str_str, isTy_str_bool, isTy_str_tuple, isTy_str_list, isTy_tup_int, isTy_tup_str, isTy_tup_bool, isTy_tup_tuple, isTy_tup_list, isTy_lst_int, isTy_lst_str, isTy_lst_bool, isTy_lst_tuple, isTy_lst_list, isTy_dict_int, isTy_dict_str, isTy_dict_bool, isTy_dict_tuple, isTy_dict_list, isTy_non_int, isTy_non_str, isTy_non_bool, isTy_non_tuple, isTy_non_list, List.getElem?_cons_zero, List.getElem?_cons_succ, List.getElem?_nil, if_true, if_false, ↓reduceIte, Bool.false_eq_true, Bool.not_true, Bool.not_false, List.map_cons, List.map_nil, List.length_cons, List.length_nil, Nat.reduceSub, Nat.reduceAdd, List.replicate_succ, List.replicate_zero, wipeE, List.set_cons_zero, List.set_cons_succ, List.set_nil, List.cons_append, List.nil_append])
local macro_rules | `(tactic| walk_at "evs") => `(tactic| try walk_at "evs1")
theorem Wrd.le {k j : Nat} {w : List Nat} (h : Wrd k w) (kj : k ≤ j) : Wrd j w := fun c hc => by
  have q := h c hc
  unfold Let at q ⊢
  exact (List.take_sublist_take_left kj).subset q
end EV
namespace EV
open PySem
local macro_rules | `(tactic| walk_at "evs1") => `(tactic| simp only [evalB, evalS, evalE, evalEs, evalO, evalIt, evalIfs, partM, getP_v, getP_o, getP_s, getV_v, getV_s, truM_b, truM_n, truM_i, truM_s, truM_l, truM_t, optM_s, lenV_l, lenV_t, lenV_s, seqOf_l, seqOf_t, seqOf_s, out_ret, out_next, add_i, sub_i, int_i, cmp_lt, cmp_le, cmp_gt, cmp_ge, cmp_eq, cmp_ne, cmp_is, cmp_in, cmp_nin, slot_cell, slot_ol, slot_s, rec_join, rec_sw, rec_ew, rec_count, rec_index, rec_indexl, rec_get, guard_t, asg_nm, asg_t0, asg_t2, ownD, pure_bind, bind_assoc, bltV, blt1, blt2, binV, isTy_int_int, isTy_int_str, isTy_int_bool, isTy_int_tuple, isTy_int_list, isTy_bl_int, isTy_bl_str, isTy_bl_bool, isTy_bl_tuple, isTy_bl_list, isTy_str_int, isTy_str_str, isTy_str_bool, isTy_str_tuple, isTy_str_list, isTy_tup_int, isTy_tup_str, isTy_tup_bool, isTy_tup_tuple, isTy_tup_list, isTy_lst_int, isTy_lst_str, isTy_lst_bool, isTy_lst_tuple, isTy_lst_list, isTy_dict_int, isTy_dict_str, isTy_dict_bool, isTy_dict_tuple, isTy_dict_list, isTy_non_int, isTy_non_str, isTy_non_bool, isTy_non_tuple, isTy_non_list, List.getElem?_cons_zero, List.getElem?_cons_succ, List.getElem?_nil, if_true, if_false, ↓reduceIte, Bool.false_eq_true, Bool.not_true, Bool.not_false, List.map_cons, List.map_nil, List.length_cons, List.length_nil, Nat.reduceSub, Nat.reduceAdd, List.replicate_succ, List.replicate_zero, wipeE, List.set_cons_zero, List.set_cons_succ, List.set_nil, List.cons_append, List.nil_append])
local macro_rules | `(tactic| walk_at "evs") => `(tactic| try walk_at "evs1")
/-- how often each letter stands in a word -/
def cntP (w : List Nat) : List PV := [97, 98, 99, 100].map fun c => PV.int (w.count c)
theorem mul_zeros : mulV (.lst [.int 0]) (.int 4) = pure (.lst (cntP [])) := rfl
theorem aug_i {i j : Int} : augV .add (.int i) (.int j) = pure (.int (i + j)) := rfl
theorem mth_index {a v : PV} : mthV .index a [v] = indexV a v := rfl
theorem ixNat_n {j : Nat} : ixNat (.int (j : Int)) = some j := by
  show (if (0 : Int) ≤ j then some (j : Int).toNat else none) = _
  rw [if_pos (by omega)]
  rfl
theorem cnt_step (u : List Nat) {j : Nat} (hj : j < 4) : ∃ x : Int, (cntP u)[j]? = some (.int x) ∧ (cntP u).set j (.int (x + 1)) = cntP (u ++ [97 + j]) := by
  unfold cntP
  rcases j with _ | _ | _ | _ | j
  · exact ⟨_, rfl, by simp [List.count_append, List.count_cons, List.count_nil]⟩
  · exact ⟨_, rfl, by simp [List.count_append, List.count_cons, List.count_nil]⟩
  · exact ⟨_, rfl, by simp [List.count_append, List.count_cons, List.count_nil]⟩
  · exact ⟨_, rfl, by simp [List.count_append, List.count_cons, List.count_nil]⟩
  · omega
theorem cmp_isn {a b : PV} : cmpM .isn a b = (isM a b >>= fun r => pure (!r)) := rfl
theorem add_ss {a b : List Nat} (h : a.length + b.length ≤ 1000) : addV (.str a) (.str b) = pure (.str (a ++ b)) := by
  show (if a.length + b.length ≤ LINE then _ else _) = _
  rw [if_pos (by have : LINE = 16777216 := rfl; omega)]
end EV

set_option maxRecDepth 100000
/-! EvCu: _law_cup, and what a law asks of the evaluator from Does. -/
namespace EV
open PySem
local macro_rules | `(tactic| walk_at "evs1") => `(tactic| simp only [evalB, evalS, evalE, evalEs, evalO, evalIt, evalIfs, partM, getP_v, getP_o, getP_s, getV_v, getV_s, truM_b, truM_n, truM_i, truM_s, truM_l, truM_t, optM_s, lenV_l, lenV_t, lenV_s, seqOf_l, seqOf_t, seqOf_s, out_ret, out_next, add_i, sub_i, int_i, cmp_lt, cmp_le, cmp_gt, cmp_ge, cmp_eq, cmp_ne, cmp_is, cmp_in, cmp_nin, slot_cell, slot_ol, slot_s, rec_join, rec_sw, rec_ew, rec_count, rec_index, rec_indexl, rec_get, guard_t, asg_nm, asg_t0, asg_t2, ownD, pure_bind, bind_assoc, bltV, blt1, blt2, binV, isTy_int_int, isTy_int_str, isTy_int_bool, isTy_int_tuple, isTy_int_list, isTy_bl_int, isTy_bl_str, isTy_bl_bool, isTy_bl_tuple, isTy_bl_list, isTy_str_int, isTy_str_str, isTy_str_bool, isTy_str_tuple, isTy_str_list, isTy_tup_int, isTy_tup_str, isTy_tup_bool, isTy_tup_tuple, isTy_tup_list, isTy_lst_int, isTy_lst_str, isTy_lst_bool, isTy_lst_tuple, isTy_lst_list, isTy_dict_int, isTy_dict_str, isTy_dict_bool, isTy_dict_tuple, isTy_dict_list, isTy_non_int, isTy_non_str, isTy_non_bool, isTy_non_tuple, isTy_non_list, List.getElem?_cons_zero, List.getElem?_cons_succ, List.getElem?_nil, if_true, if_false, ↓reduceIte, Bool.false_eq_true, Bool.not_true, Bool.not_false, List.map_cons, List.map_nil, List.length_cons, List.length_nil, Nat.reduceSub, Nat.reduceAdd, List.replicate_succ, List.replicate_zero, wipeE, List.set_cons_zero, List.set_cons_succ, List.set_nil, List.cons_append, List.nil_append])
local macro_rules | `(tactic| walk_at "evs") => `(tactic| try walk_at "evs1")
def cupB (d a b m e : Int) : List CS := [.ret (.lst [(.ite (.cmp .ge (.peek 1) (.bin .pow (.cst (.int 10)) (.cst (.int 18)))) (.bin .fdiv (.peek 1) (.cst (.int d))) (.cst (.int 0))), (.bin .add (.bin .mod (.blt .int [(.bin .add (.bin .mul (.peek 1) (.cst (.int a))) (.cst (.int b)))]) (.cst (.int m))) (.cst (.int e)))])]
theorem mod_i {i j : Int} (h : j ≠ 0) : modV (.int i) (.int j) = pure (.int (i.fmod j)) := by
  show (if j ≠ 0 then _ else _) = _
  rw [if_pos h]
theorem fdiv_i {i j : Int} (h : 0 < j) (h2 : j < 1000000000) : fdivV (.int i) (.int j) = pure (.int (i.fdiv j)) := by
  show (if (decide (j ≠ 0) && decide (j.natAbs < 1073741824)) = true then _ else _) = _
  rw [if_pos]
  rw [Bool.and_eq_true, decide_eq_true_eq, decide_eq_true_eq]
  omega
theorem mul_i {i j : Int} (h : 0 ≤ j) (h2 : j < 2 ^ 60) : mulV (.int i) (.int j) = pure (.int (i * j)) := by
  show (if (small64 i || small64 j) = true then _ else _) = _
  rw [if_pos]
  rw [Bool.or_eq_true]
  right
  unfold small64
  rw [Bool.and_eq_true, decide_eq_true_eq, decide_eq_true_eq]
  omega
theorem law_cup (call : Str → List PV → M PV) {d a b m e : Int} (hd : 0 < d ∧ d < 1000000000) (ha : 0 ≤ a ∧ a < 2 ^ 60) (hm : m ≠ 0) (cell : Int) : ∃ i j, evalB call (cupB d a b m e) [.no, .val (.int cell)] [] = .ok (.ret (.lst [.int i, .int j])) [] := by
  have pw : powV (.int 10) (.int 18) = pure (.int (10 ^ 18)) := rfl
  unfold cupB
  by_cases h : (10 ^ 18 : Int) ≤ cell
  · refine ⟨cell.fdiv d, (cell * a + b).fmod m + e, ?_⟩
    walk_at "evs"
    rw [pw]
    walk_at "evs"
    rw [decide_eq_true h]
    walk_at "evs"
    rw [fdiv_i hd.1 hd.2]
    walk_at "evs"
    rw [mul_i ha.1 ha.2]
    walk_at "evs"
    rw [mod_i hm]
    walk_at "evs"
    rfl
  · refine ⟨0, (cell * a + b).fmod m + e, ?_⟩
    walk_at "evs"
    rw [pw]
    walk_at "evs"
    rw [decide_eq_false h]
    walk_at "evs"
    rw [mul_i ha.1 ha.2]
    walk_at "evs"
    rw [mod_i hm]
    walk_at "evs"
    rfl
/-- what a law asks -/
theorem whole_of {G : Tab} {bc bl : List CS} {env : Ev} {n : Nat} {d a b m e : Int} (hb : bc = cupB d a b m e) (hd : 0 < d ∧ d < 1000000000) (ha : 0 ≤ a ∧ a < 2 ^ 60) (hm : m ≠ 0)
    (h : Does (evalB (evalF G (n + 1)) bl env >>= outV) fun v => v = .bl true) (cell : Int) :
    ∃ i j c', evalB (evalF G n) bc [.no, .val (.int cell)] [] = .ok (.ret (.lst [.int i, .int j])) [] ∧ (evalB (evalF G (n + 1)) bl env >>= outV) [.int i, .int j] = .ok (.bl true) c' := by
  subst hb
  obtain ⟨i, j, e1⟩ := law_cup (evalF G n) hd ha hm cell
  obtain ⟨v, c', e2, h2, h3⟩ := (h [.int i, .int j] ⟨i, j, rfl⟩).ok
  subst h2
  exact ⟨i, j, c', e1, e2⟩
end EV

set_option maxRecDepth 100000
/-! EvSt: the laws' steps and what is behind them. -/
namespace EV
open PySem
local macro_rules | `(tactic| walk_at "evs1") => `(tactic| simp only [evalB, evalS, evalE, evalEs, evalO, evalIt, evalIfs, partM, getP_v, getP_o, getP_s, getV_v, getV_s, truM_b, truM_n, truM_i, truM_s, truM_l, truM_t, optM_s, lenV_l, lenV_t, lenV_s, seqOf_l, seqOf_t, seqOf_s, out_ret, out_next, add_i, sub_i, int_i, cmp_lt, cmp_le, cmp_gt, cmp_ge, cmp_eq, cmp_ne, cmp_is, cmp_in, cmp_nin, slot_cell, slot_ol, slot_s, rec_join, rec_sw, rec_ew, rec_count, rec_index, rec_indexl, rec_get, guard_t, asg_nm, asg_t0, asg_t2, ownD, pure_bind, bind_assoc, bltV, blt1, blt2, binV, isTy_int_int, isTy_int_str, isTy_int_bool, isTy_int_tuple, isTy_int_list, isTy_bl_int, isTy_bl_str, isTy_bl_bool, isTy_bl_tuple, isTy_bl_list, isTy_str_int, isTy_str_str, isTy_str_bool, isTy_str_tuple, isTy_str_list, isTy_tup_int, isTy_tup_str, isTy_tup_bool, isTy_tup_tuple, isTy_tup_list, isTy_lst_int, isTy_lst_str, isTy_lst_bool, isTy_lst_tuple, isTy_lst_list, isTy_dict_int, isTy_dict_str, isTy_dict_bool, isTy_dict_tuple, isTy_dict_list, isTy_non_int, isTy_non_str, isTy_non_bool, isTy_non_tuple, isTy_non_list, List.getElem?_cons_zero, List.getElem?_cons_succ, List.getElem?_nil, if_true, if_false, ↓reduceIte, Bool.false_eq_true, Bool.not_true, Bool.not_false, List.map_cons, List.map_nil, List.length_cons, List.length_nil, Nat.reduceSub, Nat.reduceAdd, List.replicate_succ, List.replicate_zero, wipeE, List.set_cons_zero, List.set_cons_succ, List.set_nil, List.cons_append, List.nil_append])
local macro_rules | `(tactic| walk_at "evs") => `(tactic| try walk_at "evs1")
def stepsB : List CS := [.asg (.nm 2) (.lst []),
  .fors (.nm 3) (.rng [(.blt .len [(.peek 1)])]) [.asg (.nm 2) (.bin .add (.peek 2) (.comp (.tup [(.var 3), (.var 4)]) [4] (.mk (.nm 4) (.rng [(.blt .len [(.idx (.peek 0) (.cst (.int 1)))])]) [(.mth .startswith (.slc (.peek 1) (some (.peek 3)) none) [(.idx (.idx (.idx (.peek 0) (.cst (.int 1))) (.peek 4)) (.cst (.int 0)))])]) []))],
  .ret (.var 2)]
def behindB : List CS := [.asg (.tup [(.nm 3), (.nm 4)]) (.idx (.idx (.peek 0) (.cst (.int 1))) (.idx (.peek 2) (.cst (.int 1)))),
  .ret (.bin .add (.bin .add (.slc (.peek 1) none (some (.idx (.peek 2) (.cst (.int 0))))) (.peek 4)) (.slc (.peek 1) (some (.bin .add (.idx (.peek 2) (.cst (.int 0))) (.blt .len [(.peek 3)]))) none))]
/-- a pair of whole numbers -/
def prP (s : Nat × Nat) : PV := .tup [.int s.1, .int s.2]
def lhs (rs : List Rl) (a : Nat) : List Nat := (rs.getD a ([], [])).1
def rhs (rs : List Rl) (a : Nat) : List Nat := (rs.getD a ([], [])).2
/-- a word stands at a place -/
def at_ (p w : List Nat) (k : Nat) : Bool := (w.drop k).take p.length == p
def stepsAt (rs : List Rl) (w : List Nat) (p : Nat) : List (Nat × Nat) := ((List.range rs.length).filter fun a => at_ (lhs rs a) w p).map fun a => (p, a)
def steps (rs : List Rl) (w : List Nat) : List (Nat × Nat) := (List.range w.length).flatMap (stepsAt rs w)
def behind (rs : List Rl) (w : List Nat) (s : Nat × Nat) : List Nat := w.take s.1 ++ rhs rs s.2 ++ w.drop (s.1 + (lhs rs s.2).length)
theorem mem_steps {rs : List Rl} {w : List Nat} {s : Nat × Nat} : s ∈ steps rs w ↔ s.1 < w.length ∧ s.2 < rs.length ∧ at_ (lhs rs s.2) w s.1 = true := by
  obtain ⟨p, a⟩ := s
  unfold steps stepsAt
  rw [List.mem_flatMap]
  constructor
  · rintro ⟨q, hq, h⟩
    obtain ⟨b, hb, e⟩ := List.mem_map.mp h
    cases e
    obtain ⟨h1, h2⟩ := List.mem_filter.mp hb
    exact ⟨List.mem_range.mp hq, List.mem_range.mp h1, h2⟩
  · rintro ⟨h1, h2, h3⟩
    exact ⟨p, List.mem_range.mpr h1, List.mem_map.mpr ⟨a, List.mem_filter.mpr ⟨List.mem_range.mpr h2, h3⟩, rfl⟩⟩
theorem at_len {p w : List Nat} {k : Nat} (h : at_ p w k = true) : k + p.length ≤ w.length ∨ p = [] := by
  unfold at_ at h
  have e := congrArg List.length (eq_of_beq h)
  rw [List.length_take, List.length_drop] at e
  cases p with
  | nil => exact .inr rfl
  | cons c p => left; rw [List.length_cons] at *; omega
/-- the word, cut at a place where p stands -/
theorem at_cut {p w : List Nat} {k : Nat} (h : at_ p w k = true) : w = w.take k ++ p ++ w.drop (k + p.length) := by
  unfold at_ at h
  have e := eq_of_beq h
  conv => lhs; rw [← List.take_append_drop k w]
  conv => lhs; rw [← List.take_append_drop p.length (w.drop k), List.drop_drop, e]
  rw [List.append_assoc]
theorem steps_len (rs : List Rl) (w : List Nat) (m : Nat) (h8 : rs.length ≤ 8) : ((List.range m).flatMap (stepsAt rs w)).length ≤ m * 8 := by
  induction m with
  | zero => exact Nat.le_refl _
  | succ m ih =>
    rw [List.range_succ, List.flatMap_append, List.length_append]
    have : (([m] : List Nat).flatMap (stepsAt rs w)).length ≤ 8 := by
      rw [List.flatMap_cons, List.flatMap_nil, List.append_nil]
      unfold stepsAt
      rw [List.length_map]
      refine Nat.le_trans (List.length_filter_le _ _) ?_
      rw [List.length_range]
      exact h8
    omega
/-- a loop without a draw that goes to its end -/
theorem forL_det {f : PV → Ev → M Out} {g : Out → M α} {r : M α} (I : Nat → Ev → Prop) : ∀ {xs : List PV} {k : Nat} {env : Ev}, I k env → (∀ (i : Nat) x e, xs[i]? = some x → I (k + i) e → ∃ e', f x e = Pure.pure (.next e') ∧ I (k + i + 1) e') →
    (∀ e, I (k + xs.length) e → g (.next e) = r) → (forL f xs env >>= g) = r
  | [], k, env, h, _, fin => fin env h
  | x :: xs, k, env, h, st, fin => by
    unfold forL
    obtain ⟨e', e1, h1⟩ := st 0 x env rfl h
    rw [e1, pure_bind]
    refine forL_det I (xs := xs) (k := k + 1) (env := e') h1 (fun i y e hi hI => ?_) (fun e hI => fin e ?_)
    · have w := st (i + 1) y e (by rw [List.getElem?_cons_succ]; exact hi) (by rw [show k + (i + 1) = k + 1 + i by omega]; exact hI)
      rw [show k + (i + 1) + 1 = k + 1 + i + 1 by omega] at w
      exact w
    · rw [show k + (x :: xs).length = k + 1 + xs.length by rw [List.length_cons]; omega]
      exact hI
theorem cut_from {α : Type} (l : List α) (k : Nat) : cut l (some (k : Int)) none = l.drop k := by
  unfold cut clip
  simp only [show ¬ ((k : Int) < 0) by omega, if_false, Int.toNat_natCast]
  by_cases h : k ≤ l.length
  · rw [Nat.min_eq_left h]
    exact List.take_of_length_le (by rw [List.length_drop]; exact Nat.le_refl _)
  · rw [Nat.min_eq_right (by omega), List.drop_eq_nil_of_le (Nat.le_refl _), List.drop_eq_nil_of_le (by omega), List.take_nil]
theorem slc_from {w : List Nat} {a : Nat} : slcV (.str w) (some (a : Int)) none = pure (.str (w.drop a)) := by
  show (pure (.str (cut w (some (a : Int)) none)) : M PV) = _
  rw [cut_from]
theorem starts_s {a b : List Nat} : mthV .startswith (.str a) [.str b] = pure (.bl (a.take b.length == b)) := rfl
theorem add_ls {a b : List PV} (h : a.length + b.length ≤ 1000000) : addV (.lst a) (.lst b) = pure (.lst (a ++ b)) := by
  show (if a.length + b.length ≤ LINE then _ else _) = _
  rw [if_pos (by have : LINE = 16777216 := rfl; omega)]
theorem law_steps {G : Tab} (h : Fn G "_law_steps" 2 5 stepsB) (n : Nat) {k : Nat} {rs : List Rl} {w : List Nat} (h8 : rs.length ≤ 8) (h60 : w.length ≤ 1000) :
    evalF G (n + 1) "_law_steps" [sP k rs, .str w] = pure (.lst ((steps rs w).map prP)) := by
  rw [h.at _ _ rfl]
  unfold stepsB
  walk_at "evs"
  rw [rngN _ (by omega)]
  walk_at "evs"
  refine forL_det (k := 0) (fun m e => ∃ s3 s4, e = [.val (sP k rs), .val (.str w), .val (.lst (((List.range m).flatMap (stepsAt rs w)).map prP)), s3, s4]) ⟨_, _, rfl⟩ (fun i x e hx he => ?_) (fun e he => ?_)
  · obtain ⟨s3, s4, rfl⟩ := he
    rw [Nat.zero_add] at *
    rw [List.getElem?_map] at hx
    cases hc : (List.range w.length)[i]? with
    | none => rw [hc] at hx; cases hx
    | some j =>
      rw [hc] at hx
      cases hx
      obtain ⟨hi, hc2⟩ := List.getElem?_eq_some_iff.mp hc
      rw [List.getElem_range] at hc2
      subst hc2
      rw [List.length_range] at hi
      walk_at "evs"
      rw [idx_sys1]
      walk_at "evs"
      rw [List.length_map, rngN _ (by omega)]
      walk_at "evs"
      rw [flatM_overF (b := fun a => at_ (lhs rs a) w i) (g := fun (a : Nat) => prP (i, a))]
      · walk_at "evs"
        have hb := steps_len rs w i h8
        rw [add_ls (by
          rw [List.length_map, List.length_map]
          have := List.length_filter_le (fun a => at_ (lhs rs a) w i) (List.range rs.length)
          rw [List.length_range] at this
          omega)]
        walk_at "evs"
        have e : List.map prP (List.flatMap (stepsAt rs w) (List.range i)) ++ List.map (fun (a : Nat) => prP (i, a)) (List.filter (fun a => at_ (lhs rs a) w i) (List.range rs.length)) = List.map prP (List.flatMap (stepsAt rs w) (List.range (i + 1))) := by
          rw [List.range_succ, List.flatMap_append, List.map_append, List.flatMap_cons, List.flatMap_nil, List.append_nil]
          unfold stepsAt
          rw [List.map_map]
          rfl
        rw [e]
        exact ⟨_, rfl, _, _, rfl⟩
      · intro a ha
        have ha := List.mem_range.mp ha
        rw [slc_from]
        walk_at "evs"
        rw [idx_rules (List.getElem?_eq_getElem ha)]
        walk_at "evs"
        rw [idx_rule0]
        walk_at "evs"
        rw [starts_s]
        walk_at "evs"
        have e : lhs rs a = rs[a].1 := by
          unfold lhs
          rw [List.getD_eq_getElem?_getD, List.getElem?_eq_getElem ha]
          rfl
        rw [← e]
        show (if at_ (lhs rs a) w i = true then _ else _) >>= _ = _
        split <;> simp_all [prP]
  · obtain ⟨s3, s4, rfl⟩ := he
    rw [Nat.zero_add, List.length_map, List.length_range]
    walk_at "evs"
    rfl
theorem law_behind {G : Tab} (h : Fn G "_law_behind" 3 5 behindB) (n : Nat) {k : Nat} {rs : List Rl} {w : List Nat} {s : Nat × Nat} (ha : s.2 < rs.length) (hw : w.length ≤ 100) (hr : (rhs rs s.2).length ≤ 100) :
    evalF G (n + 1) "_law_behind" [sP k rs, .str w, prP s] = pure (.str (behind rs w s)) := by
  have e1 : lhs rs s.2 = rs[s.2].1 := by
    unfold lhs
    rw [List.getD_eq_getElem?_getD, List.getElem?_eq_getElem ha]
    rfl
  have e2 : rhs rs s.2 = rs[s.2].2 := by
    unfold rhs
    rw [List.getD_eq_getElem?_getD, List.getElem?_eq_getElem ha]
    rfl
  unfold behind
  rw [e2] at hr
  rw [e1, e2, h.at _ _ rfl]
  unfold behindB prP
  walk_at "evs"
  rw [idx_sys1]
  walk_at "evs"
  rw [idx_tup1]
  walk_at "evs"
  rw [idx_rules (List.getElem?_eq_getElem ha)]
  unfold rP
  walk_at "evs"
  rw [idx_tup0]
  walk_at "evs"
  rw [slc_to]
  walk_at "evs"
  have t1 : (w.take s.1).length ≤ 100 := by rw [List.length_take]; omega
  rw [add_ss (by omega)]
  walk_at "evs"
  rw [show ((s.1 : Int) + (rs[s.2].1.length : Int)) = ((s.1 + rs[s.2].1.length : Nat) : Int) by omega, slc_from]
  walk_at "evs"
  rw [add_ss (by rw [List.length_append, List.length_drop]; omega)]
  walk_at "evs"
end EV
namespace EV
local macro_rules | `(tactic| walk_at "evs1") => `(tactic| simp only [evalB, evalS, evalE, evalEs, evalO, evalIt, evalIfs, partM, getP_v, getP_o, getP_s, getV_v, getV_s, truM_b, truM_n, truM_i, truM_s, truM_l, truM_t, optM_s, lenV_l, lenV_t, lenV_s, seqOf_l, seqOf_t, seqOf_s, out_ret, out_next, add_i, sub_i, int_i, cmp_lt, cmp_le, cmp_gt, cmp_ge, cmp_eq, cmp_ne, cmp_is, cmp_in, cmp_nin, slot_cell, slot_ol, slot_s, rec_join, rec_sw, rec_ew, rec_count, rec_index, rec_indexl, rec_get, guard_t, asg_nm, asg_t0, asg_t2, ownD, pure_bind, bind_assoc, bltV, blt1, blt2, binV, isTy_int_int, isTy_int_str, isTy_int_bool, isTy_int_tuple, isTy_int_list, isTy_bl_int, isTy_bl_str, isTy_bl_bool, isTy_bl_tuple, isTy_bl_list, isTy_str_int, isTy_str_str, isTy_str_bool, isTy_str_tuple, isTy_str_list, isTy_tup_int, isTy_tup_str, isTy_tup_bool, isTy_tup_tuple, isTy_tup_list, isTy_lst_int, isTy_lst_str, isTy_lst_bool, isTy_lst_tuple, isTy_lst_list, isTy_dict_int, isTy_dict_str, isTy_dict_bool, isTy_dict_tuple, isTy_dict_list, isTy_non_int, isTy_non_str, isTy_non_bool, isTy_non_tuple, isTy_non_list, List.getElem?_cons_zero, List.getElem?_cons_succ, List.getElem?_nil, if_true, if_false, ↓reduceIte, Bool.false_eq_true, Bool.not_true, Bool.not_false, List.map_cons, List.map_nil, List.length_cons, List.length_nil, Nat.reduceSub, Nat.reduceAdd, List.replicate_succ, List.replicate_zero, wipeE, List.set_cons_zero, List.set_cons_succ, List.set_nil, List.cons_append, List.nil_append])
local macro_rules | `(tactic| walk_at "evs") => `(tactic| try walk_at "evs1")
theorem asg_rP {i j : Nat} {r : Rl} {e : Ev} : asgT (.tup [.nm i, .nm j]) (rP r) e = pure ((e.set i (.val (.str r.1))).set j (.val (.str r.2))) := rfl
theorem asg_prP {i j : Nat} {r : Nat × Nat} {e : Ev} : asgT (.tup [.nm i, .nm j]) (prP r) e = pure ((e.set i (.val (.int r.1))).set j (.val (.int r.2))) := rfl
theorem count_sc {w : List Nat} {c : Nat} : mthV .count (.str w) [.str [c]] = pure (.int (w.count c)) := rfl
theorem idx_pr0 {s : Nat × Nat} : idxV (prP s) (.int 0) = pure (.int s.1) := idx_tup0 _ _
theorem idx_pr1 {s : Nat × Nat} : idxV (prP s) (.int 1) = pure (.int s.2) := idx_tup1 _ _ _
theorem neg_i {i : Int} : negV (.int i) = pure (.int (-i)) := rfl
theorem par2 {i j : Nat} {u v : PV} {e : Ev} : parT [(i, false), (j, false)] [u, v] e = pure ((e.set i (.val u)).set j (.val v)) := rfl
theorem par3 {i j k : Nat} {u v w : PV} {e : Ev} : parT [(i, false), (j, false), (k, false)] [u, v, w] e = pure (((e.set i (.val u)).set j (.val v)).set k (.val w)) := rfl
local macro_rules | `(tactic| walk_at "evt") => `(tactic| repeat (first | walk_at "evs1" | simp only [idx_sys0, idx_sys1, idx_rule0, idx_rule1, idx_pr0, idx_pr1, idx_tup0, idx_tup1, eqM_int, eqM_str, starts_s, slc_from, slc_to, slc_s, tup_l, list_s, str_s, isM_nn, isM_in, isM_bn, isM_sn, isM_bb, cmp_isn, neg_i, par2, par3, asg_rP, asg_prP, asg_t2v, count_sc]))
end EV

set_option maxRecDepth 100000
/-! EvDe: the program's steps: can_in, behind_in, fits_step, words_along_in, fits_derivation. -/
namespace EV
open PySem
local macro_rules | `(tactic| walk_at "evs1") => `(tactic| simp only [evalB, evalS, evalE, evalEs, evalO, evalIt, evalIfs, partM, getP_v, getP_o, getP_s, getV_v, getV_s, truM_b, truM_n, truM_i, truM_s, truM_l, truM_t, optM_s, lenV_l, lenV_t, lenV_s, seqOf_l, seqOf_t, seqOf_s, out_ret, out_next, add_i, sub_i, int_i, cmp_lt, cmp_le, cmp_gt, cmp_ge, cmp_eq, cmp_ne, cmp_is, cmp_in, cmp_nin, slot_cell, slot_ol, slot_s, rec_join, rec_sw, rec_ew, rec_count, rec_index, rec_indexl, rec_get, guard_t, asg_nm, asg_t0, asg_t2, ownD, pure_bind, bind_assoc, bltV, blt1, blt2, binV, isTy_int_int, isTy_int_str, isTy_int_bool, isTy_int_tuple, isTy_int_list, isTy_bl_int, isTy_bl_str, isTy_bl_bool, isTy_bl_tuple, isTy_bl_list, isTy_str_int, isTy_str_str, isTy_str_bool, isTy_str_tuple, isTy_str_list, isTy_tup_int, isTy_tup_str, isTy_tup_bool, isTy_tup_tuple, isTy_tup_list, isTy_lst_int, isTy_lst_str, isTy_lst_bool, isTy_lst_tuple, isTy_lst_list, isTy_dict_int, isTy_dict_str, isTy_dict_bool, isTy_dict_tuple, isTy_dict_list, isTy_non_int, isTy_non_str, isTy_non_bool, isTy_non_tuple, isTy_non_list, List.getElem?_cons_zero, List.getElem?_cons_succ, List.getElem?_nil, if_true, if_false, ↓reduceIte, Bool.false_eq_true, Bool.not_true, Bool.not_false, List.map_cons, List.map_nil, List.length_cons, List.length_nil, Nat.reduceSub, Nat.reduceAdd, List.replicate_succ, List.replicate_zero, wipeE, List.set_cons_zero, List.set_cons_succ, List.set_nil, List.cons_append, List.nil_append])
local macro_rules | `(tactic| walk_at "evs") => `(tactic| try walk_at "evs1")
local macro_rules | `(tactic| walk_at "evt") => `(tactic| repeat (first | walk_at "evs1" | simp only [idx_sys0, idx_sys1, idx_rule0, idx_rule1, idx_pr0, idx_pr1, idx_tup0, idx_tup1, eqM_int, eqM_str, starts_s, slc_from, slc_to, slc_s, tup_l, list_s, str_s, isM_nn, isM_in, isM_bn, isM_sn, isM_bb, cmp_isn, neg_i, par2, par3, asg_rP, asg_prP, asg_t2v, count_sc]))
def behindInB : List CS := [.asg (.tup [(.nm 3), (.nm 4)]) (.idx (.idx (.peek 0) (.glb "RULES" (.int 1))) (.idx (.peek 2) (.glb "RULE" (.int 1)))),
  .ret (.bin .add (.bin .add (.slc (.peek 1) none (some (.idx (.peek 2) (.glb "PLACE" (.int 0))))) (.peek 4)) (.slc (.peek 1) (some (.bin .add (.idx (.peek 2) (.glb "PLACE" (.int 0))) (.blt .len [(.peek 3)]))) none))]
def canB : List CS := [.asg (.nm 3) (.idx (.idx (.idx (.peek 0) (.glb "RULES" (.int 1))) (.idx (.peek 2) (.glb "RULE" (.int 1)))) (.cst (.int 0))),
  .ret (.cmp .eq (.slc (.peek 1) (some (.idx (.peek 2) (.glb "PLACE" (.int 0)))) (some (.bin .add (.idx (.peek 2) (.glb "PLACE" (.int 0))) (.blt .len [(.peek 3)])))) (.peek 3))]
def fstepB : List CS := [.ifs (.or (.not (.call "is_tuple_of" [(.var 1), (.cst (.int 2)), (.cst (.int 2))])) (.not (.call "fits_whole" [(.idx (.peek 1) (.glb "PLACE" (.int 0))), (.cst (.int 0)), (.cst (.int 1000))]))) [.ret (.cst (.bl false))] [],
  .ret (.call "fits_whole" [(.idx (.peek 1) (.glb "RULE" (.int 1))), (.cst (.int 0)), (.bin .sub (.blt .len [(.idx (.peek 0) (.glb "RULES" (.int 1)))]) (.cst (.int 1)))])]
def alongLoop : List CS := [.ifs (.not (.call "can_in" [(.var 0), (.idx (.peek 3) (.neg (.cst (.int 1)))), (.var 4)])) [.ret (.cst .non)] [], .app 3 (.call "behind_in" [(.var 0), (.idx (.peek 3) (.neg (.cst (.int 1)))), (.var 4)])]
def alongB : List CS := [.own 3 (.lst [(.var 1)]),
  .fors (.nm 4) (.seq (.var 2)) alongLoop,
  .freeze 3,
  .ret (.var 3)]
def fderB : List CS := [.ifs (.or (.not (.call "is_tuple_of" [(.var 2), (.cst (.int 0)), (.glb "STEPS" (.int 60))])) (.not (.blt .all [(.comp (.call "fits_step" [(.var 0), (.var 3)]) [3] (.mk (.nm 3) (.seq (.peek 2)) []) [])]))) [.ret (.cst (.bl false))] [],
  .ret (.cmp .isn (.call "words_along_in" [(.var 0), (.var 1), (.var 2)]) (.cst .non))]
def nderB : List CS := [.ifs (.not (.call "fits_derivation" [(.var 0), (.var 1), (.var 2)])) [.raise "InvalidStep" [(.cst (.str [110, 111, 116, 32, 97, 32, 100, 101, 114, 105, 118, 97, 116, 105, 111, 110]))]] []]
def isDerB : List CS := [.expr (.call "need_both" [(.var 0), (.var 1)]),
  .ret (.call "fits_derivation" [(.var 0), (.var 1), (.var 2)])]
def wordsAlongB : List CS := [.expr (.call "need_both" [(.var 0), (.var 1)]),
  .expr (.call "need_derivation" [(.var 0), (.var 1), (.var 2)]),
  .ret (.blt .tuple [(.call "words_along_in" [(.var 0), (.var 1), (.var 2)])])]
/-- the steps' part of the table -/
structure StpC (G : Tab) : Prop extends Base G where
  behind : Fn G "behind_in" 3 5 behindInB
  can : Fn G "can_in" 3 4 canB
  fstep : Fn G "fits_step" 2 2 fstepB
structure StpB (G : Tab) : Prop extends StpC G where
  along : Fn G "words_along_in" 3 5 alongB
  fder : Fn G "fits_derivation" 3 4 fderB
theorem lhs_at {rs : List Rl} {a : Nat} (ha : a < rs.length) : lhs rs a = rs[a].1 := by
  unfold lhs
  rw [List.getD_eq_getElem?_getD, List.getElem?_eq_getElem ha]
  rfl
theorem rhs_at {rs : List Rl} {a : Nat} (ha : a < rs.length) : rhs rs a = rs[a].2 := by
  unfold rhs
  rw [List.getD_eq_getElem?_getD, List.getElem?_eq_getElem ha]
  rfl
theorem add_sL {a b : List Nat} (h : a.length + b.length ≤ 1000000) : addV (.str a) (.str b) = pure (.str (a ++ b)) := by
  show (if a.length + b.length ≤ LINE then _ else _) = _
  rw [if_pos (by have : LINE = 16777216 := rfl; omega)]
theorem behind_in {G : Tab} (B : StpC G) (n : Nat) {k : Nat} {rs : List Rl} {w : List Nat} {s : Nat × Nat} (ha : s.2 < rs.length) (hw : w.length ≤ 500) (hr : (rhs rs s.2).length ≤ 100) :
    evalF G (n + 1) "behind_in" [sP k rs, .str w, prP s] = pure (.str (behind rs w s)) := by
  unfold behind
  rw [rhs_at ha] at hr
  rw [lhs_at ha, rhs_at ha, B.behind.at _ _ rfl]
  unfold behindInB
  walk_at "evt"
  rw [idx_rules (List.getElem?_eq_getElem ha)]
  walk_at "evt"
  have t1 : (w.take s.1).length ≤ 500 := by rw [List.length_take]; omega
  rw [add_sL (by omega)]
  walk_at "evs"
  rw [show ((s.1 : Int) + (rs[s.2].1.length : Int)) = ((s.1 + rs[s.2].1.length : Nat) : Int) by omega, slc_from]
  walk_at "evs"
  rw [add_sL (by rw [List.length_append, List.length_drop]; omega)]
  walk_at "evs"
theorem can_in {G : Tab} (B : StpC G) (n : Nat) {k : Nat} {rs : List Rl} {w : List Nat} {s : Nat × Nat} (ha : s.2 < rs.length) :
    evalF G (n + 1) "can_in" [sP k rs, .str w, prP s] = pure (.bl (at_ (lhs rs s.2) w s.1)) := by
  rw [lhs_at ha, B.can.at _ _ rfl]
  unfold canB
  walk_at "evt"
  rw [idx_rules (List.getElem?_eq_getElem ha)]
  walk_at "evt"
  rw [show ((s.1 : Int) + (rs[s.2].1.length : Int)) = ((s.1 + rs[s.2].1.length : Nat) : Int) by omega, slc_s]
  walk_at "evt"
  rw [show s.1 + rs[s.2].1.length - s.1 = rs[s.2].1.length by omega]
  rfl
theorem whole_b {G : Tab} (h : Fn G "fits_whole" 3 3 wholeB) (n : Nat) (i : Int) (lo hi : Int) :
    evalF G (n + 1) "fits_whole" [.int i, .int lo, .int hi] = pure (.bl (decide (lo ≤ i) && decide (i ≤ hi))) := by
  rw [h.at _ _ rfl]
  unfold wholeB
  walk_at "evs"
  by_cases h1 : lo ≤ i <;> simp [h1]
theorem tuple_b {G : Tab} (h : Fn G "is_tuple_of" 3 3 tupB) (n : Nat) (l : List PV) (lo hi : Int) :
    evalF G (n + 1) "is_tuple_of" [.tup l, .int lo, .int hi] = pure (.bl (decide (lo ≤ l.length) && decide ((l.length : Int) ≤ hi))) := by
  rw [h.at _ _ rfl]
  unfold tupB
  walk_at "evs"
  by_cases h1 : lo ≤ l.length <;> simp [h1]
def fitS (rs : List Rl) (s : Nat × Nat) : Bool := decide (s.1 ≤ 1000) && decide (s.2 < rs.length)
theorem fits_step {G : Tab} (B : StpC G) (n : Nat) {k : Nat} {rs : List Rl} {s : Nat × Nat} :
    evalF G (n + 2) "fits_step" [sP k rs, prP s] = pure (.bl (fitS rs s)) := by
  rw [B.fstep.at _ _ rfl]
  unfold fstepB
  walk_at "evs"
  rw [show evalF G (n + 1) "is_tuple_of" [prP s, .int 2, .int 2] = pure (.bl true) from is_tuple_of B.tup n [.int s.1, .int s.2] 2 2 (by simp) (by simp)]
  walk_at "evt"
  rw [whole_b B.whole]
  walk_at "evt"
  unfold fitS
  rw [decide_eq_true (show (0 : Int) ≤ s.1 by omega)]
  by_cases h : s.1 ≤ 1000
  · rw [decide_eq_true (show (s.1 : Int) ≤ 1000 by omega), decide_eq_true h]
    simp only [Bool.and_true]
    walk_at "evt"
    rw [whole_b B.whole, List.length_map]
    walk_at "evs"
    by_cases h2 : s.2 < rs.length
    · rw [decide_eq_true h2, decide_eq_true (show (s.2 : Int) ≤ (rs.length : Int) - 1 by omega)]
      simp
    · rw [decide_eq_false h2, decide_eq_false (show ¬ (s.2 : Int) ≤ (rs.length : Int) - 1 by omega)]
      simp
  · rw [decide_eq_false (show ¬ (s.1 : Int) ≤ 1000 by omega), decide_eq_false h]
    simp only [Bool.and_false]
    walk_at "evt"
    rfl
/-- a loop over values of a kind, with a state; it may end with a value -/
theorem forL_fold {σ α : Type} {f : PV → Ev → M Out} {inj : α → PV} {r : PV} (step : σ → α → Option σ) (I : Nat → σ → Ev → Prop) : ∀ {xs : List α} {k : Nat} {s : σ} {env : Ev}, I k s env →
    (∀ (i : Nat) a s e, xs[i]? = some a → I (k + i) s e → match step s a with
      | some s' => ∃ e', f (inj a) e = Pure.pure (.next e') ∧ I (k + i + 1) s' e'
      | none => f (inj a) e = Pure.pure (.ret r)) →
    match xs.foldlM step s with
    | some s' => ∃ e', forL f (xs.map inj) env = Pure.pure (.next e') ∧ I (k + xs.length) s' e'
    | none => forL f (xs.map inj) env = Pure.pure (.ret r)
  | [], k, s, env, h, _ => ⟨env, rfl, h⟩
  | x :: xs, k, s, env, h, st => by
    have q := st 0 x s env rfl h
    rw [List.foldlM_cons]
    cases e : step s x with
    | none =>
      rw [e] at q
      show forL f (inj x :: xs.map inj) env = _
      unfold forL
      rw [show f (inj x) env = Pure.pure (.ret r) from q]
      rfl
    | some s' =>
      rw [e] at q
      obtain ⟨e', q1, q2⟩ := q
      have go := forL_fold step I (xs := xs) (k := k + 1) (s := s') (env := e') q2 fun i a t e hi hI => by
        have w := st (i + 1) a t e (by rw [List.getElem?_cons_succ]; exact hi) (by rw [show k + (i + 1) = k + 1 + i by omega]; exact hI)
        rw [show k + (i + 1) + 1 = k + 1 + i + 1 by omega] at w
        exact w
      have eq : forL f ((x :: xs).map inj) env = forL f (xs.map inj) e' := by
        show forL f (inj x :: xs.map inj) env = _
        unfold forL
        rw [q1, pure_bind]
        cases xs <;> rfl
      rw [eq, show k + (x :: xs).length = k + 1 + xs.length by rw [List.length_cons]; omega]
      exact go
/-- one word more along steps -/
def stepW (rs : List Rl) (ws : List (List Nat)) (s : Nat × Nat) : Option (List (List Nat)) := match ws.getLast? with
  | some v => if at_ (lhs rs s.2) v s.1 then some (ws ++ [behind rs v s]) else none
  | none => none
/-- the words along steps -/
def along (rs : List Rl) (w : List Nat) (ss : List (Nat × Nat)) : Option (List (List Nat)) := ss.foldlM (stepW rs) [w]
def strP (w : List Nat) : PV := .str w
def alongP : Option (List (List Nat)) → PV
  | none => .non
  | some ws => .lst (ws.map strP)
theorem atO_last {α : Type} (l : List α) (v : α) : atO (l ++ [v]) (-1) = some v := by
  unfold atO ixOf
  rw [List.length_append, List.length_singleton, if_neg (by omega), if_pos (by omega)]
  show (l ++ [v])[(-1 + ((l.length + 1 : Nat) : Int)).toNat]? = some v
  rw [show (-1 + ((l.length + 1 : Nat) : Int)).toNat = l.length by omega, List.getElem?_append_right (Nat.le_refl _), Nat.sub_self]
  rfl
theorem idx_last {l : List (List Nat)} {v : List Nat} (h : l.getLast? = some v) : idxV (.lst (l.map strP)) (.int (-1)) = pure (.str v) := by
  obtain ⟨l', rfl⟩ := List.getLast?_eq_some_iff.mp h
  show optM (atO ((l' ++ [v]).map strP) (-1)) = _
  rw [List.map_append, List.map_singleton, atO_last]
  rfl
theorem behind_len {rs : List Rl} {w : List Nat} {s : Nat × Nat} (hr : (rhs rs s.2).length ≤ 6) : (behind rs w s).length ≤ w.length + 6 := by
  unfold behind
  rw [List.length_append, List.length_append, List.length_take, List.length_drop]
  omega
theorem Sys.r6 {k : Nat} {rs : List Rl} (h : Sys k rs) (a : Nat) : (rhs rs a).length ≤ 6 := by
  unfold rhs
  rw [List.getD_eq_getElem?_getD]
  cases e : rs[a]? with
  | none => exact Nat.zero_le _
  | some r => exact (h.ok r (List.mem_of_getElem? e)).r6
theorem push_lt {l : List PV} (h : l.length ≤ 1000000) : l.length < LINE := by
  have : LINE = 16777216 := rfl
  omega
theorem words_along_in {G : Tab} (B : StpB G) (n : Nat) {k : Nat} {rs : List Rl} {w : List Nat} {ss : List (Nat × Nat)} (hs : ∀ a, (rhs rs a).length ≤ 6) (ha : ∀ s ∈ ss, s.2 < rs.length) (hw : w.length + 6 * ss.length ≤ 500) :
    evalF G (n + 2) "words_along_in" [sP k rs, .str w, .tup (ss.map prP)] = pure (alongP (along rs w ss)) := by
  rw [B.along.at _ _ rfl]
  unfold alongB
  walk_at "evs"
  have q := forL_fold (f := fun x e => evalB (evalF G (n + 1)) alongLoop (e.set 4 (.val x))) (inj := prP) (r := .non) (stepW rs) (fun i ws e => ∃ s4, e = [.val (sP k rs), .val (.str w), .val (.tup (ss.map prP)), .own (.lst (ws.map strP)), s4] ∧ ws.length = i + 1 ∧ ∀ v ∈ ws, v.length ≤ w.length + 6 * i) (xs := ss) (k := 0) (s := [w]) ⟨.no, rfl, rfl, fun v hv => by rw [List.mem_singleton.mp hv]; omega⟩ fun i s ws e hi he => ?_
  · show (forL (fun x e => evalB (evalF G (n + 1)) alongLoop (e.set 4 (.val x))) (ss.map prP) [.val (sP k rs), .val (.str w), .val (.tup (ss.map prP)), .own (.lst ([w].map strP)), .no] >>= _) = _
    unfold along
    cases hf : ss.foldlM (stepW rs) [w] with
    | none =>
      rw [hf] at q
      rw [q]
      walk_at "evs"
      rfl
    | some ws =>
      rw [hf] at q
      obtain ⟨e', q1, s4, rfl, q2, q3⟩ := q
      rw [q1]
      walk_at "evs"
      rfl
  · obtain ⟨s4, rfl, h1, h2⟩ := he
    rw [Nat.zero_add] at *
    have hlt := (List.getElem?_eq_some_iff.mp hi).1
    have hmem := List.mem_of_getElem? hi
    cases hv : ws.getLast? with
    | none =>
      rw [List.getLast?_eq_none_iff.mp hv] at h1
      simp at h1
    | some v =>
      have hvl := h2 v (List.mem_of_getLast? hv)
      unfold stepW
      rw [hv]
      unfold alongLoop
      walk_at "evs"
      walk_at "evt"
      rw [idx_last hv]
      walk_at "evs"
      rw [can_in B.toStpC n (ha s hmem)]
      walk_at "evs"
      by_cases hc : at_ (lhs rs s.2) v s.1 = true
      · rw [hc]
        walk_at "evs"
        rw [idx_last hv]
        walk_at "evs"
        rw [behind_in B.toStpC n (ha s hmem) (by omega) (by have := hs s.2; omega)]
        walk_at "evs"
        rw [if_pos (push_lt (by rw [List.length_map]; omega))]
        walk_at "evs"
        refine ⟨_, rfl, .val (prP s), by rw [List.map_append]; rfl, by rw [List.length_append, List.length_singleton]; omega, fun u hu => ?_⟩
        · rcases List.mem_append.mp hu with q | q
          · have := h2 u q
            omega
          · rw [List.mem_singleton.mp q]
            have := behind_len (rs := rs) (w := v) (s := s) (hs s.2)
            omega
      · rw [Bool.eq_false_iff.mpr hc]
        walk_at "evs"
theorem boolsOf_map {α : Type} (l : List α) (b : α → Bool) : boolsOf (l.map fun a => PV.bl (b a)) = some (l.map b) := by
  induction l with
  | nil => rfl
  | cons a l ih =>
    show (boolsOf (l.map fun a => PV.bl (b a))).map (b a :: ·) = _
    rw [ih]
    rfl
theorem allV_map {α : Type} (l : List α) (b : α → Bool) : allV (.lst (l.map fun a => PV.bl (b a))) = pure (.bl (l.all b)) := by
  show (do let bs ← optM (boolsOf (l.map fun a => PV.bl (b a))); pure (.bl (bs.all id)) : M PV) = _
  rw [boolsOf_map]
  show (pure (.bl ((l.map b).all id)) : M PV) = _
  rw [List.all_map]
  rfl
theorem isM_l {l : List PV} : isM (.lst l) .non = pure false := rfl
/-- a tuple of steps -/
theorem fits_der {G : Tab} (B : StpB G) (n : Nat) {k : Nat} {rs : List Rl} {w : List Nat} {ss : List (Nat × Nat)} (hs : ∀ a, (rhs rs a).length ≤ 6) (hw : w.length ≤ 100) :
    evalF G (n + 3) "fits_derivation" [sP k rs, .str w, .tup (ss.map prP)] = pure (.bl (decide (ss.length ≤ 60) && (ss.all (fitS rs) && (along rs w ss).isSome))) := by
  rw [B.fder.at _ _ rfl]
  unfold fderB
  walk_at "evs"
  rw [tuple_b B.tup, List.length_map]
  walk_at "evs"
  by_cases h60 : ss.length ≤ 60
  · rw [decide_eq_true (show ((0 : Int) ≤ ss.length) by omega), decide_eq_true (show ((ss.length : Int) ≤ 60) by omega), decide_eq_true h60]
    simp only [Bool.and_true, Bool.true_and]
    walk_at "evs"
    rw [flatM_overM (g := fun s => .bl (fitS rs s)) (fun v hv => by rw [fits_step B.toStpC]; rfl)]
    walk_at "evs"
    rw [allV_map]
    walk_at "evs"
    cases hall : ss.all (fitS rs) with
    | false => walk_at "evs"; rfl
    | true =>
      walk_at "evs"
      have hlt : ∀ s ∈ ss, s.2 < rs.length := fun s h => by
        have := List.all_eq_true.mp hall s h
        unfold fitS at this
        rw [Bool.and_eq_true, decide_eq_true_eq, decide_eq_true_eq] at this
        exact this.2
      rw [words_along_in B n hs hlt (by omega)]
      walk_at "evs"
      try rw [cmp_isn]
      cases along rs w ss <;> rfl
  · rw [decide_eq_true (show ((0 : Int) ≤ ss.length) by omega), decide_eq_false (show ¬ ((ss.length : Int) ≤ 60) by omega), decide_eq_false h60]
    simp only [Bool.and_false]
    walk_at "evs"
    rfl
/-- a tuple with something in it that is no step -/
theorem fits_der_bad {G : Tab} (B : StpB G) (n : Nat) {k : Nat} {rs : List Rl} {w : List Nat} {l : List PV} {b : PV → Bool} (hb : ∀ v ∈ l, evalF G (n + 2) "fits_step" [sP k rs, v] = pure (.bl (b v))) (hall : l.all b = false) :
    evalF G (n + 3) "fits_derivation" [sP k rs, .str w, .tup l] = pure (.bl false) := by
  rw [B.fder.at _ _ rfl]
  unfold fderB
  walk_at "evs"
  rw [tuple_b B.tup]
  walk_at "evs"
  by_cases h60 : l.length ≤ 60
  · rw [decide_eq_true (show ((0 : Int) ≤ l.length) by omega), decide_eq_true (show ((l.length : Int) ≤ 60) by omega)]
    simp only [Bool.and_true]
    walk_at "evs"
    rw [flatM_map (g := fun v => .bl (b v)) (fun v hv => by rw [hb v hv]; rfl)]
    walk_at "evs"
    rw [allV_map, hall]
    walk_at "evs"
  · rw [decide_eq_true (show ((0 : Int) ≤ l.length) by omega), decide_eq_false (show ¬ ((l.length : Int) ≤ 60) by omega)]
    simp only [Bool.and_false]
    walk_at "evs"
end EV

set_option maxRecDepth 100000
/-! EvDl: is_derivation, words_along; what stays along steps. -/
namespace EV
open PySem
local macro_rules | `(tactic| walk_at "evs1") => `(tactic| simp only [evalB, evalS, evalE, evalEs, evalO, evalIt, evalIfs, partM, getP_v, getP_o, getP_s, getV_v, getV_s, truM_b, truM_n, truM_i, truM_s, truM_l, truM_t, optM_s, lenV_l, lenV_t, lenV_s, seqOf_l, seqOf_t, seqOf_s, out_ret, out_next, add_i, sub_i, int_i, cmp_lt, cmp_le, cmp_gt, cmp_ge, cmp_eq, cmp_ne, cmp_is, cmp_in, cmp_nin, slot_cell, slot_ol, slot_s, rec_join, rec_sw, rec_ew, rec_count, rec_index, rec_indexl, rec_get, guard_t, asg_nm, asg_t0, asg_t2, ownD, pure_bind, bind_assoc, bltV, blt1, blt2, binV, isTy_int_int, isTy_int_str, isTy_int_bool, isTy_int_tuple, isTy_int_list, isTy_bl_int, isTy_bl_str, isTy_bl_bool, isTy_bl_tuple, isTy_bl_list, isTy_str_int, isTy_str_str, isTy_str_bool, isTy_str_tuple, isTy_str_list, isTy_tup_int, isTy_tup_str, isTy_tup_bool, isTy_tup_tuple, isTy_tup_list, isTy_lst_int, isTy_lst_str, isTy_lst_bool, isTy_lst_tuple, isTy_lst_list, isTy_dict_int, isTy_dict_str, isTy_dict_bool, isTy_dict_tuple, isTy_dict_list, isTy_non_int, isTy_non_str, isTy_non_bool, isTy_non_tuple, isTy_non_list, List.getElem?_cons_zero, List.getElem?_cons_succ, List.getElem?_nil, if_true, if_false, ↓reduceIte, Bool.false_eq_true, Bool.not_true, Bool.not_false, List.map_cons, List.map_nil, List.length_cons, List.length_nil, Nat.reduceSub, Nat.reduceAdd, List.replicate_succ, List.replicate_zero, wipeE, List.set_cons_zero, List.set_cons_succ, List.set_nil, List.cons_append, List.nil_append])
local macro_rules | `(tactic| walk_at "evs") => `(tactic| try walk_at "evs1")
local macro_rules | `(tactic| walk_at "evt") => `(tactic| repeat (first | walk_at "evs1" | simp only [idx_sys0, idx_sys1, idx_rule0, idx_rule1, idx_pr0, idx_pr1, idx_tup0, idx_tup1, eqM_int, eqM_str, starts_s, slc_from, slc_to, slc_s, tup_l, list_s, str_s, isM_nn, isM_in, isM_bn, isM_sn, isM_bb, cmp_isn, neg_i, par2, par3, asg_rP, asg_prP, asg_t2v, count_sc]))
/-- words and steps -/
structure Stp (G : Tab) : Prop extends Words G, StpB G
def derB (rs : List Rl) (w : List Nat) (ss : List (Nat × Nat)) : Bool := decide (ss.length ≤ 60) && (ss.all (fitS rs) && (along rs w ss).isSome)
theorem is_der {G : Tab} (B : Stp G) (h : Fn G "is_derivation" 3 3 isDerB) (n : Nat) {k : Nat} {rs : List Rl} {w : List Nat} {ss : List (Nat × Nat)} (hs : Sys k rs) (hw : Wrd k w) (h60 : w.length ≤ 60) :
    evalF G (n + 6) "is_derivation" [sP k rs, .str w, .tup (ss.map prP)] = pure (.bl (derB rs w ss)) := by
  rw [h.at _ _ rfl]
  unfold isDerB
  walk_at "evs"
  rw [need_both B.toBase B.nboth B.nsys B.nword n hs hw h60]
  walk_at "evs"
  rw [fits_der B.toStpB (n + 2) hs.r6 (by omega)]
  walk_at "evs"
  rfl
theorem is_der_bad {G : Tab} (B : Stp G) (h : Fn G "is_derivation" 3 3 isDerB) (n : Nat) {k : Nat} {rs : List Rl} {w : List Nat} {v : PV} (hs : Sys k rs) (hw : Wrd k w) (h60 : w.length ≤ 60) (hv : evalF G (n + 5) "fits_derivation" [sP k rs, .str w, v] = pure (.bl false)) :
    evalF G (n + 6) "is_derivation" [sP k rs, .str w, v] = pure (.bl false) := by
  rw [h.at _ _ rfl]
  unfold isDerB
  walk_at "evs"
  rw [need_both B.toBase B.nboth B.nsys B.nword n hs hw h60]
  walk_at "evs"
  rw [hv]
  walk_at "evs"
theorem need_der {G : Tab} (B : Stp G) (h : Fn G "need_derivation" 3 3 nderB) (n : Nat) {k : Nat} {rs : List Rl} {w : List Nat} {ss : List (Nat × Nat)} (hs : Sys k rs) (hw : w.length ≤ 100) (hd : derB rs w ss = true) :
    evalF G (n + 4) "need_derivation" [sP k rs, .str w, .tup (ss.map prP)] = pure .non := by
  rw [h.at _ _ rfl]
  unfold nderB
  walk_at "evs"
  rw [fits_der B.toStpB n hs.r6 hw, show (decide (ss.length ≤ 60) && (ss.all (fitS rs) && (along rs w ss).isSome)) = true from hd]
  walk_at "evs"
theorem words_along {G : Tab} (B : Stp G) (h : Fn G "words_along" 3 3 wordsAlongB) (hn : Fn G "need_derivation" 3 3 nderB) (n : Nat) {k : Nat} {rs : List Rl} {w : List Nat} {ss : List (Nat × Nat)} {ws : List (List Nat)} (hs : Sys k rs) (hw : Wrd k w) (h60 : w.length ≤ 60) (hd : derB rs w ss = true) (ha : along rs w ss = some ws) :
    evalF G (n + 6) "words_along" [sP k rs, .str w, .tup (ss.map prP)] = pure (.tup (ws.map strP)) := by
  rw [h.at _ _ rfl]
  unfold wordsAlongB
  walk_at "evs"
  rw [need_both B.toBase B.nboth B.nsys B.nword n hs hw h60]
  walk_at "evs"
  rw [need_der B hn (n + 1) hs (by omega) hd]
  walk_at "evs"
  unfold derB at hd
  rw [Bool.and_eq_true, Bool.and_eq_true, decide_eq_true_eq] at hd
  rw [words_along_in B.toStpB (n + 3) hs.r6 (fun s hs' => ?_) (by omega), ha]
  · walk_at "evs"
    rfl
  · have := List.all_eq_true.mp hd.2.1 s hs'
    unfold fitS at this
    rw [Bool.and_eq_true, decide_eq_true_eq, decide_eq_true_eq] at this
    exact this.2
theorem along_snoc (rs : List Rl) (w : List Nat) (ss : List (Nat × Nat)) (s : Nat × Nat) : along rs w (ss ++ [s]) = (along rs w ss).bind fun ws => stepW rs ws s := by
  unfold along
  rw [List.foldlM_append]
  congr 1
  funext ws
  show (stepW rs ws s).bind some = _
  cases stepW rs ws s <;> rfl
theorem along_app (rs : List Rl) (w : List Nat) (ss ts : List (Nat × Nat)) : along rs w (ss ++ ts) = (along rs w ss).bind fun ws => ts.foldlM (stepW rs) ws := by
  unfold along
  rw [List.foldlM_append]
  rfl
theorem along_take {rs : List Rl} {w : List Nat} {ss : List (Nat × Nat)} (h : (along rs w ss).isSome = true) (a : Nat) : (along rs w (ss.take a)).isSome = true := by
  rw [← List.take_append_drop a ss, along_app] at h
  cases e : along rs w (ss.take a) with
  | none => rw [e] at h; cases h
  | some _ => rfl
theorem step_ws {rs : List Rl} {ws vs : List (List Nat)} {s : Nat × Nat} (h : stepW rs ws s = some vs) : ∃ v, ws.getLast? = some v ∧ at_ (lhs rs s.2) v s.1 = true ∧ vs = ws ++ [behind rs v s] := by
  unfold stepW at h
  cases e : ws.getLast? with
  | none => rw [e] at h; cases h
  | some v =>
    rw [e] at h
    replace h : (if at_ (lhs rs s.2) v s.1 = true then some (ws ++ [behind rs v s]) else none) = some vs := h
    split at h
    · rename_i hc
      cases h
      exact ⟨v, rfl, hc, rfl⟩
    · cases h
theorem along_len {rs : List Rl} (hs : ∀ a, (rhs rs a).length ≤ 6) {w : List Nat} : ∀ {ts : List (Nat × Nat)} {ws vs : List (List Nat)} {m : Nat}, ts.foldlM (stepW rs) ws = some vs → ws ≠ [] → (∀ v ∈ ws, v.length ≤ m) → vs.length = ws.length + ts.length ∧ vs ≠ [] ∧ ∀ v ∈ vs, v.length ≤ m + 6 * ts.length
  | [], ws, vs, m, h, h0, h1 => by
    cases h
    exact ⟨rfl, h0, fun v hv => by have := h1 v hv; simp only [List.length_nil]; omega⟩
  | t :: ts, ws, vs, m, h, h0, h1 => by
    rw [List.foldlM_cons] at h
    cases e : stepW rs ws t with
    | none => rw [e] at h; cases h
    | some us =>
      rw [e] at h
      obtain ⟨v, hv, _, rfl⟩ := step_ws e
      have hvl := h1 v (List.mem_of_getLast? hv)
      obtain ⟨k1, k2, k3⟩ := along_len hs (w := w) (m := m + 6) h (by simp) (fun u hu => by
        rcases List.mem_append.mp hu with q | q
        · have := h1 u q; omega
        · rw [List.mem_singleton.mp q]
          have := behind_len (rs := rs) (w := v) (s := t) (hs t.2)
          omega)
      refine ⟨by rw [k1, List.length_append, List.length_singleton, List.length_cons]; omega, k2, fun u hu => ?_⟩
      have := k3 u hu
      rw [List.length_cons]
      omega
theorem along_ws {rs : List Rl} (hs : ∀ a, (rhs rs a).length ≤ 6) {w : List Nat} {ss : List (Nat × Nat)} {ws : List (List Nat)} (h : along rs w ss = some ws) : ws.length = ss.length + 1 ∧ (∃ v, ws.getLast? = some v ∧ v.length ≤ w.length + 6 * ss.length) := by
  obtain ⟨h1, h2, h3⟩ := along_len hs (w := w) (m := w.length) h (by simp) (fun v hv => by rw [List.mem_singleton.mp hv]; exact Nat.le_refl _)
  refine ⟨by rw [h1, List.length_singleton]; omega, ?_⟩
  cases e : ws.getLast? with
  | none => exact absurd (List.getLast?_eq_none_iff.mp e) h2
  | some v => exact ⟨v, rfl, h3 v (List.mem_of_getLast? e)⟩
theorem step_last {rs : List Rl} {ws : List (List Nat)} {v : List Nat} {s : Nat × Nat} (h : ws.getLast? = some v) : stepW rs ws s = if at_ (lhs rs s.2) v s.1 then some (ws ++ [behind rs v s]) else none := by
  unfold stepW
  rw [h]
theorem Sys.l1 {k : Nat} {rs : List Rl} (h : Sys k rs) {a : Nat} (ha : a < rs.length) : 1 ≤ (lhs rs a).length := by
  rw [lhs_at ha]
  exact (h.ok _ (List.getElem_mem ha)).l1
/-- what can be done, can be done within the word -/
theorem at_lt {p w : List Nat} {k : Nat} (h : at_ p w k = true) (hp : 1 ≤ p.length) : k < w.length := by
  rcases at_len h with q | q
  · omega
  · rw [q] at hp; cases hp
theorem mem_steps2 {k : Nat} {rs : List Rl} (h : Sys k rs) {w : List Nat} {s : Nat × Nat} (hs : s.2 < rs.length) : s ∈ steps rs w ↔ at_ (lhs rs s.2) w s.1 = true := by
  rw [mem_steps]
  exact ⟨fun q => q.2.2, fun q => ⟨at_lt q (h.l1 hs), hs, q⟩⟩
/-! ### values of pairs -/
theorem prs_plain : ∀ ss : List (Nat × Nat), plains (ss.map prP) = true
  | [] => rfl
  | s :: ss => by
    rw [List.map_cons]
    simp only [plains, prs_plain ss, Bool.and_true]
    rfl
theorem prs_deps : ∀ ss : List (Nat × Nat), deps (ss.map prP) ≤ 1
  | [] => Nat.zero_le _
  | s :: ss => by
    rw [List.map_cons]
    have h := prs_deps ss
    have e : dep (prP s) = 1 := rfl
    simp only [deps, e]
    omega
theorem okD_prs (ss : List (Nat × Nat)) : okD (.lst (ss.map prP)) = true := by
  unfold okD
  have h := prs_deps ss
  simp only [plain, prs_plain, dep, Bool.true_and]
  exact decide_eq_true (by omega)
theorem okD_prt (ss : List (Nat × Nat)) : okD (.tup (ss.map prP)) = true := by
  unfold okD
  have h := prs_deps ss
  simp only [plain, prs_plain, dep, Bool.true_and]
  exact decide_eq_true (by omega)
theorem eqM_prs {ss : List (Nat × Nat)} : eqM (.lst (ss.map prP)) (.lst []) = pure ss.isEmpty := by
  show (if (okD (.lst (ss.map prP)) && okD (.lst [])) = true then pure (eqv (.lst (ss.map prP)) (.lst [])) else fail : M Bool) = _
  rw [okD_prs, if_pos (by rfl)]
  cases ss <;> rfl
theorem eqM_prt {ss : List (Nat × Nat)} : eqM (.tup (ss.map prP)) (.tup []) = pure ss.isEmpty := by
  show (if (okD (.tup (ss.map prP)) && okD (.tup [])) = true then pure (eqv (.tup (ss.map prP)) (.tup [])) else fail : M Bool) = _
  rw [okD_prt, if_pos (by rfl)]
  cases ss <;> rfl
theorem eqv_prP (a b : Nat × Nat) : eqv (prP a) (prP b) = decide (a = b) := by
  obtain ⟨a1, a2⟩ := a
  obtain ⟨b1, b2⟩ := b
  unfold prP
  simp only [eqv, eqvs, Bool.and_true]
  rw [Bool.eq_iff_iff]
  simp
  omega
theorem inM_prs {ss : List (Nat × Nat)} {s : Nat × Nat} : inM (prP s) (.lst (ss.map prP)) = pure (decide (s ∈ ss)) := by
  show (if (okD (prP s) && plains (ss.map prP)) = true then pure (isInV (prP s) (ss.map prP)) else fail : M Bool) = _
  rw [if_pos (by rw [prs_plain, Bool.and_true]; rfl)]
  congr 1
  unfold isInV
  rw [Bool.eq_iff_iff, List.any_map, List.any_eq_true, decide_eq_true_eq]
  constructor
  · rintro ⟨x, hx, e⟩
    have e : eqv (prP x) (prP s) = true := e
    rw [eqv_prP, decide_eq_true_eq] at e
    exact e ▸ hx
  · intro h
    exact ⟨s, h, by show eqv (prP s) (prP s) = true; rw [eqv_prP]; exact decide_eq_true rfl⟩
theorem slc_tt {l : List PV} {a : Nat} : slcV (.tup l) none (some (a : Int)) = pure (.tup (l.take a)) := by
  show (pure (.tup (cut l none (some (a : Int)))) : M PV) = _
  rw [cut_take]
theorem slc_tf {l : List PV} {a : Nat} : slcV (.tup l) (some (a : Int)) none = pure (.tup (l.drop a)) := by
  show (pure (.tup (cut l (some (a : Int)) none)) : M PV) = _
  rw [cut_from]
theorem okSame_strs (n : Nat) (ws : List (List Nat)) (h : ws.length ≤ 1000) : okSame (n + 1) (.tup (ws.map strP)) = true := by
  simp only [okSame, Bool.and_eq_true, decide_eq_true_eq, List.all_eq_true]
  refine ⟨by rw [List.length_map]; exact h, fun x hx => ?_⟩
  obtain ⟨k, _, rfl⟩ := List.mem_map.mp hx
  cases n <;> rfl
/-- what fits as a step -/
def stepV (rs : List Rl) : PV → Bool
  | .tup [.int p, .int r] => (decide (0 ≤ p) && decide (p ≤ 1000)) && (decide (0 ≤ r) && decide (r ≤ (rs.length : Int) - 1))
  | _ => false
theorem step_ints {G : Tab} (B : StpC G) (n : Nat) {k : Nat} {rs : List Rl} {p r : Int} : evalF G (n + 2) "fits_step" [sP k rs, .tup [.int p, .int r]] = pure (.bl (stepV rs (.tup [.int p, .int r]))) := by
  rw [B.fstep.at _ _ rfl]
  unfold fstepB
  walk_at "evs"
  rw [is_tuple_of B.tup n [.int p, .int r] 2 2 (by simp) (by simp)]
  walk_at "evt"
  rw [whole_b B.whole]
  walk_at "evt"
  show _ = pure (PV.bl ((decide (0 ≤ p) && decide (p ≤ 1000)) && (decide (0 ≤ r) && decide (r ≤ (rs.length : Int) - 1))))
  cases (decide (0 ≤ p) && decide (p ≤ 1000)) with
  | false => walk_at "evs"; rfl
  | true =>
    walk_at "evt"
    rw [whole_b B.whole, List.length_map]
    walk_at "evs"
    rfl
theorem stepV_fit {rs : List Rl} {s : Nat × Nat} : stepV rs (prP s) = fitS rs s := by
  show ((decide ((0 : Int) ≤ s.1) && decide ((s.1 : Int) ≤ 1000)) && (decide ((0 : Int) ≤ s.2) && decide ((s.2 : Int) ≤ (rs.length : Int) - 1))) = _
  unfold fitS
  rw [Bool.eq_iff_iff]
  simp only [Bool.and_eq_true, decide_eq_true_eq]
  omega
end EV

set_option maxRecDepth 100000
/-! EvSi: steps_in, first_in, and what stands on them. -/
namespace EV
open PySem
local macro_rules | `(tactic| walk_at "evs1") => `(tactic| simp only [evalB, evalS, evalE, evalEs, evalO, evalIt, evalIfs, partM, getP_v, getP_o, getP_s, getV_v, getV_s, truM_b, truM_n, truM_i, truM_s, truM_l, truM_t, optM_s, lenV_l, lenV_t, lenV_s, seqOf_l, seqOf_t, seqOf_s, out_ret, out_next, add_i, sub_i, int_i, cmp_lt, cmp_le, cmp_gt, cmp_ge, cmp_eq, cmp_ne, cmp_is, cmp_in, cmp_nin, slot_cell, slot_ol, slot_s, rec_join, rec_sw, rec_ew, rec_count, rec_index, rec_indexl, rec_get, guard_t, asg_nm, asg_t0, asg_t2, ownD, pure_bind, bind_assoc, bltV, blt1, blt2, binV, isTy_int_int, isTy_int_str, isTy_int_bool, isTy_int_tuple, isTy_int_list, isTy_bl_int, isTy_bl_str, isTy_bl_bool, isTy_bl_tuple, isTy_bl_list, isTy_str_int, isTy_str_str, isTy_str_bool, isTy_str_tuple, isTy_str_list, isTy_tup_int, isTy_tup_str, isTy_tup_bool, isTy_tup_tuple, isTy_tup_list, isTy_lst_int, isTy_lst_str, isTy_lst_bool, isTy_lst_tuple, isTy_lst_list, isTy_dict_int, isTy_dict_str, isTy_dict_bool, isTy_dict_tuple, isTy_dict_list, isTy_non_int, isTy_non_str, isTy_non_bool, isTy_non_tuple, isTy_non_list, List.getElem?_cons_zero, List.getElem?_cons_succ, List.getElem?_nil, if_true, if_false, ↓reduceIte, Bool.false_eq_true, Bool.not_true, Bool.not_false, List.map_cons, List.map_nil, List.length_cons, List.length_nil, Nat.reduceSub, Nat.reduceAdd, List.replicate_succ, List.replicate_zero, wipeE, List.set_cons_zero, List.set_cons_succ, List.set_nil, List.cons_append, List.nil_append])
local macro_rules | `(tactic| walk_at "evs") => `(tactic| try walk_at "evs1")
local macro_rules | `(tactic| walk_at "evt") => `(tactic| repeat (first | walk_at "evs1" | simp only [idx_sys0, idx_sys1, idx_rule0, idx_rule1, idx_pr0, idx_pr1, idx_tup0, idx_tup1, eqM_int, eqM_str, starts_s, slc_from, slc_to, slc_s, tup_l, list_s, str_s, isM_nn, isM_in, isM_bn, isM_sn, isM_bb, cmp_isn, neg_i, par2, par3, asg_rP, asg_prP, asg_t2v, count_sc]))
def stepsInB : List CS := [.asg (.nm 2) (.comp (.tup [(.var 6), (.var 3)]) [3, 4, 5, 6] (.mk (.tup [(.nm 3), (.tup [(.nm 4), (.nm 5)])]) (.enm (.idx (.peek 0) (.glb "RULES" (.int 1)))) []) [(.mk (.nm 6) (.seq (.call "places_in" [(.var 4), (.var 1)])) [])]),
  .ret (.blt .sorted [(.peek 2)])]
theorem enm_map {α : Type} {f : α → PV} : ∀ {l : List α} {k : Nat}, enmFrom k (l.map f) = (l.zipIdx k).map fun p => .tup [.int p.2, f p.1]
  | [], _ => rfl
  | x :: l, k => by
    rw [List.map_cons, List.zipIdx_cons, List.map_cons]
    unfold enmFrom
    rw [enm_map]
theorem flatA_over {α : Type} {f : PV → List PV → M (List PV)} {inj : α → PV} {g : α → List PV} {B : Nat} : ∀ {xs : List α} {acc : List PV}, (∀ a ∈ xs, ∀ acc : List PV, acc.length + (g a).length ≤ B → f (inj a) acc = pure (acc ++ g a)) → acc.length + (xs.flatMap g).length ≤ B → flatA f (xs.map inj) acc = pure (acc ++ xs.flatMap g)
  | [], acc, _, _ => by rw [List.flatMap_nil, List.append_nil]; rfl
  | x :: xs, acc, h, hb => by
    rw [List.flatMap_cons, List.length_append] at hb
    rw [List.map_cons]
    unfold flatA
    rw [h x List.mem_cons_self acc (by omega), pure_bind, flatA_over (fun a ha => h a (List.mem_cons_of_mem _ ha)) (by rw [List.length_append]; omega), List.flatMap_cons, List.append_assoc]
/-- an inner walk that takes up one value of each -/
theorem flatA_push {α : Type} {f : PV → List PV → M (List PV)} {inj : α → PV} {g : α → PV} {xs : List α} {acc : List PV} (h : ∀ a ∈ xs, ∀ acc : List PV, f (inj a) acc = pushV acc (g a)) (hb : acc.length + xs.length ≤ 1000000) : flatA f (xs.map inj) acc = pure (acc ++ xs.map g) := by
  have q := flatA_over (f := f) (inj := inj) (g := fun a => [g a]) (B := 1000000) (xs := xs) (acc := acc) (fun a ha acc h1 => by
    rw [h a ha]
    unfold pushV
    rw [if_pos (push_lt (by simp only [List.length_singleton] at h1; omega))]) (by
    have : (xs.flatMap fun a => [g a]) = xs.map g := by
      clear h hb
      induction xs with
      | nil => rfl
      | cons x xs ih => rw [List.flatMap_cons, ih]; rfl
    rw [this, List.length_map]
    omega)
  rw [q]
  congr 2
  clear q h hb
  induction xs with
  | nil => rfl
  | cons x xs ih => rw [List.flatMap_cons, ih]; rfl
/-- the rows as they are found: rule by rule -/
def rowsR (rs : List Rl) (w : List Nat) : List (Nat × Nat) := rs.zipIdx.flatMap fun p => (places p.1.1 w).map fun k => (k, p.2)
def prI (s : Nat × Nat) : Int × Int := (s.1, s.2)
theorem intsOf_prs : ∀ {ss : List (Nat × Nat)}, ss ≠ [] → intsOf (ss.map prP) = none
  | [], h => absurd rfl h
  | s :: ss, _ => rfl
theorem pairsOf_prs : ∀ ss : List (Nat × Nat), pairsOf (ss.map prP) = some (ss.map prI)
  | [] => rfl
  | s :: ss => by
    rw [List.map_cons]
    unfold pairsOf
    rw [pairsOf_prs ss]
    rfl
/-- pairs in order -/
def leN (a b : Nat × Nat) : Prop := a.1 < b.1 ∨ a.1 = b.1 ∧ a.2 ≤ b.2
theorem sort_prs {ss ts : List (Nat × Nat)} (h : ss.Perm ts) (hs : ts.Pairwise leN) : sortV (.lst (ss.map prP)) = pure (.lst (ts.map prP)) := by
  by_cases h0 : ss = []
  · subst h0
    rw [List.nil_perm.mp h]
    rfl
  · show (match intsOf (ss.map prP) with | some ns => _ | none => match pairsOf (ss.map prP) with | some ps => _ | none => _ : M PV) = _
    rw [intsOf_prs h0, pairsOf_prs]
    have e : srtB leP (ss.map prI) = ts.map prI := by
      refine srt_uniq ordP ((srtB_perm leP _).trans (h.map prI)) (srtB_srt ordP _) ?_
      rw [List.pairwise_map]
      refine hs.imp fun {a b} q => ?_
      rw [leP_iff]
      unfold prI leN at *
      omega
    show (pure (.lst ((srtB leP (ss.map prI)).map pairP)) : M PV) = _
    rw [e, List.map_map]
    rfl
theorem steps_sorted (rs : List Rl) (w : List Nat) : (steps rs w).Pairwise leN := by
  have key : ∀ (ps : List Nat), ps.Pairwise (· < ·) → (ps.flatMap (stepsAt rs w)).Pairwise leN := by
    intro ps
    induction ps with
    | nil => intro _; exact List.Pairwise.nil
    | cons p ps ih =>
      intro h
      obtain ⟨h1, h2⟩ := List.pairwise_cons.mp h
      rw [List.flatMap_cons, List.pairwise_append]
      refine ⟨?_, ih h2, fun a ha b hb => ?_⟩
      · unfold stepsAt
        rw [List.pairwise_map]
        refine (List.Pairwise.filter _ (List.pairwise_lt_range)).imp fun {a b} q => ?_
        exact .inr ⟨rfl, by show a ≤ b; omega⟩
      · obtain ⟨q, hq, hb⟩ := List.mem_flatMap.mp hb
        unfold stepsAt at ha hb
        obtain ⟨x, _, rfl⟩ := List.mem_map.mp ha
        obtain ⟨y, _, rfl⟩ := List.mem_map.mp hb
        exact .inl (h1 q hq)
  exact key _ List.pairwise_lt_range
theorem nodup_leN {l : List (Nat × Nat)} (h : l.Pairwise fun a b => leN a b ∧ a ≠ b) : l.Nodup := h.imp fun {a b} q => q.2
theorem steps_nodup (rs : List Rl) (w : List Nat) : (steps rs w).Nodup := by
  unfold steps
  unfold List.Nodup
  have key : ∀ (ps : List Nat), ps.Pairwise (· < ·) → (ps.flatMap (stepsAt rs w)).Pairwise (· ≠ ·) := by
    intro ps
    induction ps with
    | nil => intro _; exact List.Pairwise.nil
    | cons p ps ih =>
      intro h
      obtain ⟨h1, h2⟩ := List.pairwise_cons.mp h
      rw [List.flatMap_cons, List.pairwise_append]
      refine ⟨?_, ih h2, fun a ha b hb => ?_⟩
      · unfold stepsAt
        rw [List.pairwise_map]
        refine (List.Pairwise.filter _ (List.pairwise_lt_range)).imp fun {a b} q => ?_
        intro e
        cases e
        omega
      · obtain ⟨q, hq, hb⟩ := List.mem_flatMap.mp hb
        unfold stepsAt at ha hb
        obtain ⟨x, _, rfl⟩ := List.mem_map.mp ha
        obtain ⟨y, _, rfl⟩ := List.mem_map.mp hb
        intro e
        have := h1 q hq
        cases e
        omega
  exact key _ List.pairwise_lt_range
theorem places_nodup (p w : List Nat) : (places p w).Nodup := (List.nodup_range).filter _
theorem rows_nodup (rs : List Rl) (w : List Nat) : (rowsR rs w).Nodup := by
  unfold rowsR
  have key : ∀ (l : List Rl) (k : Nat), ((l.zipIdx k).flatMap fun p => (places p.1.1 w).map fun q => (q, p.2)).Nodup ∧ ∀ s ∈ ((l.zipIdx k).flatMap fun p => (places p.1.1 w).map fun q => (q, p.2)), k ≤ s.2 := by
    intro l
    induction l with
    | nil => intro k; exact ⟨List.Pairwise.nil, fun _ h => nomatch h⟩
    | cons r l ih =>
      intro k
      obtain ⟨h1, h2⟩ := ih (k + 1)
      rw [List.zipIdx_cons, List.flatMap_cons]
      refine ⟨List.nodup_append.mpr ⟨List.pairwise_map.mpr ((places_nodup r.1 w).imp fun {a b} q e => q (congrArg Prod.fst e)), h1, fun a ha b hb e => ?_⟩, fun s hs => ?_⟩
      · obtain ⟨x, _, rfl⟩ := List.mem_map.mp ha
        have := h2 b hb
        subst e
        exact absurd this (by show ¬ k + 1 ≤ k; omega)
      · rcases List.mem_append.mp hs with q | q
        · obtain ⟨x, _, rfl⟩ := List.mem_map.mp q
          exact Nat.le_refl _
        · have := h2 s q
          omega
  exact (key rs 0).1
theorem mem_places {p w : List Nat} (hp : 1 ≤ p.length) {k : Nat} : k ∈ places p w ↔ at_ p w k = true := by
  unfold places
  rw [List.mem_filter, List.mem_range]
  constructor
  · exact fun h => h.2
  · intro h
    refine ⟨?_, h⟩
    rcases at_len h with q | q
    · omega
    · rw [q] at hp; cases hp
theorem mem_rows {k : Nat} {rs : List Rl} (hs : Sys k rs) {w : List Nat} {s : Nat × Nat} : s ∈ rowsR rs w ↔ s ∈ steps rs w := by
  unfold rowsR
  rw [List.mem_flatMap, mem_steps]
  constructor
  · rintro ⟨⟨r, a⟩, h1, h2⟩
    obtain ⟨x, hx, rfl⟩ := List.mem_map.mp h2
    have h3 := List.mem_zipIdx_iff_getElem?.mp h1
    replace h3 : rs[a]? = some r := h3
    have ha := (List.getElem?_eq_some_iff.mp h3).1
    have l1 := hs.l1 ha
    have el : lhs rs a = r.1 := by rw [lhs_at ha]; exact congrArg Prod.fst (List.getElem?_eq_some_iff.mp h3).2
    rw [el] at l1
    have q := (mem_places l1).mp hx
    exact ⟨at_lt q l1, ha, by show at_ (lhs rs a) w x = true; rw [el]; exact q⟩
  · rintro ⟨h1, h2, h3⟩
    have l1 := hs.l1 h2
    refine ⟨(rs[s.2], s.2), List.mem_zipIdx_iff_getElem?.mpr (List.getElem?_eq_getElem h2), List.mem_map.mpr ⟨s.1, ?_, rfl⟩⟩
    rw [lhs_at h2] at l1 h3
    exact (mem_places l1).mpr h3
theorem rows_steps {k : Nat} {rs : List Rl} (hs : Sys k rs) (w : List Nat) : (rowsR rs w).Perm (steps rs w) := (List.perm_ext_iff_of_nodup (rows_nodup rs w) (steps_nodup rs w)).mpr fun s => mem_rows hs
theorem asg_enr {i j l : Nat} {u : PV} {r : Rl} {e : Ev} : asgT (.tup [.nm i, .tup [.nm j, .nm l]]) (.tup [u, rP r]) e = pure (((e.set i (.val u)).set j (.val (.str r.1))).set l (.val (.str r.2))) := rfl
/-- with what steps_in stands on -/
structure StpI (G : Tab) : Prop extends Words G, StpC G where
  plc : Fn G "places_in" 2 3 placesB
  stin : Fn G "steps_in" 2 7 stepsInB
theorem steps_len8 {k : Nat} {rs : List Rl} (hs : Sys k rs) (w : List Nat) : (steps rs w).length ≤ w.length * 8 := steps_len rs w w.length hs.m8
theorem steps_in {G : Tab} (B : StpI G) (n : Nat) {k : Nat} {rs : List Rl} {w : List Nat} (hs : Sys k rs) (hw : w.length ≤ 1000) :
    evalF G (n + 2) "steps_in" [sP k rs, .str w] = pure (.lst ((steps rs w).map prP)) := by
  have hlen : (rowsR rs w).length ≤ 8000 := by
    rw [(rows_steps hs w).length_eq]
    have := steps_len8 hs w
    omega
  have el : (rs.zipIdx.flatMap fun p => ((places p.1.1 w).map fun k => prP (k, p.2))) = (rowsR rs w).map prP := by
    unfold rowsR
    rw [List.map_flatMap]
    congr 1
    funext p
    rw [List.map_map]
    rfl
  rw [B.stin.at _ _ rfl]
  unfold stepsInB
  walk_at "evs"
  rw [idx_sys1]
  walk_at "evs"
  rw [show ltOf (.tup (rs.map rP)) = some (rs.map rP) from rfl]
  walk_at "evs"
  rw [enm_map]
  rw [flatA_over (g := fun p => (places p.1.1 w).map fun k => prP (k, p.2)) (B := 8000)]
  · walk_at "evs"
    rw [el, sort_prs (rows_steps hs w) (steps_sorted rs w)]
    walk_at "evs"
  · rintro ⟨r, a⟩ ha acc hacc
    have hr : (r, a).1 ∈ rs := (List.mem_zipIdx ha).2.2 ▸ List.getElem_mem _
    have l6 := (hs.ok r hr).l6
    simp only [List.length_map] at hacc
    walk_at "evs"
    rw [asg_enr]
    walk_at "evs"
    rw [places_in B.plc n r.1 w (by omega) (by omega)]
    walk_at "evs"
    unfold natsP
    rw [flatA_push (g := fun (k : Nat) => prP (k, a)) (fun q _ acc => by
      simp only [tIx, tIxs]
      walk_at "evs"
      rfl) (by omega)]
  · rw [el, List.length_map]
    simpa using hlen

def firstB : List CS := [.asg (.nm 2) (.call "steps_in" [(.var 0), (.var 1)]),
  .ret (.ite (.cmp .ne (.peek 2) (.lst [])) (.idx (.peek 2) (.cst (.int 0))) (.cst .non))]
def nstepB : List CS := [.ifs (.not (.call "fits_step" [(.var 0), (.var 1)])) [.raise "InvalidStep" [(.cst (.str [110, 111, 116, 32, 97, 32, 115, 116, 101, 112, 32, 111, 102, 32, 116, 104, 101, 32, 115, 121, 115, 116, 101, 109]))]] []]
def stepsOfB : List CS := [.expr (.call "need_both" [(.var 0), (.var 1)]),
  .ret (.blt .tuple [(.call "steps_in" [(.var 0), (.var 1)])])]
def canBeB : List CS := [.expr (.call "need_both" [(.var 0), (.var 1)]),
  .expr (.call "need_step" [(.var 0), (.var 2)]),
  .ret (.call "can_in" [(.var 0), (.var 1), (.var 2)])]
def wordBehB : List CS := [.expr (.call "need_both" [(.var 0), (.var 1)]),
  .expr (.call "need_step" [(.var 0), (.var 2)]),
  .ret (.ite (.call "can_in" [(.var 0), (.var 1), (.var 2)]) (.call "behind_in" [(.var 0), (.var 1), (.var 2)]) (.var 1))]
def atRestB : List CS := [.expr (.call "need_both" [(.var 0), (.var 1)]),
  .ret (.cmp .is (.call "first_in" [(.var 0), (.var 1)]) (.cst .non))]
def fromPlaceB : List CS := [.expr (.call "need_both" [(.var 0), (.var 1)]),
  .ifs (.not (.call "fits_whole" [(.var 2), (.cst (.int 0)), (.glb "LONG" (.int 60))])) [.raise "InvalidNumber" [(.cst (.str [110, 111, 116, 32, 97, 32, 112, 108, 97, 99, 101]))]] [],
  .ret (.blt .tuple [(.comp (.var 4) [3, 4] (.mk (.tup [(.nm 3), (.nm 4)]) (.seq (.call "steps_in" [(.var 0), (.var 1)])) [(.cmp .eq (.peek 3) (.peek 2))]) [])])]
/-- the first step, or None -/
def firstP (rs : List Rl) (w : List Nat) : PV := match (steps rs w).head? with
  | some s => prP s
  | none => .non
theorem first_in {G : Tab} (B : StpI G) (h : Fn G "first_in" 2 3 firstB) (n : Nat) {k : Nat} {rs : List Rl} {w : List Nat} (hs : Sys k rs) (hw : w.length ≤ 1000) :
    evalF G (n + 3) "first_in" [sP k rs, .str w] = pure (firstP rs w) := by
  rw [h.at _ _ rfl]
  unfold firstB firstP
  walk_at "evs"
  rw [steps_in B n hs hw]
  walk_at "evs"
  rw [eqM_prs]
  cases steps rs w with
  | nil => walk_at "evs"; rfl
  | cons s ss =>
    walk_at "evs"
    rw [show ((s :: ss).isEmpty) = false from rfl]
    walk_at "evs"
    rw [show idxV (.lst (prP s :: List.map prP ss)) (.int 0) = pure (prP s) from idx_nl (k := 0) rfl]
    rfl
theorem need_step {G : Tab} (B : StpI G) (h : Fn G "need_step" 2 2 nstepB) (n : Nat) {k : Nat} {rs : List Rl} {s : Nat × Nat} (hf : fitS rs s = true) :
    evalF G (n + 3) "need_step" [sP k rs, prP s] = pure .non := by
  rw [h.at _ _ rfl]
  unfold nstepB
  walk_at "evs"
  rw [fits_step B.toStpC n, hf]
  walk_at "evs"
theorem steps_of {G : Tab} (B : StpI G) (h : Fn G "steps_of" 2 2 stepsOfB) (n : Nat) {k : Nat} {rs : List Rl} {w : List Nat} (hs : Sys k rs) (hw : Wrd k w) (h60 : w.length ≤ 60) :
    evalF G (n + 6) "steps_of" [sP k rs, .str w] = pure (.tup ((steps rs w).map prP)) := by
  rw [h.at _ _ rfl]
  unfold stepsOfB
  walk_at "evs"
  rw [need_both B.toBase B.nboth B.nsys B.nword n hs hw h60]
  walk_at "evs"
  rw [steps_in B (n + 3) hs (by omega)]
  walk_at "evs"
  rfl
theorem can_be_done {G : Tab} (B : StpI G) (h : Fn G "can_be_done" 3 3 canBeB) (hn : Fn G "need_step" 2 2 nstepB) (n : Nat) {k : Nat} {rs : List Rl} {w : List Nat} {s : Nat × Nat} (hs : Sys k rs) (hw : Wrd k w) (h60 : w.length ≤ 60) (hf : fitS rs s = true) :
    evalF G (n + 6) "can_be_done" [sP k rs, .str w, prP s] = pure (.bl (at_ (lhs rs s.2) w s.1)) := by
  have h2 := hf
  unfold fitS at h2
  rw [Bool.and_eq_true, decide_eq_true_eq, decide_eq_true_eq] at h2
  rw [h.at _ _ rfl]
  unfold canBeB
  walk_at "evs"
  rw [need_both B.toBase B.nboth B.nsys B.nword n hs hw h60]
  walk_at "evs"
  rw [need_step B hn (n + 2) hf]
  walk_at "evs"
  rw [can_in B.toStpC (n + 4) h2.2]
  walk_at "evs"
theorem word_behind {G : Tab} (B : StpI G) (h : Fn G "word_behind" 3 3 wordBehB) (hn : Fn G "need_step" 2 2 nstepB) (n : Nat) {k : Nat} {rs : List Rl} {w : List Nat} {s : Nat × Nat} (hs : Sys k rs) (hw : Wrd k w) (h60 : w.length ≤ 60) (hf : fitS rs s = true) :
    evalF G (n + 6) "word_behind" [sP k rs, .str w, prP s] = pure (.str (if at_ (lhs rs s.2) w s.1 then behind rs w s else w)) := by
  have h2 := hf
  unfold fitS at h2
  rw [Bool.and_eq_true, decide_eq_true_eq, decide_eq_true_eq] at h2
  rw [h.at _ _ rfl]
  unfold wordBehB
  walk_at "evs"
  rw [need_both B.toBase B.nboth B.nsys B.nword n hs hw h60]
  walk_at "evs"
  rw [need_step B hn (n + 2) hf]
  walk_at "evs"
  rw [can_in B.toStpC (n + 4) h2.2]
  cases at_ (lhs rs s.2) w s.1 with
  | false => walk_at "evs"
  | true =>
    walk_at "evs"
    rw [behind_in B.toStpC (n + 4) h2.2 (by omega) (by have := hs.r6 s.2; omega)]
    walk_at "evs"
theorem is_at_rest {G : Tab} (B : StpI G) (h : Fn G "is_at_rest" 2 2 atRestB) (h1 : Fn G "first_in" 2 3 firstB) (n : Nat) {k : Nat} {rs : List Rl} {w : List Nat} (hs : Sys k rs) (hw : Wrd k w) (h60 : w.length ≤ 60) :
    evalF G (n + 6) "is_at_rest" [sP k rs, .str w] = pure (.bl (steps rs w).isEmpty) := by
  rw [h.at _ _ rfl]
  unfold atRestB
  walk_at "evs"
  rw [need_both B.toBase B.nboth B.nsys B.nword n hs hw h60]
  walk_at "evs"
  rw [first_in B h1 (n + 2) hs (by omega)]
  walk_at "evs"
  unfold firstP
  cases steps rs w with
  | nil => rfl
  | cons s ss => rfl
theorem steps_from_place {G : Tab} (B : StpI G) (h : Fn G "steps_from_place" 3 5 fromPlaceB) (n : Nat) {k : Nat} {rs : List Rl} {w : List Nat} {p : Nat} (hs : Sys k rs) (hw : Wrd k w) (h60 : w.length ≤ 60) (hp : p ≤ 60) :
    evalF G (n + 6) "steps_from_place" [sP k rs, .str w, .int p] = pure (.tup (((steps rs w).filter fun s => s.1 == p).map fun s => .int s.2)) := by
  rw [h.at _ _ rfl]
  unfold fromPlaceB
  walk_at "evs"
  rw [need_both B.toBase B.nboth B.nsys B.nword n hs hw h60]
  walk_at "evs"
  rw [fits_whole B.whole (n + 4) p 0 60 (by omega) (by omega)]
  walk_at "evs"
  rw [steps_in B (n + 3) hs (by omega)]
  walk_at "evs"
  rw [flatM_overF (b := fun s : Nat × Nat => s.1 == p) (g := fun s : Nat × Nat => .int s.2)]
  · walk_at "evs"
    rfl
  · intro s hss
    rw [asg_prP]
    walk_at "evs"
    rw [eqM_int]
    walk_at "evs"
    rw [show ((s.1 : Int) == (p : Int)) = (s.1 == p) by rw [Bool.eq_iff_iff, beq_iff_eq, beq_iff_eq]; omega]
    cases s.1 == p <;> walk_at "evs"
theorem mul_sm {i j : Int} (h0 : 0 ≤ j) (h1 : j ≤ 1000000000000) : mulV (.int i) (.int j) = pure (.int (i * j)) := by
  show (if (small64 i || small64 j) = true then _ else _) = _
  rw [if_pos]
  unfold small64
  simp only [Bool.or_eq_true, Bool.and_eq_true, decide_eq_true_eq]
  right
  omega
end EV

set_option maxRecDepth 100000
/-! EvMa: matrices: fits_matrix, fits_matrices, times, product_in, less_in; the laws' products. -/
namespace EV
open PySem
local macro_rules | `(tactic| walk_at "evs1") => `(tactic| simp only [evalB, evalS, evalE, evalEs, evalO, evalIt, evalIfs, partM, getP_v, getP_o, getP_s, getV_v, getV_s, truM_b, truM_n, truM_i, truM_s, truM_l, truM_t, optM_s, lenV_l, lenV_t, lenV_s, seqOf_l, seqOf_t, seqOf_s, out_ret, out_next, add_i, sub_i, int_i, cmp_lt, cmp_le, cmp_gt, cmp_ge, cmp_eq, cmp_ne, cmp_is, cmp_in, cmp_nin, slot_cell, slot_ol, slot_s, rec_join, rec_sw, rec_ew, rec_count, rec_index, rec_indexl, rec_get, guard_t, asg_nm, asg_t0, asg_t2, ownD, pure_bind, bind_assoc, bltV, blt1, blt2, binV, isTy_int_int, isTy_int_str, isTy_int_bool, isTy_int_tuple, isTy_int_list, isTy_bl_int, isTy_bl_str, isTy_bl_bool, isTy_bl_tuple, isTy_bl_list, isTy_str_int, isTy_str_str, isTy_str_bool, isTy_str_tuple, isTy_str_list, isTy_tup_int, isTy_tup_str, isTy_tup_bool, isTy_tup_tuple, isTy_tup_list, isTy_lst_int, isTy_lst_str, isTy_lst_bool, isTy_lst_tuple, isTy_lst_list, isTy_dict_int, isTy_dict_str, isTy_dict_bool, isTy_dict_tuple, isTy_dict_list, isTy_non_int, isTy_non_str, isTy_non_bool, isTy_non_tuple, isTy_non_list, List.getElem?_cons_zero, List.getElem?_cons_succ, List.getElem?_nil, if_true, if_false, ↓reduceIte, Bool.false_eq_true, Bool.not_true, Bool.not_false, List.map_cons, List.map_nil, List.length_cons, List.length_nil, Nat.reduceSub, Nat.reduceAdd, List.replicate_succ, List.replicate_zero, wipeE, List.set_cons_zero, List.set_cons_succ, List.set_nil, List.cons_append, List.nil_append])
local macro_rules | `(tactic| walk_at "evs") => `(tactic| try walk_at "evs1")
local macro_rules | `(tactic| walk_at "evt") => `(tactic| repeat (first | walk_at "evs1" | simp only [idx_sys0, idx_sys1, idx_rule0, idx_rule1, idx_pr0, idx_pr1, idx_tup0, idx_tup1, eqM_int, eqM_str, starts_s, slc_from, slc_to, slc_s, tup_l, list_s, str_s, isM_nn, isM_in, isM_bn, isM_sn, isM_bb, cmp_isn, neg_i, par2, par3, asg_rP, asg_prP, asg_t2v, count_sc]))
abbrev Mx := (Int × Int) × (Int × Int)
def mP (m : Mx) : PV := .tup [.tup [.int m.1.1, .int m.1.2], .tup [.int m.2.1, .int m.2.2]]
def qP (m : Mx) : PV := .tup [.int m.1.1, .int m.1.2, .int m.2.1, .int m.2.2]
def mulX (x y : Mx) : Mx := ((x.1.1 * y.1.1 + x.1.2 * y.2.1, x.1.1 * y.1.2 + x.1.2 * y.2.2), (x.2.1 * y.1.1 + x.2.2 * y.2.1, x.2.1 * y.1.2 + x.2.2 * y.2.2))
def subX (x y : Mx) : Mx := ((x.1.1 - y.1.1, x.1.2 - y.1.2), (x.2.1 - y.2.1, x.2.2 - y.2.2))
def oneX : Mx := ((1, 0), (0, 1))
structure EntX (m : Mx) : Prop where
  a0 : 1 ≤ m.1.1
  a9 : m.1.1 ≤ 9
  b0 : 0 ≤ m.1.2
  b9 : m.1.2 ≤ 9
  c0 : 0 ≤ m.2.1
  c9 : m.2.1 ≤ 9
  d0 : 1 ≤ m.2.2
  d9 : m.2.2 ≤ 9
/-- matrices for so many letters -/
structure Mxs (k : Nat) (ms : List Mx) : Prop where
  len : ms.length = k
  ok : ∀ m ∈ ms, EntX m
def msP (ms : List Mx) : PV := .tup (ms.map mP)
def prodX (ms : List Mx) (w : List Nat) : Mx := w.foldl (fun x c => mulX x (ms.getD (c - 97) oneX)) oneX
def fmatB : List CS := [.ifs (.or (.not (.call "is_tuple_of" [(.var 0), (.cst (.int 2)), (.cst (.int 2))])) (.not (.blt .all [(.comp (.call "is_tuple_of" [(.var 1), (.cst (.int 2)), (.cst (.int 2))]) [1] (.mk (.nm 1) (.seq (.peek 0)) []) [])]))) [.ret (.cst (.bl false))] [],
  .ifs (.not (.blt .all [(.comp (.call "fits_whole" [(.var 2), (.cst (.int 0)), (.glb "ENTRY" (.int 9))]) [1, 2] (.mk (.nm 1) (.seq (.peek 0)) []) [(.mk (.nm 2) (.seq (.var 1)) [])])])) [.ret (.cst (.bl false))] [],
  .ret (.and (.cmp .gt (.idx (.idx (.peek 0) (.cst (.int 0))) (.cst (.int 0))) (.cst (.int 0))) (.cmp .gt (.idx (.idx (.peek 0) (.cst (.int 1))) (.cst (.int 1))) (.cst (.int 0))))]
def fmatsB : List CS := [.ret (.and (.call "is_tuple_of" [(.var 1), (.var 0), (.var 0)]) (.blt .all [(.comp (.call "fits_matrix" [(.var 2)]) [2] (.mk (.nm 2) (.seq (.peek 1)) []) [])]))]
def timesB : List CS := [.asg (.nm 2) (.comp (.bin .add (.bin .mul (.idx (.peek 3) (.cst (.int 0))) (.idx (.idx (.peek 1) (.cst (.int 0))) (.peek 4))) (.bin .mul (.idx (.peek 3) (.cst (.int 1))) (.idx (.idx (.peek 1) (.cst (.int 1))) (.peek 4)))) [3, 4] (.mk (.nm 3) (.seq (.peek 0)) []) [(.mk (.nm 4) (.seq (.tup [(.cst (.int 0)), (.cst (.int 1))])) [])]),
  .ret (.tup [(.tup [(.idx (.peek 2) (.cst (.int 0))), (.idx (.peek 2) (.cst (.int 1)))]), (.tup [(.idx (.peek 2) (.cst (.int 2))), (.idx (.peek 2) (.cst (.int 3)))])])]
def prodLoop : List CS := [.asg (.nm 2) (.call "times" [(.var 2), (.idx (.peek 0) (.mth .index (.glb "LETTERS" (.str [97, 98, 99, 100])) [(.var 3)]))])]
def prodB : List CS := [.asg (.nm 2) (.glb "ONE" (.tup [(.tup [(.int 1), (.int 0)]), (.tup [(.int 0), (.int 1)])])),
  .fors (.nm 3) (.seq (.var 1)) prodLoop,
  .ret (.var 2)]
def lessB : List CS := [.ret (.blt .tuple [(.comp (.blt .tuple [(.comp (.bin .sub (.peek 2) (.peek 3)) [2, 3] (.mk (.tup [(.nm 2), (.nm 3)]) (.zip (.peek 4) (.peek 5)) []) [])]) [4, 5] (.mk (.tup [(.nm 4), (.nm 5)]) (.zip (.peek 0) (.peek 1)) []) [])])]
def nmatsB : List CS := [.ifs (.not (.call "fits_matrices" [(.idx (.peek 0) (.glb "SIZE" (.int 0))), (.var 1)])) [.raise "InvalidPaper" [(.cst (.str [110, 111, 116, 32, 109, 97, 116, 114, 105, 99, 101, 115]))]] []]
def isMatsB : List CS := [.expr (.call "need_system" [(.var 0)]),
  .ret (.call "fits_matrices" [(.idx (.peek 0) (.glb "SIZE" (.int 0))), (.var 1)])]
def matOfB : List CS := [.expr (.call "need_system" [(.var 0)]),
  .expr (.call "need_matrices" [(.var 0), (.var 1)]),
  .expr (.call "need_both" [(.var 0), (.var 2)]),
  .ret (.call "product_in" [(.var 1), (.var 2)])]
def worthB : List CS := [.expr (.call "need_system" [(.var 0)]),
  .expr (.call "need_matrices" [(.var 0), (.var 1)]),
  .expr (.call "need_both" [(.var 0), (.var 2)]),
  .ret (.idx (.idx (.call "product_in" [(.var 1), (.var 2)]) (.cst (.int 0))) (.cst (.int 1)))]
def gapsB : List CS := [.expr (.call "need_system" [(.var 0)]),
  .expr (.call "need_matrices" [(.var 0), (.var 1)]),
  .ret (.blt .tuple [(.comp (.call "less_in" [(.call "product_in" [(.var 1), (.var 2)]), (.call "product_in" [(.var 1), (.var 3)])]) [2, 3] (.mk (.tup [(.nm 2), (.nm 3)]) (.seq (.idx (.peek 0) (.glb "RULES" (.int 1)))) []) [])])]
def lprodLoop : List CS := [.asg (.tup [(.tup [(.nm 4), (.nm 5)]), (.tup [(.nm 6), (.nm 7)])]) (.idx (.peek 0) (.mth .index (.cst (.str [97, 98, 99, 100])) [(.var 3)])), .asg (.tup [(.nm 8), (.nm 9), (.nm 10), (.nm 11)]) (.var 2), .asg (.nm 2) (.tup [(.bin .add (.bin .mul (.peek 8) (.peek 4)) (.bin .mul (.peek 9) (.peek 6))), (.bin .add (.bin .mul (.peek 8) (.peek 5)) (.bin .mul (.peek 9) (.peek 7))), (.bin .add (.bin .mul (.peek 10) (.peek 4)) (.bin .mul (.peek 11) (.peek 6))), (.bin .add (.bin .mul (.peek 10) (.peek 5)) (.bin .mul (.peek 11) (.peek 7)))])]
def lprodB : List CS := [.asg (.nm 2) (.tup [(.cst (.int 1)), (.cst (.int 0)), (.cst (.int 0)), (.cst (.int 1))]),
  .fors (.nm 3) (.seq (.var 1)) lprodLoop,
  .ret (.var 2)]
def lgapsB : List CS := [.par [(2, false), (3, false)] [(.call "_law_product" [(.var 0), (.idx (.peek 1) (.cst (.int 0)))]), (.call "_law_product" [(.var 0), (.idx (.peek 1) (.cst (.int 1)))])],
  .ret (.blt .tuple [(.comp (.bin .sub (.idx (.peek 2) (.peek 4)) (.idx (.peek 3) (.peek 4))) [4] (.mk (.nm 4) (.rng [(.cst (.int 4))]) []) [])])]
theorem idx_l0 {a : PV} {l : List PV} : idxV (.lst (a :: l)) (.int 0) = pure a := idx_nl (k := 0) rfl
theorem idx_l1 {a b : PV} {l : List PV} : idxV (.lst (a :: b :: l)) (.int 1) = pure b := idx_nl (k := 1) rfl
theorem idx_l2 {a b c : PV} {l : List PV} : idxV (.lst (a :: b :: c :: l)) (.int 2) = pure c := idx_nl (k := 2) rfl
theorem idx_l3 {a b c d : PV} {l : List PV} : idxV (.lst (a :: b :: c :: d :: l)) (.int 3) = pure d := idx_nl (k := 3) rfl
theorem pushV_lt {acc : List PV} {v : PV} (h : acc.length ≤ 1000000) : pushV acc v = pure (acc ++ [v]) := by
  unfold pushV
  rw [if_pos (push_lt h)]
theorem times {G : Tab} (h : Fn G "times" 2 5 timesB) (n : Nat) {x y : Mx} (hy : EntX y) : evalF G (n + 1) "times" [mP x, mP y] = pure (mP (mulX x y)) := by
  obtain ⟨⟨a, b⟩, ⟨c, d⟩⟩ := x
  obtain ⟨⟨e, f⟩, ⟨g, i⟩⟩ := y
  obtain ⟨h1, h2, h3, h4, h5, h6, h7, h8⟩ := hy
  dsimp only at h1 h2 h3 h4 h5 h6 h7 h8
  have m1 : ∀ j, mulV (.int j) (.int e) = pure (.int (j * e)) := fun j => mul_sm (by omega) (by omega)
  have m2 : ∀ j, mulV (.int j) (.int f) = pure (.int (j * f)) := fun j => mul_sm (by omega) (by omega)
  have m3 : ∀ j, mulV (.int j) (.int g) = pure (.int (j * g)) := fun j => mul_sm (by omega) (by omega)
  have m4 : ∀ j, mulV (.int j) (.int i) = pure (.int (j * i)) := fun j => mul_sm (by omega) (by omega)
  rw [h.at _ _ rfl]
  unfold timesB mP
  walk_at "evs"
  simp only [flatA, tIx, tIxs]
  repeat (first | walk_at "evs1" | simp only [idx_tup0, idx_tup1, m1, m2, m3, m4])
  simp only [pushV_lt (show ([] : List PV).length ≤ 1000000 by decide), pure_bind, List.nil_append]
  repeat (first | walk_at "evs1" | simp only [idx_tup0, idx_tup1, m1, m2, m3, m4, idx_l0, idx_l1, idx_l2, idx_l3] | rw [pushV_lt (by simp)])
  rfl
theorem index_abcd {k : Nat} {c : Nat} (hc : c ∈ Let k) (hk : k ≤ 4) : indexV (.str [97, 98, 99, 100]) (.str [c]) = pure (.int ((c - 97 : Nat) : Int)) ∧ c - 97 < k := by
  have h4 : c ∈ Let 4 := by
    have : Let k = (Let 4).take k := by
      match k, hk with
      | 0, _ => rfl
      | 1, _ => rfl
      | 2, _ => rfl
      | 3, _ => rfl
      | 4, _ => rfl
    rw [this] at hc
    exact List.mem_of_mem_take hc
  obtain ⟨j, h1, h2, h3⟩ := findS_abcd c h4
  subst h3
  refine ⟨?_, ?_⟩
  · rw [index_s h1]
    congr 3
    omega
  · match k, hk with
    | 0, _ => simp [Let] at hc
    | 1, _ => revert hc; have : j < 4 := h2; match j, this with | 0, _ => decide | 1, _ => decide | 2, _ => decide | 3, _ => decide
    | 2, _ => revert hc; have : j < 4 := h2; match j, this with | 0, _ => decide | 1, _ => decide | 2, _ => decide | 3, _ => decide
    | 3, _ => revert hc; have : j < 4 := h2; match j, this with | 0, _ => decide | 1, _ => decide | 2, _ => decide | 3, _ => decide
    | 4, _ => revert hc; have : j < 4 := h2; match j, this with | 0, _ => decide | 1, _ => decide | 2, _ => decide | 3, _ => decide
theorem rec_index' {l : List Nat} : recvOk .index (.str l) = true := rfl
theorem prod_snoc (ms : List Mx) (w : List Nat) (c : Nat) : prodX ms (w ++ [c]) = mulX (prodX ms w) (ms.getD (c - 97) oneX) := by
  unfold prodX
  rw [List.foldl_append]
  rfl
theorem product_in {G : Tab} (h : Fn G "product_in" 2 4 prodB) (ht : Fn G "times" 2 5 timesB) (n : Nat) {k : Nat} {ms : List Mx} {w : List Nat} (hk : k ≤ 4) (hm : Mxs k ms) (hw : Wrd k w) :
    evalF G (n + 2) "product_in" [msP ms, .str w] = pure (mP (prodX ms w)) := by
  rw [h.at _ _ rfl]
  unfold prodB
  walk_at "evs"
  refine forL_det (k := 0) (fun i e => ∃ s3, e = [.val (msP ms), .val (.str w), .val (mP (prodX ms (w.take i))), s3]) ⟨_, rfl⟩ (fun i x e hx he => ?_) (fun e he => ?_)
  · obtain ⟨s3, rfl⟩ := he
    rw [Nat.zero_add] at *
    rw [List.getElem?_map] at hx
    cases hc : w[i]? with
    | none => rw [hc] at hx; cases hx
    | some c =>
      rw [hc] at hx
      cases hx
      obtain ⟨i1, i2⟩ := index_abcd (hw c (List.mem_of_getElem? hc)) hk
      unfold prodLoop
      walk_at "evs"
      rw [show mthV .index (.str [97, 98, 99, 100]) [.str [c]] = indexV (.str [97, 98, 99, 100]) (.str [c]) from rfl, i1]
      walk_at "evs"
      have hl : c - 97 < ms.length := by rw [hm.len]; exact i2
      rw [show idxV (msP ms) (.int ((c - 97 : Nat) : Int)) = pure (mP ms[c - 97]) from idx_n (by rw [List.getElem?_map, List.getElem?_eq_getElem hl]; rfl)]
      walk_at "evs"
      rw [times ht n (hm.ok _ (List.getElem_mem hl))]
      walk_at "evs"
      rw [List.take_succ, hc, Option.toList_some, prod_snoc, List.getD_eq_getElem?_getD, List.getElem?_eq_getElem hl, Option.getD_some]
      exact ⟨_, rfl, _, rfl⟩
  · obtain ⟨s3, rfl⟩ := he
    rw [Nat.zero_add, List.length_map, List.take_length]
    walk_at "evs"
theorem less_in {G : Tab} (h : Fn G "less_in" 2 6 lessB) (n : Nat) (x y : Mx) : evalF G (n + 1) "less_in" [mP x, mP y] = pure (mP (subX x y)) := by
  rw [h.at _ _ rfl]
  unfold lessB mP
  walk_at "evs"
  simp only [zipM, zipV, pure_bind, flatM, tIx, tIxs]
  walk_at "evt"
  simp only [zipM, zipV, pure_bind, flatM, tIx, tIxs]
  walk_at "evt"
  rfl
structure Mats (G : Tab) : Prop extends Base G where
  fmat : Fn G "fits_matrix" 1 3 fmatB
  fmats : Fn G "fits_matrices" 2 3 fmatsB
theorem fits_matrix {G : Tab} (B : Mats G) (n : Nat) {m : Mx} (hm : EntX m) : evalF G (n + 2) "fits_matrix" [mP m] = pure (.bl true) := by
  obtain ⟨⟨e, f⟩, ⟨g, i⟩⟩ := m
  obtain ⟨h1, h2, h3, h4, h5, h6, h7, h8⟩ := hm
  dsimp only at h1 h2 h3 h4 h5 h6 h7 h8
  rw [B.fmat.at _ _ rfl]
  unfold fmatB mP
  walk_at "evs"
  rw [is_tuple_of B.tup n _ 2 2 (by simp) (by simp)]
  walk_at "evs"
  simp only [flatM]
  walk_at "evs"
  rw [is_tuple_of B.tup n [.int e, .int f] 2 2 (by simp) (by simp), is_tuple_of B.tup n [.int g, .int i] 2 2 (by simp) (by simp)]
  walk_at "evs"
  rw [show allV (.lst [.bl true, .bl true]) = pure (.bl true) from rfl]
  walk_at "evs"
  simp only [flatA, tIx, tIxs]
  walk_at "evs"
  simp only [flatA, tIx, tIxs]
  walk_at "evs"
  rw [fits_whole B.whole n e 0 9 (by omega) (by omega), fits_whole B.whole n f 0 9 (by omega) (by omega), fits_whole B.whole n g 0 9 (by omega) (by omega), fits_whole B.whole n i 0 9 (by omega) (by omega)]
  simp only [pushV_lt (show ([] : List PV).length ≤ 1000000 by decide), pure_bind, List.nil_append]
  repeat (first | walk_at "evs1" | rw [pushV_lt (by simp)])
  rw [show allV (.lst [.bl true, .bl true, .bl true, .bl true]) = pure (.bl true) from rfl]
  walk_at "evt"
  rw [decide_eq_true (show 0 < e by omega), decide_eq_true (show 0 < i by omega)]
  walk_at "evs"
/-- what fits, and what does not -/
theorem fits_mats {G : Tab} (B : Mats G) (n : Nat) {k : Nat} {l : List PV} {b : PV → Bool} (hb : ∀ v ∈ l, evalF G (n + 2) "fits_matrix" [v] = pure (.bl (b v))) : evalF G (n + 3) "fits_matrices" [.int k, .tup l] = pure (.bl (decide (l.length = k) && l.all b)) := by
  rw [B.fmats.at _ _ rfl]
  unfold fmatsB
  walk_at "evs"
  rw [tuple_b B.tup]
  walk_at "evs"
  by_cases hl : l.length = k
  · rw [decide_eq_true (show ((k : Int) ≤ l.length) by omega), decide_eq_true (show ((l.length : Int) ≤ k) by omega), decide_eq_true hl]
    simp only [Bool.and_true, Bool.true_and]
    walk_at "evs"
    rw [flatM_map (g := fun v => .bl (b v)) (fun v hv => by rw [hb v hv]; rfl)]
    walk_at "evs"
    rw [allV_map]
    walk_at "evs"
  · rw [decide_eq_false hl, show (decide ((k : Int) ≤ l.length) && decide ((l.length : Int) ≤ k)) = false by simp only [Bool.and_eq_false_iff, decide_eq_false_iff_not]; omega]
    walk_at "evs"
    rfl
theorem fits_matrices {G : Tab} (B : Mats G) (n : Nat) {k : Nat} {ms : List Mx} (hm : Mxs k ms) : evalF G (n + 3) "fits_matrices" [.int k, msP ms] = pure (.bl true) := by
  have q := fits_mats B n (k := k) (l := ms.map mP) (b := fun _ => true) fun v hv => by
    obtain ⟨m, h1, rfl⟩ := List.mem_map.mp hv
    exact fits_matrix B n (hm.ok m h1)
  rw [List.length_map, hm.len, decide_eq_true rfl, show (List.map mP ms).all (fun _ => true) = true from List.all_eq_true.mpr fun _ _ => rfl] at q
  exact q
theorem need_matrices {G : Tab} (B : Mats G) (h : Fn G "need_matrices" 2 2 nmatsB) (n : Nat) {k : Nat} {rs : List Rl} {ms : List Mx} (hm : Mxs k ms) : evalF G (n + 4) "need_matrices" [sP k rs, msP ms] = pure .non := by
  rw [h.at _ _ rfl]
  unfold nmatsB
  walk_at "evt"
  rw [fits_matrices B n hm]
  walk_at "evs"
theorem law_product {G : Tab} (h : Fn G "_law_product" 2 12 lprodB) (n : Nat) {k : Nat} {ms : List Mx} {w : List Nat} (hk : k ≤ 4) (hm : Mxs k ms) (hw : Wrd k w) :
    evalF G (n + 1) "_law_product" [msP ms, .str w] = pure (qP (prodX ms w)) := by
  rw [h.at _ _ rfl]
  unfold lprodB
  walk_at "evs"
  refine forL_det (k := 0) (fun i e => ∃ s3 s4 s5 s6 s7 s8 s9 s10 s11, e = [.val (msP ms), .val (.str w), .val (qP (prodX ms (w.take i))), s3, s4, s5, s6, s7, s8, s9, s10, s11]) ⟨_, _, _, _, _, _, _, _, _, rfl⟩ (fun i x e hx he => ?_) (fun e he => ?_)
  · obtain ⟨s3, s4, s5, s6, s7, s8, s9, s10, s11, rfl⟩ := he
    rw [Nat.zero_add] at *
    rw [List.getElem?_map] at hx
    cases hc : w[i]? with
    | none => rw [hc] at hx; cases hx
    | some c =>
      rw [hc] at hx
      cases hx
      obtain ⟨i1, i2⟩ := index_abcd (hw c (List.mem_of_getElem? hc)) hk
      unfold lprodLoop
      walk_at "evs"
      rw [show mthV .index (.str [97, 98, 99, 100]) [.str [c]] = indexV (.str [97, 98, 99, 100]) (.str [c]) from rfl, i1]
      walk_at "evs"
      have hl : c - 97 < ms.length := by rw [hm.len]; exact i2
      rw [show idxV (msP ms) (.int ((c - 97 : Nat) : Int)) = pure (mP ms[c - 97]) from idx_n (by rw [List.getElem?_map, List.getElem?_eq_getElem hl]; rfl)]
      rw [List.take_succ, hc, Option.toList_some, prod_snoc, List.getD_eq_getElem?_getD, List.getElem?_eq_getElem hl]
      have he := hm.ok _ (List.getElem_mem hl)
      rw [Option.getD_some]
      generalize ms[c - 97] = m at *
      generalize prodX ms (w.take i) = p at *
      obtain ⟨⟨e, f⟩, ⟨g, j⟩⟩ := m
      obtain ⟨⟨a, b⟩, ⟨c, d⟩⟩ := p
      obtain ⟨h1, h2, h3, h4, h5, h6, h7, h8⟩ := he
      dsimp only at h1 h2 h3 h4 h5 h6 h7 h8
      have m1 : ∀ x, mulV (.int x) (.int e) = pure (.int (x * e)) := fun x => mul_sm (by omega) (by omega)
      have m2 : ∀ x, mulV (.int x) (.int f) = pure (.int (x * f)) := fun x => mul_sm (by omega) (by omega)
      have m3 : ∀ x, mulV (.int x) (.int g) = pure (.int (x * g)) := fun x => mul_sm (by omega) (by omega)
      have m4 : ∀ x, mulV (.int x) (.int j) = pure (.int (x * j)) := fun x => mul_sm (by omega) (by omega)
      unfold mP qP
      rw [pure_bind]
      have as1 : ∀ (e : Ev) (u1 u2 u3 u4 : PV), asgT (.tup [.tup [.nm 4, .nm 5], .tup [.nm 6, .nm 7]]) (.tup [.tup [u1, u2], .tup [u3, u4]]) e = pure ((((e.set 4 (.val u1)).set 5 (.val u2)).set 6 (.val u3)).set 7 (.val u4)) := fun _ _ _ _ _ => rfl
      have as2 : ∀ (e : Ev) (u1 u2 u3 u4 : PV), asgT (.tup [.nm 8, .nm 9, .nm 10, .nm 11]) (.tup [u1, u2, u3, u4]) e = pure ((((e.set 8 (.val u1)).set 9 (.val u2)).set 10 (.val u3)).set 11 (.val u4)) := fun _ _ _ _ _ => rfl
      rw [as1]
      walk_at "evs"
      rw [as2]
      repeat (first | walk_at "evs1" | simp only [m1, m2, m3, m4])
      exact ⟨_, rfl, _, _, _, _, _, _, _, _, _, rfl⟩
  · obtain ⟨s3, s4, s5, s6, s7, s8, s9, s10, s11, rfl⟩ := he
    rw [Nat.zero_add, List.length_map, List.take_length]
    walk_at "evs"
theorem law_gaps {G : Tab} (h : Fn G "_law_gaps" 2 5 lgapsB) (hp : Fn G "_law_product" 2 12 lprodB) (n : Nat) {k : Nat} {ms : List Mx} {r : Rl} (hk : k ≤ 4) (hm : Mxs k ms) (h1 : Wrd k r.1) (h2 : Wrd k r.2) :
    evalF G (n + 2) "_law_gaps" [msP ms, rP r] = pure (qP (subX (prodX ms r.1) (prodX ms r.2))) := by
  rw [h.at _ _ rfl]
  unfold lgapsB
  walk_at "evt"
  rw [law_product hp n hk hm h1]
  walk_at "evs"
  rw [law_product hp n hk hm h2]
  walk_at "evt"
  rw [rng1 (n := 4) (by decide) (by omega) (by omega)]
  generalize prodX ms r.1 = x
  generalize prodX ms r.2 = y
  obtain ⟨⟨a, b⟩, ⟨c, d⟩⟩ := x
  obtain ⟨⟨e, f⟩, ⟨g, i⟩⟩ := y
  unfold qP
  rw [show ((List.range 4).map fun (k : Nat) => PV.int k) = [.int 0, .int 1, .int 2, .int 3] from rfl]
  walk_at "evs"
  simp only [flatM]
  have t2 : ∀ u0 u1 u2 u3 : PV, idxV (.tup [u0, u1, u2, u3]) (.int 2) = pure u2 := fun _ _ _ _ => idx_n (k := 2) rfl
  have t3 : ∀ u0 u1 u2 u3 : PV, idxV (.tup [u0, u1, u2, u3]) (.int 3) = pure u3 := fun _ _ _ _ => idx_n (k := 3) rfl
  repeat (first | walk_at "evs1" | simp only [idx_tup0, idx_tup1, t2, t3, tup_l])
  rfl
theorem is_matrices {G : Tab} (B : Mats G) (hn : Fn G "need_system" 1 1 nsysB) (h : Fn G "is_matrices" 2 2 isMatsB) (n : Nat) {k : Nat} {rs : List Rl} {v : PV} {r : Bool} (hs : Sys k rs) (hv : evalF G (n + 4) "fits_matrices" [.int k, v] = pure (.bl r)) :
    evalF G (n + 5) "is_matrices" [sP k rs, v] = pure (.bl r) := by
  rw [h.at _ _ rfl]
  unfold isMatsB
  walk_at "evs"
  rw [need_system B.toBase hn n hs]
  walk_at "evt"
  rw [hv]
  walk_at "evs"
structure MatsP (G : Tab) : Prop extends Mats G, Words G where
  prod : Fn G "product_in" 2 4 prodB
  times : Fn G "times" 2 5 timesB
  nmats : Fn G "need_matrices" 2 2 nmatsB
theorem matrix_of {G : Tab} (B : MatsP G) (h : Fn G "matrix_of" 3 3 matOfB) (n : Nat) {k : Nat} {rs : List Rl} {ms : List Mx} {w : List Nat} (hs : Sys k rs) (hm : Mxs k ms) (hw : Wrd k w) (h60 : w.length ≤ 60) :
    evalF G (n + 6) "matrix_of" [sP k rs, msP ms, .str w] = pure (mP (prodX ms w)) := by
  rw [h.at _ _ rfl]
  unfold matOfB
  walk_at "evs"
  rw [need_system B.toBase B.nsys (n + 1) hs]
  walk_at "evs"
  rw [need_matrices B.toMats B.nmats (n + 1) hm]
  walk_at "evs"
  rw [need_both B.toBase B.nboth B.nsys B.nword n hs hw h60]
  walk_at "evs"
  rw [product_in B.prod B.times (n + 3) hs.n4 hm hw]
  walk_at "evs"
theorem worth_of {G : Tab} (B : MatsP G) (h : Fn G "worth_of" 3 3 worthB) (n : Nat) {k : Nat} {rs : List Rl} {ms : List Mx} {w : List Nat} (hs : Sys k rs) (hm : Mxs k ms) (hw : Wrd k w) (h60 : w.length ≤ 60) :
    evalF G (n + 6) "worth_of" [sP k rs, msP ms, .str w] = pure (.int (prodX ms w).1.2) := by
  rw [h.at _ _ rfl]
  unfold worthB
  walk_at "evs"
  rw [need_system B.toBase B.nsys (n + 1) hs]
  walk_at "evs"
  rw [need_matrices B.toMats B.nmats (n + 1) hm]
  walk_at "evs"
  rw [need_both B.toBase B.nboth B.nsys B.nword n hs hw h60]
  walk_at "evs"
  rw [product_in B.prod B.times (n + 3) hs.n4 hm hw]
  unfold mP
  walk_at "evt"
theorem gaps_of {G : Tab} (B : MatsP G) (h : Fn G "gaps_of" 2 4 gapsB) (hl : Fn G "less_in" 2 6 lessB) (n : Nat) {k : Nat} {rs : List Rl} {ms : List Mx} (hs : Sys k rs) (hm : Mxs k ms) :
    evalF G (n + 5) "gaps_of" [sP k rs, msP ms] = pure (.tup (rs.map fun r => mP (subX (prodX ms r.1) (prodX ms r.2)))) := by
  rw [h.at _ _ rfl]
  unfold gapsB
  walk_at "evs"
  rw [need_system B.toBase B.nsys n hs]
  walk_at "evs"
  rw [need_matrices B.toMats B.nmats n hm]
  walk_at "evt"
  rw [flatM_overM (g := fun r => mP (subX (prodX ms r.1) (prodX ms r.2)))]
  · walk_at "evt"
  · intro r hr
    have q := hs.ok r hr
    rw [asg_rP]
    walk_at "evs"
    rw [product_in B.prod B.times (n + 2) hs.n4 hm q.wl]
    walk_at "evs"
    rw [product_in B.prod B.times (n + 2) hs.n4 hm q.wr]
    walk_at "evs"
    rw [less_in hl]
    walk_at "evs"
/-! ### bounds -/
structure Pos (m : Mx) (t : Int) : Prop where
  a : 1 ≤ m.1.1 ∧ m.1.1 ≤ t
  b : 0 ≤ m.1.2 ∧ m.1.2 ≤ t
  c : 0 ≤ m.2.1 ∧ m.2.1 ≤ t
  d : 1 ≤ m.2.2 ∧ m.2.2 ≤ t
theorem mul_bd {x e t : Int} (h0 : 0 ≤ x) (h1 : x ≤ t) (h2 : 0 ≤ e) (h3 : e ≤ 9) : 0 ≤ x * e ∧ x * e ≤ t * 9 := ⟨Int.mul_nonneg h0 h2, Int.mul_le_mul h1 h3 h2 (by omega)⟩
theorem mul_ge {x e : Int} (h0 : 1 ≤ x) (h1 : 1 ≤ e) : 1 ≤ x * e := by
  have := Int.mul_le_mul h0 h1 (by omega) (show (0 : Int) ≤ x by omega)
  omega
theorem Pos.mul {m y : Mx} {t : Int} (h : Pos m t) (e : EntX y) : Pos (mulX m y) (18 * t) := by
  obtain ⟨⟨a, b⟩, ⟨c, d⟩⟩ := m
  obtain ⟨⟨p, q⟩, ⟨r, s⟩⟩ := y
  obtain ⟨⟨a1, a2⟩, ⟨b1, b2⟩, ⟨c1, c2⟩, ⟨d1, d2⟩⟩ := h
  obtain ⟨h1, h2, h3, h4, h5, h6, h7, h8⟩ := e
  dsimp only at *
  have ap := mul_bd (x := a) (e := p) (t := t) (by omega) a2 (by omega) h2
  have aq := mul_bd (x := a) (e := q) (t := t) (by omega) a2 h3 h4
  have br := mul_bd (x := b) (e := r) (t := t) b1 b2 h5 h6
  have bs := mul_bd (x := b) (e := s) (t := t) b1 b2 (by omega) h8
  have cp := mul_bd (x := c) (e := p) (t := t) c1 c2 (by omega) h2
  have cq := mul_bd (x := c) (e := q) (t := t) c1 c2 h3 h4
  have dr := mul_bd (x := d) (e := r) (t := t) (by omega) d2 h5 h6
  have ds := mul_bd (x := d) (e := s) (t := t) (by omega) d2 (by omega) h8
  have a9 := mul_ge a1 h1
  have d9 := mul_ge d1 h7
  unfold mulX
  refine ⟨?_, ?_, ?_, ?_⟩ <;> (dsimp only; omega)
theorem Mxs.get {k : Nat} {ms : List Mx} (h : Mxs k ms) {i : Nat} (hi : i < k) : EntX (ms.getD i oneX) := by
  have hl : i < ms.length := by rw [h.len]; exact hi
  rw [List.getD_eq_getElem?_getD, List.getElem?_eq_getElem hl]
  exact h.ok _ (List.getElem_mem hl)
theorem prod_pos {k : Nat} {ms : List Mx} (hk : k ≤ 4) (hm : Mxs k ms) {w : List Nat} (hw : Wrd k w) : Pos (prodX ms w) (18 ^ w.length) := by
  have key : ∀ (v : List Nat) (x : Mx) (t : Int), (∀ c ∈ v, c ∈ Let k) → Pos x t → Pos (v.foldl (fun x c => mulX x (ms.getD (c - 97) oneX)) x) (18 ^ v.length * t) := by
    intro v
    induction v with
    | nil => intro x t _ h; rw [List.length_nil, Int.pow_zero, Int.one_mul]; exact h
    | cons c v ih =>
      intro x t hv h
      rw [List.foldl_cons, List.length_cons, Int.pow_succ, Int.mul_assoc]
      exact ih _ _ (fun u hu => hv u (List.mem_cons_of_mem _ hu)) (h.mul (hm.get (index_abcd (hv c List.mem_cons_self) hk).2))
  have := key w oneX 1 hw ⟨by decide, by decide, by decide, by decide⟩
  rw [Int.mul_one] at this
  exact this
theorem mul_assocX (x y z : Mx) : mulX (mulX x y) z = mulX x (mulX y z) := by
  unfold mulX
  simp only [Int.add_mul, Int.mul_add, Int.mul_assoc, Prod.mk.injEq]
  omega
theorem mul_oneX (x : Mx) : mulX x oneX = x := by
  obtain ⟨⟨a, b⟩, ⟨c, d⟩⟩ := x
  unfold mulX oneX
  simp
theorem one_mulX (x : Mx) : mulX oneX x = x := by
  obtain ⟨⟨a, b⟩, ⟨c, d⟩⟩ := x
  unfold mulX oneX
  simp
theorem prod_app (ms : List Mx) (w v : List Nat) : prodX ms (w ++ v) = mulX (prodX ms w) (prodX ms v) := by
  have key : ∀ (v : List Nat) (x y : Mx), v.foldl (fun x c => mulX x (ms.getD (c - 97) oneX)) (mulX x y) = mulX x (v.foldl (fun x c => mulX x (ms.getD (c - 97) oneX)) y) := by
    intro v
    induction v with
    | nil => intro x y; rfl
    | cons c v ih => intro x y; rw [List.foldl_cons, List.foldl_cons, mul_assocX, ih]
  show (w ++ v).foldl _ oneX = _
  rw [List.foldl_append]
  have := key v (prodX ms w) oneX
  rw [mul_oneX] at this
  exact this
/-! ### what does not fit -/
noncomputable def bV (G : Tab) (n : Nat) (v : PV) : Bool := match evalF G n "fits_matrix" [v] [] with
  | .ok (.bl r) _ => r
  | _ => false
theorem bV_of {G : Tab} {n : Nat} {v : PV} {r : Bool} (h : evalF G n "fits_matrix" [v] = pure (.bl r)) : evalF G n "fits_matrix" [v] = pure (.bl (bV G n v)) ∧ bV G n v = r := by
  have e : bV G n v = r := by
    unfold bV
    rw [h]
    rfl
  exact ⟨by rw [e, h], e⟩
theorem fits_mats_bad {G : Tab} (B : Mats G) (n : Nat) {k : Nat} {ms : List Mx} {v : PV} (hm : ∀ m ∈ ms, EntX m) (hv : evalF G (n + 2) "fits_matrix" [v] = pure (.bl false)) : evalF G (n + 3) "fits_matrices" [.int k, .tup (v :: ms.map mP)] = pure (.bl false) := by
  rw [fits_mats B n (b := bV G (n + 2)) fun u hu => ?_]
  · rw [List.all_cons, (bV_of hv).2, Bool.false_and, Bool.and_false]
  · rcases List.mem_cons.mp hu with rfl | hu
    · exact (bV_of hv).1
    · obtain ⟨m, h1, rfl⟩ := List.mem_map.mp hu
      exact (bV_of (fits_matrix B n (hm m h1))).1
theorem fits_mats_len {G : Tab} (B : Mats G) (n : Nat) {k : Nat} {ms : List Mx} (hm : ∀ m ∈ ms, EntX m) (hl : ms.length ≠ k) : evalF G (n + 3) "fits_matrices" [.int k, .tup (ms.map mP)] = pure (.bl false) := by
  rw [fits_mats B n (b := fun _ => true) fun u hu => ?_]
  · rw [List.length_map, decide_eq_false hl, Bool.false_and]
  · obtain ⟨m, h1, rfl⟩ := List.mem_map.mp hu
    exact fits_matrix B n (hm m h1)
def lmatsLoop (p q : Int) : List CS := [.app 3 (.tup [(.tup [(.bin .add (.cst (.int 1)) (.call "_law_roll" [(.var 0), (.var 2)])), (.call "_law_roll" [(.var 0), (.bin .add (.peek 2) (.cst (.int 1)))])]), (.tup [(.bin .fdiv (.call "_law_roll" [(.var 0), (.cst (.int p))]) (.cst (.int q))), (.bin .add (.cst (.int 1)) (.call "_law_roll" [(.var 0), (.var 2)]))])])]
def lmatsB (p q : Int) : List CS := [.own 3 (.lst []),
  .fors (.nm 4) (.rng [(.peek 1)]) (lmatsLoop p q),
  .ret (.blt .tuple [(.peek 3)])]
theorem law_matrices {G : Tab} {p q : Nat} (D : Draws G) (h : Fn G "_law_matrices" 3 5 (lmatsB p q)) (p1 : 1 ≤ p) (p9 : p ≤ 9) (hq : ∀ c, c < p → fdivV (.int (c : Int)) (.int q) = pure (.int ((c / q : Nat) : Int))) (n : Nat) {k : Nat} (hk : k ≤ 4) {top : Nat} (ht : 1 ≤ top) (ht2 : top ≤ 8) :
    Does (evalF G (n + 2) "_law_matrices" [.cell, .int k, .int top]) fun v => ∃ ms, v = msP ms ∧ Mxs k ms := by
  rw [h.at _ _ rfl]
  unfold lmatsB
  walk_at "evs"
  rw [rng1 (n := k) (by omega) (by omega) (by omega)]
  walk_at "evs"
  refine Does.seq (forL_inv (k := 0) (fun i e => ∃ ms s4, e = [.val .cell, .val (.int k), .val (.int top), .own (.lst (ms.map mP)), s4] ∧ Mxs i ms) ⟨[], _, rfl, rfl, fun _ h => nomatch h⟩ fun i x e hx he => ?_) fun o ho => ?_
  · obtain ⟨ms, s4, rfl, hm⟩ := he
    rw [Nat.zero_add] at *
    have hi := (List.getElem?_eq_some_iff.mp hx).1
    rw [List.length_map, List.length_range] at hi
    unfold lmatsLoop
    walk_at "evs"
    refine Does.seq (D.roll n top (by omega) (by omega)) fun z hz => ?_
    obtain ⟨a, rfl, ha⟩ := hz
    walk_at "evs"
    rw [show ((top : Int) + 1) = ((top + 1 : Nat) : Int) by omega]
    refine Does.seq (D.roll n (top + 1) (by omega) (by omega)) fun z hz => ?_
    obtain ⟨b, rfl, hb⟩ := hz
    walk_at "evs"
    refine Does.seq (D.roll n p (by omega) (by omega)) fun z hz => ?_
    obtain ⟨c, rfl, hc⟩ := hz
    have cq := Nat.div_le_self c q
    rw [hq c hc]
    generalize c / q = cz at cq
    walk_at "evs"
    refine Does.seq (D.roll n top (by omega) (by omega)) fun z hz => ?_
    obtain ⟨d, rfl, hd⟩ := hz
    walk_at "evs"
    have hl := hm.len
    rw [if_pos (push_lt (by rw [List.length_map]; omega))]
    refine Does.pure ⟨_, .inl rfl, ms ++ [((1 + (a : Int), (b : Int)), ((cz : Int), 1 + (d : Int)))], _, by rw [List.map_append]; rfl, by rw [List.length_append, hl]; rfl, fun m hm' => ?_⟩
    rcases List.mem_append.mp hm' with q | q
    · exact hm.ok m q
    · rw [List.mem_singleton.mp q]
      constructor <;> (dsimp only; omega)
  · obtain ⟨e, rfl, ms, s4, rfl, hm⟩ := ho
    rw [Nat.zero_add, List.length_map, List.length_range] at hm
    walk_at "evt"
    exact Does.pure ⟨ms, rfl, hm⟩
/-! ### what rises, what falls -/
def risesB : List CS := [.asg (.nm 2) (.call "less_in" [(.call "product_in" [(.var 0), (.idx (.peek 1) (.cst (.int 0)))]), (.call "product_in" [(.var 0), (.idx (.peek 1) (.cst (.int 1)))])]),
  .ret (.cmp .lt (.blt .min [(.comp (.var 4) [3, 4] (.mk (.nm 3) (.seq (.peek 2)) []) [(.mk (.nm 4) (.seq (.var 3)) [])])]) (.cst (.int 0)))]
def fallsB : List CS := [.ifs (.call "grid_rises" [(.var 0), (.var 1)]) [.ret (.cst (.bl false))] [],
  .ret (.cmp .gt (.idx (.idx (.call "product_in" [(.var 0), (.idx (.peek 1) (.cst (.int 0)))]) (.cst (.int 0))) (.cst (.int 1))) (.idx (.idx (.call "product_in" [(.var 0), (.idx (.peek 1) (.cst (.int 1)))]) (.cst (.int 0))) (.cst (.int 1))))]
def gapX (ms : List Mx) (r : Rl) : Mx := subX (prodX ms r.1) (prodX ms r.2)
def leastX (m : Mx) : Int := minL m.1.1 [m.1.2, m.2.1, m.2.2]
def risesX (ms : List Mx) (r : Rl) : Bool := decide (leastX (gapX ms r) < 0)
def fallsX (ms : List Mx) (r : Rl) : Bool := !risesX ms r && decide (0 < (gapX ms r).1.2)
theorem grid_rises {G : Tab} (B : MatsP G) (h : Fn G "grid_rises" 2 5 risesB) (hl : Fn G "less_in" 2 6 lessB) (n : Nat) {k : Nat} {ms : List Mx} {r : Rl} (hk : k ≤ 4) (hm : Mxs k ms) (h1 : Wrd k r.1) (h2 : Wrd k r.2) :
    evalF G (n + 3) "grid_rises" [msP ms, rP r] = pure (.bl (risesX ms r)) := by
  rw [h.at _ _ rfl]
  unfold risesB
  walk_at "evt"
  rw [product_in B.prod B.times n hk hm h1]
  walk_at "evs"
  rw [product_in B.prod B.times n hk hm h2]
  walk_at "evs"
  rw [less_in hl]
  unfold risesX gapX
  generalize subX (prodX ms r.1) (prodX ms r.2) = z
  obtain ⟨⟨a, b⟩, ⟨c, d⟩⟩ := z
  unfold mP
  walk_at "evs"
  simp only [flatA, tIx, tIxs]
  walk_at "evs"
  simp only [flatA, tIx, tIxs]
  walk_at "evs"
  simp only [pushV_lt (show ([] : List PV).length ≤ 1000000 by decide), pure_bind, List.nil_append]
  repeat (first | walk_at "evs1" | rw [pushV_lt (by simp)])
  rw [show min1 (.lst [.int a, .int b, .int c, .int d]) = pure (.int (minL a [b, c, d])) from rfl]
  walk_at "evs"
  rfl
theorem grid_falls {G : Tab} (B : MatsP G) (hf : Fn G "grid_falls" 2 2 fallsB) (h : Fn G "grid_rises" 2 5 risesB) (hl : Fn G "less_in" 2 6 lessB) (n : Nat) {k : Nat} {ms : List Mx} {r : Rl} (hk : k ≤ 4) (hm : Mxs k ms) (h1 : Wrd k r.1) (h2 : Wrd k r.2) :
    evalF G (n + 4) "grid_falls" [msP ms, rP r] = pure (.bl (fallsX ms r)) := by
  rw [hf.at _ _ rfl]
  unfold fallsB fallsX
  walk_at "evs"
  rw [grid_rises B h hl n hk hm h1 h2]
  walk_at "evs"
  cases risesX ms r with
  | true => walk_at "evs"; rfl
  | false =>
    walk_at "evt"
    rw [product_in B.prod B.times (n + 1) hk hm h1]
    walk_at "evs"
    rw [product_in B.prod B.times (n + 1) hk hm h2]
    unfold mP
    walk_at "evt"
    unfold gapX subX
    congr 2
    simp only [Bool.not_false, Bool.true_and]
    rw [Bool.eq_iff_iff, decide_eq_true_eq, decide_eq_true_eq]
    omega
def risingB : List CS := [.expr (.call "need_system" [(.var 0)]),
  .expr (.call "need_matrices" [(.var 0), (.var 1)]),
  .ret (.blt .tuple [(.comp (.var 2) [2, 3] (.mk (.tup [(.nm 2), (.nm 3)]) (.enm (.idx (.peek 0) (.glb "RULES" (.int 1)))) [(.call "grid_rises" [(.var 1), (.var 3)])]) [])])]
def fallingB : List CS := [.expr (.call "need_system" [(.var 0)]),
  .expr (.call "need_matrices" [(.var 0), (.var 1)]),
  .ret (.blt .tuple [(.comp (.var 2) [2, 3] (.mk (.tup [(.nm 2), (.nm 3)]) (.enm (.idx (.peek 0) (.glb "RULES" (.int 1)))) [(.call "grid_falls" [(.var 1), (.var 3)])]) [])])]
def allFallB : List CS := [.expr (.call "need_system" [(.var 0)]),
  .expr (.call "need_matrices" [(.var 0), (.var 1)]),
  .ret (.blt .all [(.comp (.call "grid_falls" [(.var 1), (.var 2)]) [2] (.mk (.nm 2) (.seq (.idx (.peek 0) (.glb "RULES" (.int 1)))) []) [])])]
/-- the places of what is so -/
def wherB (rs : List Rl) (b : Rl → Bool) : List Nat := (List.range rs.length).filter fun a => b (rs.getD a ([], []))
theorem zipIdx_range (rs : List Rl) : rs.zipIdx = (List.range rs.length).map fun a => (rs.getD a ([], []), a) := by
  refine List.ext_getElem (by simp) fun i h1 h2 => ?_
  rw [List.getElem_zipIdx, List.getElem_map, List.getElem_range]
  rw [List.length_zipIdx] at h1
  simp [List.getD_eq_getElem?_getD, List.getElem?_eq_getElem h1]
theorem asg_enr2 {i j : Nat} {u v : PV} {e : Ev} : asgT (.tup [.nm i, .nm j]) (.tup [u, v]) e = pure ((e.set i (.val u)).set j (.val v)) := rfl
theorem flatM_where {f : PV → M (List PV)} {b : Rl → Bool} {rs : List Rl} (h : ∀ a r, r ∈ rs → f (.tup [.int ((a : Nat) : Int), rP r]) = pure (if b r then [.int ((a : Nat) : Int)] else [])) : flatM f (enmFrom 0 (rs.map rP)) = pure (natsP (wherB rs b)) := by
  rw [enm_map, zipIdx_range, List.map_map]
  rw [flatM_overF (b := fun a => b (rs.getD a ([], []))) (g := fun (a : Nat) => .int a)]
  · rfl
  · intro a ha
    have ha := List.mem_range.mp ha
    refine h a (rs.getD a ([], [])) ?_
    rw [List.getD_eq_getElem?_getD, List.getElem?_eq_getElem ha]
    exact List.getElem_mem ha
theorem rules_rising {G : Tab} (B : MatsP G) (hf : Fn G "rules_rising" 2 4 risingB) (h : Fn G "grid_rises" 2 5 risesB) (hl : Fn G "less_in" 2 6 lessB) (n : Nat) {k : Nat} {rs : List Rl} {ms : List Mx} (hs : Sys k rs) (hm : Mxs k ms) :
    evalF G (n + 5) "rules_rising" [sP k rs, msP ms] = pure (.tup (natsP (wherB rs (risesX ms)))) := by
  rw [hf.at _ _ rfl]
  unfold risingB
  walk_at "evs"
  rw [need_system B.toBase B.nsys n hs]
  walk_at "evs"
  rw [need_matrices B.toMats B.nmats n hm]
  walk_at "evt"
  rw [show ltOf (.tup (rs.map rP)) = some (rs.map rP) from rfl]
  walk_at "evs"
  rw [flatM_where (b := risesX ms) (fun a r hr => by
    rw [asg_enr2]
    walk_at "evs"
    rw [grid_rises B h hl (n + 1) hs.n4 hm (hs.ok r hr).wl (hs.ok r hr).wr]
    walk_at "evs"
    cases risesX ms r <;> walk_at "evs")]
  walk_at "evs"
theorem rules_falling {G : Tab} (B : MatsP G) (hf : Fn G "rules_falling" 2 4 fallingB) (hg : Fn G "grid_falls" 2 2 fallsB) (h : Fn G "grid_rises" 2 5 risesB) (hl : Fn G "less_in" 2 6 lessB) (n : Nat) {k : Nat} {rs : List Rl} {ms : List Mx} (hs : Sys k rs) (hm : Mxs k ms) :
    evalF G (n + 5) "rules_falling" [sP k rs, msP ms] = pure (.tup (natsP (wherB rs (fallsX ms)))) := by
  rw [hf.at _ _ rfl]
  unfold fallingB
  walk_at "evs"
  rw [need_system B.toBase B.nsys n hs]
  walk_at "evs"
  rw [need_matrices B.toMats B.nmats n hm]
  walk_at "evt"
  rw [show ltOf (.tup (rs.map rP)) = some (rs.map rP) from rfl]
  walk_at "evs"
  rw [flatM_where (b := fallsX ms) (fun a r hr => by
    rw [asg_enr2]
    walk_at "evs"
    rw [grid_falls B hg h hl n hs.n4 hm (hs.ok r hr).wl (hs.ok r hr).wr]
    walk_at "evs"
    cases fallsX ms r <;> walk_at "evs")]
  walk_at "evs"
theorem all_fall {G : Tab} (B : MatsP G) (hf : Fn G "all_fall" 2 3 allFallB) (hg : Fn G "grid_falls" 2 2 fallsB) (h : Fn G "grid_rises" 2 5 risesB) (hl : Fn G "less_in" 2 6 lessB) (n : Nat) {k : Nat} {rs : List Rl} {ms : List Mx} (hs : Sys k rs) (hm : Mxs k ms) :
    evalF G (n + 5) "all_fall" [sP k rs, msP ms] = pure (.bl (rs.all (fallsX ms))) := by
  rw [hf.at _ _ rfl]
  unfold allFallB
  walk_at "evs"
  rw [need_system B.toBase B.nsys n hs]
  walk_at "evs"
  rw [need_matrices B.toMats B.nmats n hm]
  walk_at "evt"
  rw [flatM_overM (g := fun r => .bl (fallsX ms r)) (fun r hr => by
    walk_at "evs"
    rw [grid_falls B hg h hl n hs.n4 hm (hs.ok r hr).wl (hs.ok r hr).wr]
    walk_at "evs")]
  walk_at "evs"
  rw [allV_map]
  walk_at "evs"
theorem mem_wher {rs : List Rl} {b : Rl → Bool} {a : Nat} (ha : a < rs.length) : a ∈ wherB rs b ↔ b (rs.getD a ([], [])) = true := by
  unfold wherB
  rw [List.mem_filter, List.mem_range]
  exact ⟨fun h => h.2, fun h => ⟨ha, h⟩⟩
theorem wher_all {rs : List Rl} {b : Rl → Bool} : ((wherB rs b).length = rs.length) ↔ rs.all b = true := by
  unfold wherB
  have e := List.length_filter_eq_length_iff (p := fun a => b (rs.getD a ([], []))) (l := List.range rs.length)
  rw [List.length_range] at e
  rw [e, List.all_eq_true]
  constructor
  · intro h r hr
    obtain ⟨a, ha, e⟩ := List.mem_iff_getElem.mp hr
    have := h a (List.mem_range.mpr ha)
    rw [List.getD_eq_getElem?_getD, List.getElem?_eq_getElem ha] at this
    rw [← e]
    exact this
  · intro h a ha
    have ha := List.mem_range.mp ha
    refine h _ ?_
    rw [List.getD_eq_getElem?_getD, List.getElem?_eq_getElem ha]
    exact List.getElem_mem ha
/-! ### what stands around -/
theorem around (A L R B : Mx) : (mulX (mulX A L) B).1.2 - (mulX (mulX A R) B).1.2 = (mulX (mulX A (subX L R)) B).1.2 := by
  unfold mulX subX
  simp only [Int.add_mul, Int.mul_sub, Int.sub_mul]
  omega
theorem least_ge {m : Mx} (h : 0 ≤ leastX m) : 0 ≤ m.1.1 ∧ 0 ≤ m.1.2 ∧ 0 ≤ m.2.1 ∧ 0 ≤ m.2.2 := by
  unfold leastX at h
  simp only [minL] at h
  repeat' split at h
  all_goals omega
theorem around_ge {A D B : Mx} {s t : Int} (hA : Pos A s) (hB : Pos B t) (h : 0 ≤ D.1.1 ∧ 0 ≤ D.1.2 ∧ 0 ≤ D.2.1 ∧ 0 ≤ D.2.2) : D.1.2 ≤ (mulX (mulX A D) B).1.2 := by
  obtain ⟨⟨a, b⟩, ⟨c, d⟩⟩ := A
  obtain ⟨⟨e, f⟩, ⟨g, i⟩⟩ := D
  obtain ⟨⟨p, q⟩, ⟨r, u⟩⟩ := B
  obtain ⟨⟨a1, _⟩, ⟨b1, _⟩, _, _⟩ := hA
  obtain ⟨_, ⟨q1, _⟩, _, ⟨u1, _⟩⟩ := hB
  obtain ⟨h1, h2, h3, h4⟩ := h
  dsimp only at *
  unfold mulX
  show f ≤ (a * e + b * g) * q + (a * f + b * i) * u
  have x1 : 0 ≤ a * e := Int.mul_nonneg (by omega) h1
  have x2 : 0 ≤ b * g := Int.mul_nonneg b1 h3
  have x3 : 0 ≤ b * i := Int.mul_nonneg b1 h4
  have x4 : f ≤ a * f := by
    have := Int.mul_le_mul_of_nonneg_right a1 h2
    omega
  have x5 : 0 ≤ (a * e + b * g) * q := Int.mul_nonneg (by omega) q1
  have x6 : (a * f + b * i) * 1 ≤ (a * f + b * i) * u := Int.mul_le_mul_of_nonneg_left u1 (by omega)
  omega
end EV

set_option maxRecDepth 100000
/-! EvPa: tellers and partings. -/
namespace EV
open PySem
local macro_rules | `(tactic| walk_at "evs1") => `(tactic| simp only [evalB, evalS, evalE, evalEs, evalO, evalIt, evalIfs, partM, getP_v, getP_o, getP_s, getV_v, getV_s, truM_b, truM_n, truM_i, truM_s, truM_l, truM_t, optM_s, lenV_l, lenV_t, lenV_s, seqOf_l, seqOf_t, seqOf_s, out_ret, out_next, add_i, sub_i, int_i, cmp_lt, cmp_le, cmp_gt, cmp_ge, cmp_eq, cmp_ne, cmp_is, cmp_in, cmp_nin, slot_cell, slot_ol, slot_s, rec_join, rec_sw, rec_ew, rec_count, rec_index, rec_indexl, rec_get, guard_t, asg_nm, asg_t0, asg_t2, ownD, pure_bind, bind_assoc, bltV, blt1, blt2, binV, isTy_int_int, isTy_int_str, isTy_int_bool, isTy_int_tuple, isTy_int_list, isTy_bl_int, isTy_bl_str, isTy_bl_bool, isTy_bl_tuple, isTy_bl_list, isTy_str_int, isTy_str_str, isTy_str_bool, isTy_str_tuple, isTy_str_list, isTy_tup_int, isTy_tup_str, isTy_tup_bool, isTy_tup_tuple, isTy_tup_list, isTy_lst_int, isTy_lst_str, isTy_lst_bool, isTy_lst_tuple, isTy_lst_list, isTy_dict_int, isTy_dict_str, isTy_dict_bool, isTy_dict_tuple, isTy_dict_list, isTy_non_int, isTy_non_str, isTy_non_bool, isTy_non_tuple, isTy_non_list, List.getElem?_cons_zero, List.getElem?_cons_succ, List.getElem?_nil, if_true, if_false, ↓reduceIte, Bool.false_eq_true, Bool.not_true, Bool.not_false, List.map_cons, List.map_nil, List.length_cons, List.length_nil, Nat.reduceSub, Nat.reduceAdd, List.replicate_succ, List.replicate_zero, wipeE, List.set_cons_zero, List.set_cons_succ, List.set_nil, List.cons_append, List.nil_append])
local macro_rules | `(tactic| walk_at "evs") => `(tactic| try walk_at "evs1")
local macro_rules | `(tactic| walk_at "evt") => `(tactic| repeat (first | walk_at "evs1" | simp only [idx_sys0, idx_sys1, idx_rule0, idx_rule1, idx_pr0, idx_pr1, idx_tup0, idx_tup1, eqM_int, eqM_str, starts_s, slc_from, slc_to, slc_s, tup_l, list_s, str_s, isM_nn, isM_in, isM_bn, isM_sn, isM_bb, cmp_isn, neg_i, par2, par3, asg_rP, asg_prP, asg_t2v, count_sc]))
def numS : List Nat := [110, 117, 109, 98, 101, 114, 115]
def macS : List Nat := [109, 97, 99, 104, 105, 110, 101]
inductive Tel where
  | num (m : Nat) (vs : List Int) | mac (q : Nat) (ms : List (List Nat))
def telP : Tel → PV
  | .num m vs => .tup [.str numS, .int m, .tup (vs.map .int)]
  | .mac _ ms => .tup [.str macS, .tup (ms.map fun r => .tup (natsP r))]
structure NumOk (k m : Nat) (vs : List Int) : Prop where
  m9 : m ≤ 9
  m1 : m ≠ 1
  len : vs.length = k
  pos : 0 < m → ∀ v ∈ vs, 0 ≤ v ∧ v < m
  nul : m = 0 → ∀ v ∈ vs, -9 ≤ v ∧ v ≤ 9
structure MacOk (k q : Nat) (ms : List (List Nat)) : Prop where
  q1 : 1 ≤ q
  q5 : q ≤ 5
  len : ms.length = k
  row : ∀ r ∈ ms, r.length = q ∧ ∀ x ∈ r, x < q
def TelOk (k : Nat) : Tel → Prop
  | .num m vs => NumOk k m vs
  | .mac q ms => MacOk k q ms
abbrev Tv := Int ⊕ List Nat
def tvP : Tv → PV
  | .inl i => .int i
  | .inr l => .tup (natsP l)
def goN (ms : List (List Nat)) (a c : Nat) : Nat := (ms.getD (c - 97) []).getD a 0
def sumN (vs : List Int) (w : List Nat) : Int := (w.map fun c => vs.getD (c - 97) 0).sum
def tellN : Tel → List Nat → Tv
  | .num m vs, w => .inl (if 0 < m then (sumN vs w).fmod m else sumN vs w)
  | .mac q ms, w => .inr ((List.range q).map fun a => w.foldl (goN ms) a)
def tellingB : List CS := [.ifs (.cmp .eq (.idx (.peek 0) (.glb "KIND" (.int 0))) (.cst (.str [110, 117, 109, 98, 101, 114, 115]))) [.asg (.nm 2) (.blt .sum [(.comp (.idx (.idx (.peek 0) (.glb "VALUES" (.int 2))) (.mth .index (.glb "LETTERS" (.str [97, 98, 99, 100])) [(.var 3)])) [3] (.mk (.nm 3) (.seq (.peek 1)) []) [])]), .ret (.ite (.cmp .gt (.idx (.peek 0) (.glb "MODULUS" (.int 1))) (.cst (.int 0))) (.bin .mod (.peek 2) (.idx (.peek 0) (.glb "MODULUS" (.int 1)))) (.var 2))] [],
  .asg (.nm 4) (.blt .tuple [(.blt .lrng [(.blt .len [(.idx (.idx (.peek 0) (.glb "MOVES" (.int 1))) (.cst (.int 0)))])])]),
  .fors (.nm 3) (.seq (.var 1)) [.asg (.nm 4) (.blt .tuple [(.comp (.idx (.idx (.idx (.peek 0) (.glb "MOVES" (.int 1))) (.mth .index (.glb "LETTERS" (.str [97, 98, 99, 100])) [(.var 3)])) (.peek 5)) [5] (.mk (.nm 5) (.seq (.peek 4)) []) [])])],
  .ret (.var 4)]
def ltellsB : List CS := [.ifs (.cmp .eq (.idx (.peek 0) (.cst (.int 0))) (.cst (.str [110, 117, 109, 98, 101, 114, 115]))) [.asg (.nm 2) (.cst (.int 0)), .fors (.nm 3) (.seq (.var 1)) [.asg (.nm 2) (.bin .add (.peek 2) (.idx (.idx (.peek 0) (.cst (.int 2))) (.mth .index (.cst (.str [97, 98, 99, 100])) [(.var 3)])))], .ret (.ite (.cmp .gt (.idx (.peek 0) (.cst (.int 1))) (.cst (.int 0))) (.bin .mod (.peek 2) (.idx (.peek 0) (.cst (.int 1)))) (.var 2))] [],
  .own 4 (.lst []),
  .fors (.nm 5) (.rng [(.blt .len [(.idx (.idx (.peek 0) (.cst (.int 1))) (.cst (.int 0)))])]) [.fors (.nm 3) (.seq (.var 1)) [.asg (.nm 5) (.idx (.idx (.idx (.peek 0) (.cst (.int 1))) (.mth .index (.cst (.str [97, 98, 99, 100])) [(.var 3)])) (.peek 5))], .app 4 (.var 5)],
  .ret (.blt .tuple [(.peek 4)])]
theorem intsOf_map (l : List Int) : intsOf (l.map .int) = some l := by
  induction l with
  | nil => rfl
  | cons a l ih =>
    show (intsOf (l.map .int)).map (a :: ·) = _
    rw [ih]
    rfl
theorem sum_ints (l : List Int) : sumV (.lst (l.map .int)) = pure (.int l.sum) := by
  show (do let ns ← optM (intsOf (l.map .int)); pure (.int ns.sum) : M PV) = _
  rw [intsOf_map]
  rfl
theorem mth_ix {k c : Nat} (hc : c ∈ Let k) (hk : k ≤ 4) : mthV .index (.str [97, 98, 99, 100]) [.str [c]] = pure (.int ((c - 97 : Nat) : Int)) ∧ c - 97 < k := index_abcd hc hk
theorem mod_pos {i : Int} {m : Nat} (h : 0 < m) : modV (.int i) (.int (m : Int)) = pure (.int (i.fmod m)) := by
  show (if (m : Int) ≠ 0 then _ else _) = _
  rw [if_pos (by omega)]
theorem idx_ints {vs : List Int} {j : Nat} (h : j < vs.length) : idxV (.tup (vs.map .int)) (.int (j : Int)) = pure (.int (vs.getD j 0)) := by
  refine idx_n ?_
  rw [List.getElem?_map, List.getElem?_eq_getElem h, List.getD_eq_getElem?_getD, List.getElem?_eq_getElem h]
  rfl
theorem idx_rows {ms : List (List Nat)} {j : Nat} (h : j < ms.length) : idxV (.tup (ms.map fun r => .tup (natsP r))) (.int (j : Int)) = pure (.tup (natsP (ms.getD j []))) := by
  refine idx_n ?_
  rw [List.getElem?_map, List.getElem?_eq_getElem h, List.getD_eq_getElem?_getD, List.getElem?_eq_getElem h]
  rfl
theorem idx_nats {l : List Nat} {j : Nat} (h : j < l.length) : idxV (.tup (natsP l)) (.int (j : Int)) = pure (.int ((l.getD j 0 : Nat) : Int)) := by
  refine idx_n ?_
  unfold natsP
  rw [List.getElem?_map, List.getElem?_eq_getElem h, List.getD_eq_getElem?_getD, List.getElem?_eq_getElem h]
  rfl
theorem MacOk.get {k q ms} (h : MacOk k q ms) {j : Nat} (hj : j < k) : (ms.getD j []).length = q ∧ ∀ x ∈ ms.getD j [], x < q := by
  have hl : j < ms.length := by rw [h.len]; exact hj
  rw [List.getD_eq_getElem?_getD, List.getElem?_eq_getElem hl]
  exact h.row _ (List.getElem_mem hl)
theorem MacOk.go {k q ms} (h : MacOk k q ms) {a c : Nat} (ha : a < q) (hc : c - 97 < k) : goN ms a c < q := by
  obtain ⟨h1, h2⟩ := h.get hc
  unfold goN
  generalize ms.getD (c - 97) [] = r at h1 h2
  refine h2 _ ?_
  rw [List.getD_eq_getElem?_getD, List.getElem?_eq_getElem (show a < r.length by rw [h1]; exact ha)]
  exact List.getElem_mem _
theorem MacOk.fold {k q ms} (h : MacOk k q ms) (hk : k ≤ 4) : ∀ (w : List Nat) {a : Nat}, (∀ c ∈ w, c ∈ Let k) → a < q → w.foldl (goN ms) a < q
  | [], a, _, ha => ha
  | c :: w, a, hw, ha => by
    rw [List.foldl_cons]
    exact h.fold hk w (fun d hd => hw d (List.mem_cons_of_mem _ hd)) (h.go ha (index_abcd (hw c List.mem_cons_self) hk).2)
theorem first_row {k q ms} (h : MacOk k q ms) (k1 : 1 ≤ k) : idxV (.tup (ms.map fun r => .tup (natsP r))) (.int 0) = pure (.tup (natsP (ms.getD 0 []))) ∧ (ms.getD 0 []).length = q :=
  ⟨idx_rows (j := 0) (by rw [h.len]; omega), (h.get (j := 0) (by omega)).1⟩
theorem tel_num {m : Nat} {vs : List Int} : telP (.num m vs) = .tup [.str numS, .int m, .tup (vs.map .int)] := rfl
theorem telling_in {G : Tab} (h : Fn G "telling_in" 2 6 tellingB) (n : Nat) {k : Nat} {t : Tel} {w : List Nat} (k1 : 1 ≤ k) (hk : k ≤ 4) (ht : TelOk k t) (hw : Wrd k w) :
    evalF G (n + 1) "telling_in" [telP t, .str w] = pure (tvP (tellN t w)) := by
  rw [h.at _ _ rfl]
  unfold tellingB
  cases t with
  | num m vs =>
    have ht : NumOk k m vs := ht
    unfold telP tellN
    have t2 : ∀ u0 u1 u2 : PV, idxV (.tup [u0, u1, u2]) (.int 2) = pure u2 := fun _ _ _ => idx_n (k := 2) rfl
    repeat (first | walk_at "evs1" | simp only [idx_tup0, idx_tup1, t2])
    rw [eqM_str, show (numS == [110, 117, 109, 98, 101, 114, 115]) = true from rfl]
    walk_at "evs"
    rw [flatM_overM (inj := fun (c : Nat) => PV.str [c]) (g := fun c => .int (vs.getD (c - 97) 0)) (fun c hc => by
      obtain ⟨i1, i2⟩ := mth_ix (hw c hc) hk
      repeat (first | walk_at "evs1" | simp only [idx_tup0, idx_tup1, t2])
      rw [i1]
      walk_at "evs"
      rw [idx_ints (by rw [ht.len]; exact i2)]
      walk_at "evs")]
    walk_at "evs"
    rw [show (w.map fun c => PV.int (vs.getD (c - 97) 0)) = (w.map fun c => vs.getD (c - 97) 0).map .int by rw [List.map_map]; rfl, sum_ints]
    repeat (first | walk_at "evs1" | simp only [idx_tup0, idx_tup1, t2])
    by_cases hm : 0 < m
    · rw [decide_eq_true (show (0 : Int) < (m : Int) by omega), if_pos hm]
      repeat (first | walk_at "evs1" | simp only [idx_tup0, idx_tup1, t2])
      rw [mod_pos hm]
      rfl
    · rw [decide_eq_false (show ¬ (0 : Int) < (m : Int) by omega), if_neg hm]
      walk_at "evs"
      rfl
  | mac q ms =>
    have ht : MacOk k q ms := ht
    obtain ⟨r1, r2⟩ := first_row ht k1
    unfold telP tellN
    repeat (first | walk_at "evs1" | simp only [idx_tup0, idx_tup1])
    rw [eqM_str, show (macS == [110, 117, 109, 98, 101, 114, 115]) = false from rfl]
    repeat (first | walk_at "evs1" | simp only [idx_tup0, idx_tup1])
    rw [r1]
    walk_at "evs"
    rw [show (natsP (ms.getD 0 [])).length = q by unfold natsP; rw [List.length_map, r2], rngN _ (by have := ht.q5; omega)]
    walk_at "evt"
    refine forL_det (k := 0) (fun i e => ∃ s2 s3 s5, e = [.val (.tup [.str macS, .tup (ms.map fun r => .tup (natsP r))]), .val (.str w), s2, s3, .val (.tup (natsP ((List.range q).map fun a => (w.take i).foldl (goN ms) a))), s5]) ⟨.no, .no, .no, by rw [List.take_zero, show (List.range q).map (fun a => ([] : List Nat).foldl (goN ms) a) = List.range q from List.map_id' _]; rfl⟩ (fun i x e hx he => ?_) (fun e he => ?_)
    · obtain ⟨s2, s3, s5, rfl⟩ := he
      rw [Nat.zero_add] at *
      rw [List.getElem?_map] at hx
      cases hc : w[i]? with
      | none => rw [hc] at hx; cases hx
      | some c =>
        rw [hc] at hx
        cases hx
        obtain ⟨i1, i2⟩ := mth_ix (hw c (List.mem_of_getElem? hc)) hk
        walk_at "evs"
        unfold natsP
        rw [flatM_overM (inj := fun (a : Nat) => PV.int a) (g := fun (a : Nat) => .int ((goN ms a c : Nat) : Int)) (fun a ha => by
          obtain ⟨b, hb, rfl⟩ := List.mem_map.mp ha
          have hb := List.mem_range.mp hb
          have hq := ht.fold hk (w.take i) (fun d hd => hw d (List.mem_of_mem_take hd)) hb
          repeat (first | walk_at "evs1" | simp only [idx_tup0, idx_tup1])
          rw [i1]
          walk_at "evs"
          rw [show (ms.map fun r => PV.tup (List.map (fun (k : Nat) => PV.int k) r)) = ms.map fun r => .tup (natsP r) from rfl, idx_rows (by rw [ht.len]; exact i2)]
          walk_at "evs"
          rw [idx_nats (by rw [(ht.get i2).1]; exact hq)]
          walk_at "evs"
          rfl)]
        walk_at "evt"
        refine ⟨_, rfl, s2, .val (.str [c]), s5, ?_⟩
        rw [List.take_succ, hc, Option.toList_some]
        simp only [List.map_map, List.foldl_append, List.foldl_cons, List.foldl_nil]
        rfl
    · obtain ⟨s2, s3, s5, rfl⟩ := he
      rw [Nat.zero_add, List.length_map, List.take_length]
      walk_at "evs"
      rfl
theorem sumN_snoc (vs : List Int) (w : List Nat) (c : Nat) : sumN vs (w ++ [c]) = sumN vs w + vs.getD (c - 97) 0 := by
  unfold sumN
  rw [List.map_append, List.sum_append]
  simp
theorem law_tells {G : Tab} (h : Fn G "_law_tells" 2 6 ltellsB) (n : Nat) {k : Nat} {t : Tel} {w : List Nat} (k1 : 1 ≤ k) (hk : k ≤ 4) (ht : TelOk k t) (hw : Wrd k w) :
    evalF G (n + 1) "_law_tells" [telP t, .str w] = pure (tvP (tellN t w)) := by
  rw [h.at _ _ rfl]
  unfold ltellsB
  have t2 : ∀ u0 u1 u2 : PV, idxV (.tup [u0, u1, u2]) (.int 2) = pure u2 := fun _ _ _ => idx_n (k := 2) rfl
  cases t with
  | num m vs =>
    have ht : NumOk k m vs := ht
    unfold telP tellN
    repeat (first | walk_at "evs1" | simp only [idx_tup0, idx_tup1, t2])
    rw [eqM_str, show (numS == [110, 117, 109, 98, 101, 114, 115]) = true from rfl]
    walk_at "evs"
    refine forL_det (k := 0) (fun i e => ∃ s3, e = [.val (.tup [.str numS, .int m, .tup (vs.map .int)]), .val (.str w), .val (.int (sumN vs (w.take i))), s3, .no, .no]) ⟨.no, rfl⟩ (fun i x e hx he => ?_) (fun e he => ?_)
    · obtain ⟨s3, rfl⟩ := he
      rw [Nat.zero_add] at *
      rw [List.getElem?_map] at hx
      cases hc : w[i]? with
      | none => rw [hc] at hx; cases hx
      | some c =>
        rw [hc] at hx
        cases hx
        obtain ⟨i1, i2⟩ := mth_ix (hw c (List.mem_of_getElem? hc)) hk
        repeat (first | walk_at "evs1" | simp only [idx_tup0, idx_tup1, t2])
        rw [i1]
        walk_at "evs"
        rw [idx_ints (by rw [ht.len]; exact i2)]
        walk_at "evs"
        rw [List.take_succ, hc, Option.toList_some, sumN_snoc]
        exact ⟨_, rfl, _, rfl⟩
    · obtain ⟨s3, rfl⟩ := he
      rw [Nat.zero_add, List.length_map, List.take_length]
      repeat (first | walk_at "evs1" | simp only [idx_tup0, idx_tup1, t2])
      by_cases hm : 0 < m
      · rw [decide_eq_true (show (0 : Int) < (m : Int) by omega), if_pos hm]
        repeat (first | walk_at "evs1" | simp only [idx_tup0, idx_tup1, t2])
        rw [mod_pos hm]
        rfl
      · rw [decide_eq_false (show ¬ (0 : Int) < (m : Int) by omega), if_neg hm]
        walk_at "evs"
        rfl
  | mac q ms =>
    have ht : MacOk k q ms := ht
    have q5 := ht.q5
    obtain ⟨r1, r2⟩ := first_row ht k1
    unfold telP tellN
    repeat (first | walk_at "evs1" | simp only [idx_tup0, idx_tup1])
    rw [eqM_str, show (macS == [110, 117, 109, 98, 101, 114, 115]) = false from rfl]
    repeat (first | walk_at "evs1" | simp only [idx_tup0, idx_tup1])
    rw [r1]
    walk_at "evs"
    rw [show (natsP (ms.getD 0 [])).length = q by unfold natsP; rw [List.length_map, r2], rngN _ (by omega)]
    walk_at "evs"
    refine forL_det (k := 0) (fun i e => ∃ s3 s5, e = [.val (.tup [.str macS, .tup (ms.map fun r => .tup (natsP r))]), .val (.str w), .no, s3, .own (.lst (natsP ((List.range i).map fun a => w.foldl (goN ms) a))), s5]) ⟨.no, .no, rfl⟩ (fun i x e hx he => ?_) (fun e he => ?_)
    · obtain ⟨s3, s5, rfl⟩ := he
      rw [Nat.zero_add] at *
      have hi := (List.getElem?_eq_some_iff.mp hx).1
      rw [List.length_map, List.length_range] at hi
      rw [List.getElem?_map, List.getElem?_range hi] at hx
      cases hx
      walk_at "evs"
      have hs : ∀ (l : List Nat) (a : Nat) (s3 : Slot), (∀ c ∈ l, c ∈ Let k) → a < q → ∃ s3', forL (fun x e => do
                  let x_1 ← getP (List.set e 3 (Slot.val x)) 0
                  let x_2 ← idxV x_1 (PV.int 1)
                  let x_3 ← getV (List.set e 3 (Slot.val x)) 3
                  let x_4 ← mthV Mf.index (PV.str [97, 98, 99, 100]) [x_3]
                  let x_5 ← idxV x_2 x_4
                  let x_6 ← getP (List.set e 3 (Slot.val x)) 5
                  let v ← idxV x_5 x_6
                  pure (Out.next ((List.set e 3 (Slot.val x)).set 5 (Slot.val v)))) (l.map fun c => .str [c]) [.val (.tup [.str macS, .tup (ms.map fun r => .tup (natsP r))]), .val (.str w), .no, s3, .own (.lst (natsP ((List.range i).map fun a => w.foldl (goN ms) a))), .val (.int (a : Int))] = pure (.next [.val (.tup [.str macS, .tup (ms.map fun r => .tup (natsP r))]), .val (.str w), .no, s3', .own (.lst (natsP ((List.range i).map fun a => w.foldl (goN ms) a))), .val (.int ((l.foldl (goN ms) a : Nat) : Int))]) := by
        intro l
        induction l with
        | nil => exact fun a s3 _ _ => ⟨s3, rfl⟩
        | cons c l ih =>
          intro a s3 hl ha
          obtain ⟨i1, i2⟩ := mth_ix (hl c List.mem_cons_self) hk
          obtain ⟨s3', e1⟩ := ih (goN ms a c) (.val (.str [c])) (fun d hd => hl d (List.mem_cons_of_mem _ hd)) (ht.go ha i2)
          refine ⟨s3', ?_⟩
          rw [List.foldl_cons, ← e1, List.map_cons]
          conv => lhs; unfold forL
          repeat (first | walk_at "evs1" | simp only [idx_tup0, idx_tup1])
          rw [i1]
          walk_at "evs"
          rw [idx_rows (by rw [ht.len]; exact i2)]
          walk_at "evs"
          rw [idx_nats (by rw [(ht.get i2).1]; exact ha)]
          walk_at "evs"
          rfl
      obtain ⟨s3', e1⟩ := hs w i s3 hw hi
      rw [e1]
      walk_at "evs"
      rw [if_pos (by unfold natsP LINE; rw [List.length_map, List.length_map, List.length_range]; omega)]
      refine ⟨_, rfl, s3', .val (.int ((w.foldl (goN ms) i : Nat) : Int)), ?_⟩
      rw [List.range_succ, List.map_append]
      unfold natsP
      rw [List.map_append]
      rfl
    · obtain ⟨s3, s5, rfl⟩ := he
      rw [Nat.zero_add, List.length_map, List.length_range]
      walk_at "evt"
      rfl
def numsB : List CS := [.ifs (.or (.not (.call "is_tuple_of" [(.var 1), (.cst (.int 3)), (.cst (.int 3))])) (.or (.not (.call "fits_whole" [(.idx (.peek 1) (.glb "MODULUS" (.int 1))), (.cst (.int 0)), (.glb "FAR" (.int 9))])) (.cmp .eq (.idx (.peek 1) (.glb "MODULUS" (.int 1))) (.cst (.int 1))))) [.ret (.cst (.bl false))] [],
  .asg (.tup [(.nm 2), (.nm 3)]) (.ite (.cmp .gt (.idx (.peek 1) (.glb "MODULUS" (.int 1))) (.cst (.int 0))) (.tup [(.cst (.int 0)), (.bin .sub (.idx (.peek 1) (.glb "MODULUS" (.int 1))) (.cst (.int 1)))]) (.tup [(.neg (.glb "FAR" (.int 9))), (.glb "FAR" (.int 9))])),
  .ret (.and (.call "is_tuple_of" [(.idx (.peek 1) (.glb "VALUES" (.int 2))), (.var 0), (.var 0)]) (.blt .all [(.comp (.call "fits_whole" [(.var 4), (.var 2), (.var 3)]) [4] (.mk (.nm 4) (.seq (.idx (.peek 1) (.glb "VALUES" (.int 2)))) []) [])]))]
def machB : List CS := [.ifs (.or (.not (.call "is_tuple_of" [(.var 1), (.cst (.int 2)), (.cst (.int 2))])) (.not (.call "is_tuple_of" [(.idx (.peek 1) (.glb "MOVES" (.int 1))), (.var 0), (.var 0)]))) [.ret (.cst (.bl false))] [],
  .ifs (.not (.blt .all [(.comp (.call "is_tuple_of" [(.var 2), (.cst (.int 1)), (.glb "MOST_STATES" (.int 5))]) [2] (.mk (.nm 2) (.seq (.idx (.peek 1) (.glb "MOVES" (.int 1)))) []) [])])) [.ret (.cst (.bl false))] [],
  .asg (.nm 3) (.blt .len [(.idx (.idx (.peek 1) (.glb "MOVES" (.int 1))) (.cst (.int 0)))]),
  .ret (.blt .all [(.comp (.and (.cmp .eq (.blt .len [(.peek 2)]) (.peek 3)) (.blt .all [(.comp (.call "fits_whole" [(.var 4), (.cst (.int 0)), (.bin .sub (.peek 3) (.cst (.int 1)))]) [4] (.mk (.nm 4) (.seq (.peek 2)) []) [])])) [2] (.mk (.nm 2) (.seq (.idx (.peek 1) (.glb "MOVES" (.int 1)))) []) [])])]
def tellerB : List CS := [.ifs (.or (.not (.call "is_tuple_of" [(.var 1), (.cst (.int 2)), (.cst (.int 3))])) (.not (.isi (.idx (.peek 1) (.glb "KIND" (.int 0))) .str))) [.ret (.cst (.bl false))] [],
  .ifs (.cmp .eq (.idx (.peek 1) (.glb "KIND" (.int 0))) (.cst (.str [110, 117, 109, 98, 101, 114, 115]))) [.ret (.call "fits_numbers" [(.var 0), (.var 1)])] [],
  .ret (.and (.cmp .eq (.idx (.peek 1) (.glb "KIND" (.int 0))) (.cst (.str [109, 97, 99, 104, 105, 110, 101]))) (.call "fits_machine" [(.var 0), (.var 1)]))]
def keepsB : List CS := [.ret (.blt .all [(.comp (.cmp .eq (.call "telling_in" [(.var 1), (.var 2)]) (.call "telling_in" [(.var 1), (.var 3)])) [2, 3] (.mk (.tup [(.nm 2), (.nm 3)]) (.seq (.peek 0)) []) [])])]
def fpartB : List CS := [.ret (.and (.call "fits_teller" [(.idx (.peek 0) (.glb "SIZE" (.int 0))), (.var 1)]) (.call "keeps_in" [(.idx (.peek 0) (.glb "RULES" (.int 1))), (.var 1)]))]
def npartB : List CS := [.ifs (.not (.call "fits_parting" [(.var 0), (.var 1)])) [.raise "InvalidPaper" [(.cst (.str [110, 111, 116, 32, 97, 32, 112, 97, 114, 116, 105, 110, 103]))]] []]
def isPartB : List CS := [.expr (.call "need_system" [(.var 0)]),
  .ret (.call "fits_parting" [(.var 0), (.var 1)])]
def isTelB : List CS := [.expr (.call "need_system" [(.var 0)]),
  .ret (.call "fits_teller" [(.idx (.peek 0) (.glb "SIZE" (.int 0))), (.var 1)])]
def rchB : List CS := [.expr (.call "need_system" [(.var 0)]),
  .ifs (.not (.call "fits_teller" [(.idx (.peek 0) (.glb "SIZE" (.int 0))), (.var 1)])) [.raise "InvalidPaper" [(.cst (.str [110, 111, 116, 32, 97, 32, 116, 101, 108, 108, 101, 114]))]] [],
  .ret (.blt .tuple [(.comp (.var 2) [2, 3] (.mk (.tup [(.nm 2), (.nm 3)]) (.enm (.idx (.peek 0) (.glb "RULES" (.int 1)))) [(.not (.call "keeps_in" [(.lst [(.var 3)]), (.var 1)]))]) [])])]
def tofB : List CS := [.expr (.call "need_system" [(.var 0)]),
  .expr (.call "need_parting" [(.var 0), (.var 1)]),
  .expr (.call "need_both" [(.var 0), (.var 2)]),
  .ret (.call "telling_in" [(.var 1), (.var 2)])]
def partedB : List CS := [.expr (.call "need_system" [(.var 0)]),
  .expr (.call "need_parting" [(.var 0), (.var 1)]),
  .expr (.call "need_word" [(.var 0), (.var 2)]),
  .expr (.call "need_word" [(.var 0), (.var 3)]),
  .ret (.cmp .ne (.call "telling_in" [(.var 1), (.var 2)]) (.call "telling_in" [(.var 1), (.var 3)]))]
structure Tels (G : Tab) : Prop extends Words G where
  nums : Fn G "fits_numbers" 2 5 numsB
  mach : Fn G "fits_machine" 2 5 machB
  tel : Fn G "fits_teller" 2 2 tellerB
  keeps : Fn G "keeps_in" 2 4 keepsB
  telin : Fn G "telling_in" 2 6 tellingB
  fpart : Fn G "fits_parting" 2 2 fpartB
  npart : Fn G "need_parting" 2 2 npartB
theorem two_of {u0 u1 u2 : PV} : idxV (.tup [u0, u1, u2]) (.int 2) = pure u2 := idx_n (k := 2) rfl
local macro_rules | `(tactic| walk_at "evu") => `(tactic| repeat (first | walk_at "evs1" | simp only [idx_tup0, idx_tup1, two_of]))
theorem fits_numbers {G : Tab} (B : Tels G) (n : Nat) {k m : Nat} {vs : List Int} (ht : NumOk k m vs) : evalF G (n + 2) "fits_numbers" [.int k, telP (.num m vs)] = pure (.bl true) := by
  have h9 := ht.m9
  have h1 := ht.m1
  rw [B.nums.at _ _ rfl, tel_num]
  unfold numsB
  walk_at "evs"
  rw [is_tuple_of B.tup n _ 3 3 (by simp) (by simp)]
  walk_at "evu"
  rw [fits_whole B.whole n _ 0 9 (by omega) (by omega)]
  walk_at "evu"
  rw [eqM_int, show (((m : Int) == 1) = false) by rw [beq_eq_false_iff_ne]; omega]
  walk_at "evu"
  by_cases hm : 0 < m
  · rw [decide_eq_true (show (0 : Int) < (m : Int) by omega)]
    walk_at "evu"
    rw [is_tuple_of B.tup n _ _ _ (by rw [List.length_map, ht.len]; exact Int.le_refl _) (by rw [List.length_map, ht.len]; exact Int.le_refl _)]
    walk_at "evu"
    rw [flatM_overM (g := fun _ => .bl true) (fun v hv => by
      obtain ⟨q1, q2⟩ := ht.pos hm v hv
      walk_at "evu"
      rw [fits_whole B.whole n _ _ _ (by omega) (by omega)]
      walk_at "evs")]
    walk_at "evs"
    rw [allV_map]
    walk_at "evs"
    rw [show vs.all (fun _ => true) = true from List.all_eq_true.mpr fun _ _ => rfl]
  · rw [decide_eq_false (show ¬ (0 : Int) < (m : Int) by omega)]
    walk_at "evu"
    rw [neg_i]
    walk_at "evu"
    rw [is_tuple_of B.tup n _ _ _ (by rw [List.length_map, ht.len]; exact Int.le_refl _) (by rw [List.length_map, ht.len]; exact Int.le_refl _)]
    walk_at "evu"
    rw [flatM_overM (g := fun _ => .bl true) (fun v hv => by
      obtain ⟨q1, q2⟩ := ht.nul (by omega) v hv
      walk_at "evu"
      rw [fits_whole B.whole n _ _ _ (by omega) (by omega)]
      walk_at "evs")]
    walk_at "evs"
    rw [allV_map]
    walk_at "evs"
    rw [show vs.all (fun _ => true) = true from List.all_eq_true.mpr fun _ _ => rfl]
theorem fits_machine {G : Tab} (B : Tels G) (n : Nat) {k q : Nat} {ms : List (List Nat)} (k1 : 1 ≤ k) (ht : MacOk k q ms) : evalF G (n + 2) "fits_machine" [.int k, telP (.mac q ms)] = pure (.bl true) := by
  have q1 := ht.q1
  have q5 := ht.q5
  obtain ⟨r1, r2⟩ := first_row ht k1
  rw [B.mach.at _ _ rfl]
  unfold machB telP
  walk_at "evs"
  rw [is_tuple_of B.tup n _ 2 2 (by simp) (by simp)]
  walk_at "evu"
  rw [is_tuple_of B.tup n _ _ _ (by rw [List.length_map, ht.len]; exact Int.le_refl _) (by rw [List.length_map, ht.len]; exact Int.le_refl _)]
  walk_at "evu"
  have hl : ∀ r ∈ ms, ((natsP r).length : Int) = q := fun r hr => by unfold natsP; rw [List.length_map, (ht.row r hr).1]
  rw [flatM_overM (g := fun _ => .bl true) (fun r hr => by
    have := hl r hr
    rw [is_tuple_of B.tup n _ _ _ (by omega) (by omega)]
    walk_at "evs")]
  walk_at "evs"
  rw [allV_map, show ms.all (fun _ => true) = true from List.all_eq_true.mpr fun _ _ => rfl]
  walk_at "evu"
  rw [r1]
  walk_at "evu"
  rw [show (((natsP (ms.getD 0 [])).length : Nat) : Int) = q by unfold natsP; rw [List.length_map, r2]]
  rw [flatM_overM (g := fun _ => .bl true) (fun r hr => by
    walk_at "evu"
    rw [hl r hr, eqM_int, beq_self_eq_true]
    walk_at "evu"
    unfold natsP
    rw [flatM_overM (g := fun _ => .bl true) (fun x hx => by
      have := (ht.row r hr).2 x hx
      walk_at "evu"
      rw [fits_whole B.whole n _ _ _ (by omega) (by omega)]
      walk_at "evs")]
    walk_at "evs"
    rw [allV_map, show r.all (fun _ => true) = true from List.all_eq_true.mpr fun _ _ => rfl]
    walk_at "evs")]
  walk_at "evs"
  rw [allV_map, show ms.all (fun _ => true) = true from List.all_eq_true.mpr fun _ _ => rfl]
  walk_at "evs"
theorem tel_mac {q : Nat} {ms : List (List Nat)} : telP (.mac q ms) = .tup [.str macS, .tup (ms.map fun r => .tup (natsP r))] := rfl
theorem fits_teller {G : Tab} (B : Tels G) (n : Nat) {k : Nat} {t : Tel} (k1 : 1 ≤ k) (ht : TelOk k t) : evalF G (n + 3) "fits_teller" [.int k, telP t] = pure (.bl true) := by
  rw [B.tel.at _ _ rfl]
  unfold tellerB
  cases t with
  | num m vs =>
    have ht : NumOk k m vs := ht
    have q := fits_numbers B n ht
    rw [tel_num] at *
    walk_at "evs"
    rw [is_tuple_of B.tup (n + 1) _ 2 3 (by simp) (by simp)]
    walk_at "evu"
    rw [eqM_str, show (numS == [110, 117, 109, 98, 101, 114, 115]) = true from rfl]
    walk_at "evu"
    rw [q]
    walk_at "evs"
  | mac s ms =>
    have ht : MacOk k s ms := ht
    have q := fits_machine B n k1 ht
    rw [tel_mac] at *
    walk_at "evs"
    rw [is_tuple_of B.tup (n + 1) _ 2 3 (by simp) (by simp)]
    walk_at "evu"
    rw [eqM_str, show (macS == [110, 117, 109, 98, 101, 114, 115]) = false from rfl]
    walk_at "evu"
    rw [eqM_str, show (macS == [109, 97, 99, 104, 105, 110, 101]) = true from rfl]
    walk_at "evu"
    rw [q]
    walk_at "evs"
def Prt (t : Tel) (r : Rl) : Bool := tellN t r.1 == tellN t r.2
theorem eqvs_nats : ∀ a b : List Nat, eqvs (natsP a) (natsP b) = (a == b)
  | [], [] => rfl
  | [], _ :: _ => rfl
  | _ :: _, [] => rfl
  | a :: as, b :: bs => by
    show (eqv (.int a) (.int b) && eqvs (natsP as) (natsP bs)) = _
    rw [eqvs_nats as bs]
    show (((a : Int) == (b : Int)) && (as == bs)) = (a :: as == b :: bs)
    rw [show ((a : Int) == (b : Int)) = (a == b) by rw [Bool.eq_iff_iff, beq_iff_eq, beq_iff_eq]; omega]
    rfl
theorem okD_natT (w : List Nat) : okD (.tup (natsP w)) = true := by
  unfold okD
  simp only [plain, natsP_plains, dep, natsP_deps, Bool.true_and]
  exact decide_eq_true (by omega)
theorem okD_tv (a : Tv) : okD (tvP a) = true := by
  cases a with
  | inl i => rfl
  | inr l => exact okD_natT l
theorem eqv_tv (a b : Tv) : eqv (tvP a) (tvP b) = (a == b) := by
  cases a with
  | inl i => cases b with
    | inl j => rfl
    | inr l => rfl
  | inr l => cases b with
    | inl j => rfl
    | inr l' => exact eqvs_nats l l'
theorem eqM_tv {a b : Tv} : eqM (tvP a) (tvP b) = pure (a == b) := by
  unfold eqM
  rw [okD_tv, okD_tv, if_pos (by rfl), eqv_tv]
theorem keeps_in {G : Tab} (B : Tels G) (n : Nat) {k : Nat} {t : Tel} {rs : List Rl} {f : List PV → PV} (k1 : 1 ≤ k) (hk : k ≤ 4) (ht : TelOk k t) (hr : ∀ r ∈ rs, Rul k r) (hf : f = .tup ∨ f = .lst) :
    evalF G (n + 2) "keeps_in" [f (rs.map rP), telP t] = pure (.bl (rs.all (Prt t))) := by
  rw [B.keeps.at _ _ rfl]
  unfold keepsB
  rcases hf with rfl | rfl
  · walk_at "evt"
    rw [flatM_overM (g := fun r => .bl (Prt t r)) (fun r h => by
      have q := hr r h
      rw [asg_rP]
      walk_at "evs"
      rw [telling_in B.telin n k1 hk ht q.wl, telling_in B.telin n k1 hk ht q.wr]
      walk_at "evs"
      rw [eqM_tv]
      walk_at "evs"
      rfl)]
    walk_at "evs"
    rw [allV_map]
    walk_at "evs"
  · walk_at "evt"
    rw [flatM_overM (g := fun r => .bl (Prt t r)) (fun r h => by
      have q := hr r h
      rw [asg_rP]
      walk_at "evs"
      rw [telling_in B.telin n k1 hk ht q.wl, telling_in B.telin n k1 hk ht q.wr]
      walk_at "evs"
      rw [eqM_tv]
      walk_at "evs"
      rfl)]
    walk_at "evs"
    rw [allV_map]
    walk_at "evs"
theorem fits_parting {G : Tab} (B : Tels G) (n : Nat) {k : Nat} {t : Tel} {rs : List Rl} (hs : Sys k rs) (ht : TelOk k t) :
    evalF G (n + 4) "fits_parting" [sP k rs, telP t] = pure (.bl (rs.all (Prt t))) := by
  rw [B.fpart.at _ _ rfl]
  unfold fpartB
  walk_at "evt"
  rw [fits_teller B n hs.n1 ht]
  walk_at "evt"
  rw [keeps_in B (n + 1) (f := .tup) hs.n1 hs.n4 ht hs.ok (.inl rfl)]
  walk_at "evs"
theorem is_parting {G : Tab} (B : Tels G) (h : Fn G "is_parting" 2 2 isPartB) (n : Nat) {k : Nat} {t : Tel} {rs : List Rl} (hs : Sys k rs) (ht : TelOk k t) :
    evalF G (n + 5) "is_parting" [sP k rs, telP t] = pure (.bl (rs.all (Prt t))) := by
  rw [h.at _ _ rfl]
  unfold isPartB
  walk_at "evs"
  rw [need_system B.toBase B.nsys n hs]
  walk_at "evs"
  rw [fits_parting B n hs ht]
  walk_at "evs"
theorem is_teller_v {G : Tab} (B : Tels G) (h : Fn G "is_teller" 2 2 isTelB) (n : Nat) {k : Nat} {rs : List Rl} {v : PV} {b : Bool} (hs : Sys k rs) (hv : evalF G (n + 4) "fits_teller" [.int k, v] = pure (.bl b)) :
    evalF G (n + 5) "is_teller" [sP k rs, v] = pure (.bl b) := by
  rw [h.at _ _ rfl]
  unfold isTelB
  walk_at "evs"
  rw [need_system B.toBase B.nsys n hs]
  walk_at "evt"
  rw [hv]
  walk_at "evs"
theorem is_parting_v {G : Tab} (B : Tels G) (h : Fn G "is_parting" 2 2 isPartB) (n : Nat) {k : Nat} {rs : List Rl} {v : PV} (hs : Sys k rs) (hv : evalF G (n + 4) "fits_teller" [.int k, v] = pure (.bl false)) :
    evalF G (n + 6) "is_parting" [sP k rs, v] = pure (.bl false) := by
  rw [h.at _ _ rfl]
  unfold isPartB
  walk_at "evs"
  rw [need_system B.toBase B.nsys (n + 1) hs]
  walk_at "evs"
  rw [B.fpart.at _ _ rfl]
  unfold fpartB
  walk_at "evt"
  rw [hv]
  walk_at "evs"
theorem rules_changing {G : Tab} (B : Tels G) (h : Fn G "rules_changing" 2 4 rchB) (n : Nat) {k : Nat} {t : Tel} {rs : List Rl} (hs : Sys k rs) (ht : TelOk k t) :
    evalF G (n + 5) "rules_changing" [sP k rs, telP t] = pure (.tup (natsP (wherB rs fun r => !Prt t r))) := by
  rw [h.at _ _ rfl]
  unfold rchB
  walk_at "evs"
  rw [need_system B.toBase B.nsys n hs]
  walk_at "evt"
  rw [fits_teller B (n + 1) hs.n1 ht]
  walk_at "evt"
  rw [show ltOf (.tup (rs.map rP)) = some (rs.map rP) from rfl]
  walk_at "evs"
  rw [flatM_where (b := fun r => !Prt t r) (fun a r hr => by
    rw [asg_enr2]
    walk_at "evs"
    rw [show PV.lst [rP r] = PV.lst ([r].map rP) from rfl, keeps_in B (n + 2) (f := .lst) hs.n1 hs.n4 ht (fun r' h' => by rw [List.mem_singleton.mp h']; exact hs.ok r hr) (.inr rfl)]
    walk_at "evs"
    rw [List.all_cons, List.all_nil, Bool.and_true]
    cases Prt t r <;> (walk_at "evs"; try rfl))]
  walk_at "evt"
theorem need_parting {G : Tab} (B : Tels G) (n : Nat) {k : Nat} {t : Tel} {rs : List Rl} (hs : Sys k rs) (ht : TelOk k t) (hp : rs.all (Prt t) = true) :
    evalF G (n + 5) "need_parting" [sP k rs, telP t] = pure .non := by
  rw [B.npart.at _ _ rfl]
  unfold npartB
  walk_at "evs"
  rw [fits_parting B n hs ht, hp]
  walk_at "evs"
theorem telling_of {G : Tab} (B : Tels G) (h : Fn G "telling_of" 3 3 tofB) (n : Nat) {k : Nat} {t : Tel} {rs : List Rl} {w : List Nat} (hs : Sys k rs) (ht : TelOk k t) (hp : rs.all (Prt t) = true) (hw : Wrd k w) (h60 : w.length ≤ 60) :
    evalF G (n + 6) "telling_of" [sP k rs, telP t, .str w] = pure (tvP (tellN t w)) := by
  rw [h.at _ _ rfl]
  unfold tofB
  walk_at "evs"
  rw [need_system B.toBase B.nsys (n + 1) hs]
  walk_at "evs"
  rw [need_parting B n hs ht hp]
  walk_at "evs"
  rw [need_both B.toBase B.nboth B.nsys B.nword n hs hw h60]
  walk_at "evs"
  rw [telling_in B.telin (n + 4) hs.n1 hs.n4 ht hw]
  walk_at "evs"
theorem are_parted {G : Tab} (B : Tels G) (h : Fn G "are_parted" 4 4 partedB) (n : Nat) {k : Nat} {t : Tel} {rs : List Rl} {w v : List Nat} (hs : Sys k rs) (ht : TelOk k t) (hp : rs.all (Prt t) = true) (hw : Wrd k w) (h60 : w.length ≤ 60) (hv : Wrd k v) (h61 : v.length ≤ 60) :
    evalF G (n + 6) "are_parted" [sP k rs, telP t, .str w, .str v] = pure (.bl (tellN t w != tellN t v)) := by
  rw [h.at _ _ rfl]
  unfold partedB
  walk_at "evs"
  rw [need_system B.toBase B.nsys (n + 1) hs]
  walk_at "evs"
  rw [need_parting B n hs ht hp]
  walk_at "evs"
  rw [need_word B.toBase B.nword (n + 3) hw h60]
  walk_at "evs"
  rw [need_word B.toBase B.nword (n + 3) hv h61]
  walk_at "evs"
  rw [telling_in B.telin (n + 4) hs.n1 hs.n4 ht hw, telling_in B.telin (n + 4) hs.n1 hs.n4 ht hv]
  walk_at "evs"
  rw [eqM_tv]
  walk_at "evs"
  rfl
def lteB : List CS := [.asg (.nm 2) (.call "_law_some" [(.var 0), (.lst [(.cst (.int 0)), (.cst (.int 2)), (.cst (.int 3)), (.cst (.int 4)), (.cst (.int 5)), (.cst (.int 9))])]),
  .ifs (.cmp .eq (.call "_law_roll" [(.var 0), (.cst (.int 2))]) (.cst (.int 0))) [.asg (.tup [(.nm 3), (.nm 4)]) (.ite (.cmp .gt (.peek 2) (.cst (.int 0))) (.tup [(.cst (.int 0)), (.var 2)]) (.tup [(.neg (.cst (.int 9))), (.cst (.int 19))])), .ret (.tup [(.cst (.str [110, 117, 109, 98, 101, 114, 115])), (.var 2), (.blt .tuple [(.comp (.bin .add (.peek 3) (.call "_law_roll" [(.var 0), (.var 4)])) [5] (.mk (.nm 5) (.rng [(.peek 1)]) []) [])])])] [],
  .asg (.nm 6) (.bin .add (.cst (.int 1)) (.call "_law_roll" [(.var 0), (.cst (.int 4))])),
  .ret (.tup [(.cst (.str [109, 97, 99, 104, 105, 110, 101])), (.blt .tuple [(.comp (.blt .tuple [(.comp (.call "_law_roll" [(.var 0), (.var 6)]) [7] (.mk (.nm 7) (.rng [(.peek 6)]) []) [])]) [5] (.mk (.nm 5) (.rng [(.peek 1)]) []) [])])])]
def lkeptB : List CS := [.par [(1, false), (2, false), (3, false)] [(.bin .add (.cst (.int 1)) (.call "_law_roll" [(.var 0), (.cst (.int 3))])), (.tup []), (.lst [])],
  .asg (.nm 4) (.call "_law_teller" [(.var 0), (.var 1)]),
  .fors (.nm 5) (.rng [(.cst (.int 4))]) [.asg (.nm 3) (.bin .add (.peek 3) (.call "_law_all" [(.var 1), (.var 5)]))],
  .fors (.nm 6) (.rng [(.bin .add (.cst (.int 1)) (.call "_law_roll" [(.var 0), (.cst (.int 3))]))]) [.asg (.nm 7) (.call "_law_some" [(.var 0), (.slc (.peek 3) (some (.cst (.int 1))) none)]), .asg (.nm 8) (.comp (.var 9) [9] (.mk (.nm 9) (.seq (.peek 3)) [(.and (.cmp .ne (.peek 9) (.peek 7)) (.cmp .eq (.call "_law_tells" [(.var 4), (.var 9)]) (.call "_law_tells" [(.var 4), (.var 7)])))]) []), .ifs (.cmp .ne (.peek 8) (.lst [])) [.asg (.nm 10) (.tup [(.var 7), (.call "_law_some" [(.var 0), (.var 8)])]), .asg (.nm 2) (.bin .add (.peek 2) (.ite (.cmp .notin (.peek 10) (.peek 2)) (.tup [(.var 10)]) (.tup [])))] []],
  .ret (.tup [(.var 4), (.tup [(.var 1), (.ite (.cmp .ne (.peek 2) (.tup [])) (.var 2) (.tup [(.tup [(.bin .mul (.cst (.str [97])) (.cst (.int 2))), (.cst (.str [97]))])]))])])]
def lallB : List CS := [.asg (.nm 2) (.lst [(.cst (.str []))]),
  .fors (.nm 3) (.rng [(.peek 1)]) [.asg (.nm 4) (.lst []), .fors (.nm 5) (.seq (.var 2)) [.asg (.nm 4) (.bin .add (.peek 4) (.comp (.bin .add (.peek 5) (.peek 6)) [6] (.mk (.nm 6) (.seq (.slc (.cst (.str [97, 98, 99, 100])) none (some (.peek 0)))) []) []))], .asg (.nm 2) (.var 4)],
  .ret (.var 2)]
end EV

set_option maxRecDepth 100000
/-! EvPb: the draws of tellers and of systems that keep them. -/
namespace EV
open PySem
local macro_rules | `(tactic| walk_at "evs1") => `(tactic| simp only [evalB, evalS, evalE, evalEs, evalO, evalIt, evalIfs, partM, getP_v, getP_o, getP_s, getV_v, getV_s, truM_b, truM_n, truM_i, truM_s, truM_l, truM_t, optM_s, lenV_l, lenV_t, lenV_s, seqOf_l, seqOf_t, seqOf_s, out_ret, out_next, add_i, sub_i, int_i, cmp_lt, cmp_le, cmp_gt, cmp_ge, cmp_eq, cmp_ne, cmp_is, cmp_in, cmp_nin, slot_cell, slot_ol, slot_s, rec_join, rec_sw, rec_ew, rec_count, rec_index, rec_indexl, rec_get, guard_t, asg_nm, asg_t0, asg_t2, ownD, pure_bind, bind_assoc, bltV, blt1, blt2, binV, isTy_int_int, isTy_int_str, isTy_int_bool, isTy_int_tuple, isTy_int_list, isTy_bl_int, isTy_bl_str, isTy_bl_bool, isTy_bl_tuple, isTy_bl_list, isTy_str_int, isTy_str_str, isTy_str_bool, isTy_str_tuple, isTy_str_list, isTy_tup_int, isTy_tup_str, isTy_tup_bool, isTy_tup_tuple, isTy_tup_list, isTy_lst_int, isTy_lst_str, isTy_lst_bool, isTy_lst_tuple, isTy_lst_list, isTy_dict_int, isTy_dict_str, isTy_dict_bool, isTy_dict_tuple, isTy_dict_list, isTy_non_int, isTy_non_str, isTy_non_bool, isTy_non_tuple, isTy_non_list, List.getElem?_cons_zero, List.getElem?_cons_succ, List.getElem?_nil, if_true, if_false, ↓reduceIte, Bool.false_eq_true, Bool.not_true, Bool.not_false, List.map_cons, List.map_nil, List.length_cons, List.length_nil, Nat.reduceSub, Nat.reduceAdd, List.replicate_succ, List.replicate_zero, wipeE, List.set_cons_zero, List.set_cons_succ, List.set_nil, List.cons_append, List.nil_append])
local macro_rules | `(tactic| walk_at "evs") => `(tactic| try walk_at "evs1")
local macro_rules | `(tactic| walk_at "evt") => `(tactic| repeat (first | walk_at "evs1" | simp only [idx_sys0, idx_sys1, idx_rule0, idx_rule1, idx_pr0, idx_pr1, idx_tup0, idx_tup1, eqM_int, eqM_str, starts_s, slc_from, slc_to, slc_s, tup_l, list_s, str_s, isM_nn, isM_in, isM_bn, isM_sn, isM_bb, cmp_isn, neg_i, par2, par3, asg_rP, asg_prP, asg_t2v, count_sc]))
local macro_rules | `(tactic| walk_at "evu") => `(tactic| repeat (first | walk_at "evs1" | simp only [idx_tup0, idx_tup1, two_of]))
theorem gather {α : Type} {f : α → PV} {Q : α → Prop} : ∀ {l : List PV}, (∀ v ∈ l, ∃ x, v = f x ∧ Q x) → ∃ xs : List α, l = xs.map f ∧ ∀ x ∈ xs, Q x
  | [], _ => ⟨[], rfl, fun _ h => nomatch h⟩
  | v :: l, h => by
    obtain ⟨x, rfl, q⟩ := h v List.mem_cons_self
    obtain ⟨xs, rfl, qs⟩ := gather fun u hu => h u (List.mem_cons_of_mem _ hu)
    exact ⟨x :: xs, rfl, fun y hy => (List.mem_cons.mp hy).elim (fun e => e ▸ q) (qs y)⟩
theorem law_teller {G : Tab} (D : Draws G) (h : Fn G "_law_teller" 2 8 lteB) (n : Nat) {k : Nat} (k1 : 1 ≤ k) (hk : k ≤ 4) :
    Does (evalF G (n + 3) "_law_teller" [.cell, .int (k : Int)]) fun v => ∃ t, v = telP t ∧ TelOk k t := by
  rw [h.at _ _ rfl]
  unfold lteB
  walk_at "evs"
  refine Does.seq (law_some_l D n (by simp) (by simp)) fun v hv => ?_
  obtain ⟨m, rfl, hm⟩ : ∃ m : Nat, v = .int m ∧ (m = 0 ∨ m = 2 ∨ m = 3 ∨ m = 4 ∨ m = 5 ∨ m = 9) := by
    simp only [List.mem_cons, List.not_mem_nil, or_false] at hv
    rcases hv with rfl | rfl | rfl | rfl | rfl | rfl
    · exact ⟨0, rfl, by simp⟩
    · exact ⟨2, rfl, by simp⟩
    · exact ⟨3, rfl, by simp⟩
    · exact ⟨4, rfl, by simp⟩
    · exact ⟨5, rfl, by simp⟩
    · exact ⟨9, rfl, by simp⟩
  walk_at "evs"
  refine Does.seq (D.roll (n + 1) 2 (by omega) (by omega)) fun v hv => ?_
  obtain ⟨j, rfl, hj⟩ := hv
  rw [eqM_int]
  walk_at "evs"
  by_cases e0 : (j : Int) = 0
  · rw [beq_iff_eq.mpr e0]
    walk_at "evs"
    by_cases hm0 : 0 < m
    · rw [decide_eq_true (show (0 : Int) < (m : Int) by omega)]
      walk_at "evs"
      rw [rngN k (by omega)]
      walk_at "evs"
      refine Does.seq (flatM_does (P := fun v => ∃ x : Int, v = .int x ∧ 0 ≤ x ∧ x < m) fun x hx => ?_) fun l hl => ?_
      · refine Does.seq (D.roll (n + 1) m hm0 (by omega)) fun v hv => ?_
        obtain ⟨z, rfl, hz⟩ := hv
        walk_at "evs"
        exact Does.pure ⟨_, rfl, _, rfl, by omega, by omega⟩
      · obtain ⟨l1, l2⟩ := hl
        obtain ⟨vs, rfl, hvs⟩ := gather l2
        rw [List.length_map, List.length_map, List.length_range] at l1
        walk_at "evt"
        exact Does.pure ⟨.num m vs, rfl, by omega, by omega, l1, fun _ => hvs, fun e => by omega⟩
    · rw [decide_eq_false (show ¬ (0 : Int) < (m : Int) by omega)]
      walk_at "evs"
      rw [neg_i]
      walk_at "evs"
      rw [rngN k (by omega)]
      walk_at "evs"
      refine Does.seq (flatM_does (P := fun v => ∃ x : Int, v = .int x ∧ -9 ≤ x ∧ x ≤ 9) fun x hx => ?_) fun l hl => ?_
      · refine Does.seq (D.roll (n + 1) 19 (by omega) (by omega)) fun v hv => ?_
        obtain ⟨z, rfl, hz⟩ := hv
        walk_at "evs"
        exact Does.pure ⟨_, rfl, _, rfl, by omega, by omega⟩
      · obtain ⟨l1, l2⟩ := hl
        obtain ⟨vs, rfl, hvs⟩ := gather l2
        rw [List.length_map, List.length_map, List.length_range] at l1
        walk_at "evt"
        exact Does.pure ⟨.num m vs, rfl, by omega, by omega, l1, fun e => by omega, fun _ => hvs⟩
  · rw [beq_eq_false_iff_ne.mpr e0]
    walk_at "evs"
    refine Does.seq (D.roll (n + 1) 4 (by omega) (by omega)) fun v hv => ?_
    obtain ⟨q, rfl, hq⟩ := hv
    walk_at "evs"
    rw [rngN k (by omega), show ((1 : Int) + (q : Int)) = ((1 + q : Nat) : Int) by omega]
    walk_at "evs"
    refine Does.seq (flatM_does (P := fun v => ∃ r : List Nat, v = .tup (natsP r) ∧ (r.length = 1 + q ∧ ∀ x ∈ r, x < 1 + q)) fun x hx => ?_) fun l hl => ?_
    · rw [rngN (1 + q) (by omega)]
      walk_at "evs"
      refine Does.seq (flatM_does (P := fun v => ∃ x : Nat, v = .int x ∧ x < 1 + q) fun x hx => ?_) fun l hl => ?_
      · refine Does.seq (D.roll (n + 1) (1 + q) (by omega) (by omega)) fun v hv => ?_
        obtain ⟨z, rfl, hz⟩ := hv
        walk_at "evs"
        exact Does.pure ⟨_, rfl, z, rfl, hz⟩
      · obtain ⟨l1, l2⟩ := hl
        obtain ⟨vs, rfl, hvs⟩ := gather l2
        rw [List.length_map, List.length_map, List.length_range] at l1
        walk_at "evt"
        exact Does.pure ⟨_, rfl, vs, rfl, l1, hvs⟩
    · obtain ⟨l1, l2⟩ := hl
      obtain ⟨ms, rfl, hms⟩ := gather l2
      rw [List.length_map, List.length_map, List.length_range] at l1
      walk_at "evt"
      exact Does.pure ⟨.mac (1 + q) ms, rfl, by omega, by omega, l1, hms⟩
def allN (k : Nat) : Nat → List (List Nat)
  | 0 => [[]]
  | n + 1 => (allN k n).flatMap fun w => (Let k).map fun c => w ++ [c]
def upN (k n : Nat) : List (List Nat) := (List.range n).flatMap (allN k)
theorem law_all {G : Tab} (h : Fn G "_law_all" 2 7 lallB) (n : Nat) {k m : Nat} (k1 : 1 ≤ k) (hk : k ≤ 3) (hm : m ≤ 3) :
    evalF G (n + 1) "_law_all" [.int (k : Int), .int (m : Int)] = pure (.lst ((allN k m).map .str)) := by
  rw [h.at _ _ rfl]
  unfold lallB
  have : (k = 1 ∨ k = 2 ∨ k = 3) ∧ (m = 0 ∨ m = 1 ∨ m = 2 ∨ m = 3) := by omega
  obtain ⟨h1, h2⟩ := this
  rcases h1 with rfl | rfl | rfl <;> rcases h2 with rfl | rfl | rfl | rfl <;> (funext c; kernel_rfl)
theorem strs_plains : ∀ l : List (List Nat), plains (l.map .str) = true
  | [] => rfl
  | r :: rs => by
    rw [List.map_cons]
    simp only [plains, strs_plains rs, Bool.and_true]
    rfl
theorem strs_deps : ∀ l : List (List Nat), deps (l.map .str) = 0
  | [] => rfl
  | r :: rs => by
    rw [List.map_cons]
    simp only [deps, strs_deps rs]
    rfl
theorem eqM_strs0 (l : List (List Nat)) : eqM (.lst (l.map .str)) (.lst []) = pure l.isEmpty := by
  have e : okD (.lst (l.map .str)) = true := by
    unfold okD
    simp only [plain, strs_plains, dep, strs_deps, Bool.true_and]
    exact decide_eq_true (by omega)
  show (if (okD (.lst (l.map .str)) && okD (.lst [])) = true then pure (eqv (.lst (l.map .str)) (.lst [])) else fail : M Bool) = _
  rw [e, if_pos (by rfl)]
  cases l <;> rfl
structure UpOk (k : Nat) (l : List (List Nat)) : Prop where
  len : l.length ≤ 40
  two : 2 ≤ l.length
  all : ∀ w ∈ l, w.length ≤ 3 ∧ ∀ c ∈ w, c ∈ Let k
  ne : ∀ w ∈ l.drop 1, w ≠ []
instance {k : Nat} {l : List (List Nat)} : Decidable (UpOk k l) := decidable_of_iff (l.length ≤ 40 ∧ 2 ≤ l.length ∧ (∀ w ∈ l, w.length ≤ 3 ∧ ∀ c ∈ w, c ∈ Let k) ∧ ∀ w ∈ l.drop 1, w ≠ []) ⟨fun ⟨a, b, c, d⟩ => ⟨a, b, c, d⟩, fun ⟨a, b, c, d⟩ => ⟨a, b, c, d⟩⟩
theorem up_ok {k : Nat} (k1 : 1 ≤ k) (hk : k ≤ 3) : UpOk k (upN k 4) := by
  have : k = 1 ∨ k = 2 ∨ k = 3 := by omega
  rcases this with rfl | rfl | rfl <;> decide
theorem up_succ (k n : Nat) : upN k (n + 1) = upN k n ++ allN k n := by
  unfold upN
  rw [List.range_succ, List.flatMap_append]
  simp
theorem all_len {k m : Nat} (k1 : 1 ≤ k) (hk : k ≤ 3) (hm : m ≤ 3) : (upN k m).length + (allN k m).length ≤ 100 := by
  have : (k = 1 ∨ k = 2 ∨ k = 3) ∧ (m = 0 ∨ m = 1 ∨ m = 2 ∨ m = 3) := by omega
  obtain ⟨h1, h2⟩ := this
  rcases h1 with rfl | rfl | rfl <;> rcases h2 with rfl | rfl | rfl | rfl <;> decide
theorem law_kept {G : Tab} (D : Draws G) (ht : Fn G "_law_teller" 2 8 lteB) (ha : Fn G "_law_all" 2 7 lallB) (hl : Fn G "_law_tells" 2 6 ltellsB) (h : Fn G "_law_kept" 1 11 lkeptB) (n : Nat) :
    Does (evalF G (n + 4) "_law_kept" [.cell]) fun v => ∃ t k rs, v = .tup [telP t, sP k rs] ∧ Sys k rs ∧ TelOk k t := by
  rw [h.at _ _ rfl]
  unfold lkeptB
  walk_at "evs"
  refine Does.seq (D.roll (n + 2) 3 (by omega) (by omega)) fun v hv => ?_
  obtain ⟨j, rfl, hj⟩ := hv
  walk_at "evs"
  simp only [parT]
  walk_at "evs"
  rw [show ((1 : Int) + (j : Int)) = ((1 + j : Nat) : Int) by omega]
  refine Does.seq (law_teller D ht n (k := 1 + j) (by omega) (by omega)) fun v hv => ?_
  obtain ⟨t, rfl, tok⟩ := hv
  generalize hk : 1 + j = k at *
  have k1 : 1 ≤ k := by omega
  have k3 : k ≤ 3 := by omega
  walk_at "evs"
  rw [rng1 (n := 4) (by decide) (by omega) (by omega)]
  walk_at "evs"
  refine Does.seq (P := fun o => ∃ s5, o = .next [.val .cell, .val (.int k), .val (.tup []), .val (.lst ((upN k 4).map .str)), .val (telP t), s5, .no, .no, .no, .no, .no]) ?_ fun o ho => ?_
  · have q := forL_inv (f := fun (x : PV) (e : Ev) => do
        let x_1 ← getP (List.set e 5 (Slot.val x)) 3
        let x_2 ← getV (List.set e 5 (Slot.val x)) 1
        let x_3 ← getV (List.set e 5 (Slot.val x)) 5
        let x_4 ← evalF G (n + 3) "_law_all" [x_2, x_3]
        let v ← addV x_1 x_4
        pure (Out.next ((List.set e 5 (Slot.val x)).set 3 (Slot.val v)))) (k := 0) (fun i e => ∃ s5, e = [.val .cell, .val (.int k), .val (.tup []), .val (.lst ((upN k i).map .str)), .val (telP t), s5, .no, .no, .no, .no, .no]) (xs := (List.range 4).map fun (k : Nat) => PV.int k) (env := [.val .cell, .val (.int k), .val (.tup []), .val (.lst []), .val (telP t), .no, .no, .no, .no, .no, .no]) ⟨.no, rfl⟩ fun i x e hx he => by
      obtain ⟨s5, rfl⟩ := he
      rw [Nat.zero_add] at *
      have hi := (List.getElem?_eq_some_iff.mp hx).1
      rw [List.length_map, List.length_range] at hi
      rw [List.getElem?_map, List.getElem?_range hi] at hx
      cases hx
      walk_at "evs"
      rw [law_all ha (n + 2) k1 k3 (by omega)]
      walk_at "evs"
      rw [add_l (by rw [List.length_map, List.length_map]; have := all_len k1 k3 (m := i) (by omega); omega), ← List.map_append, ← up_succ]
      exact Does.pure ⟨_, .inl rfl, _, rfl⟩
    refine q.mono fun o ho => ?_
    obtain ⟨e, rfl, s5, rfl⟩ := ho
    exact ⟨s5, rfl⟩
  · obtain ⟨s5, rfl⟩ := ho
    have up := up_ok k1 k3
    walk_at "evs"
    generalize upN k 4 = l at up
    refine Does.seq (D.roll (n + 2) 3 (by omega) (by omega)) fun v hv => ?_
    obtain ⟨i, rfl, hi⟩ := hv
    walk_at "evs"
    rw [show ((1 : Int) + (i : Int)) = ((1 + i : Nat) : Int) by omega, rngN _ (by omega)]
    walk_at "evs"
    refine Does.seq (forL_inv (k := 0) (fun m e => ∃ rs s5 s6 s7 s8 s9 s10, e = [.val .cell, .val (.int k), .val (.tup (rs.map rP)), .val (.lst (l.map .str)), .val (telP t), s5, s6, s7, s8, s9, s10] ∧ Grow k rs m) ⟨[], _, _, _, _, _, _, rfl, k1, by omega, (fun _ h => nomatch h), List.nodup_nil, Nat.zero_le _⟩ fun m x e hx hI => ?_) fun o ho => ?_
    · obtain ⟨rs, s5, s6, s7, s8, s9, s10, rfl, g⟩ := hI
      rw [Nat.zero_add] at *
      have hm := (List.getElem?_eq_some_iff.mp hx).1
      rw [List.length_map, List.length_range] at hm
      walk_at "evs"
      rw [show slcV (.lst (l.map .str)) (some 1) none = pure (.lst ((l.drop 1).map .str)) by
        show (pure (.lst (cut (l.map .str) (some ((1 : Nat) : Int)) none)) : M PV) = _
        rw [cut_from, List.map_drop]]
      walk_at "evs"
      have len2 := up.two
      refine Does.seq (law_some_l D (n + 1) (l := (l.drop 1).map .str) (by
        intro e
        have := congrArg List.length e
        rw [List.length_map, List.length_drop] at this
        simp only [List.length_nil] at this
        omega) (by rw [List.length_map, List.length_drop]; have := up.len; omega)) fun v hv => ?_
      obtain ⟨w, hw, rfl⟩ := List.mem_map.mp hv
      have w0 := up.ne w hw
      obtain ⟨w3, wk⟩ := up.all w (List.mem_of_mem_drop hw)
      walk_at "evs"
      rw [flatM_overF (b := fun u => u != w && tellN t u == tellN t w) (g := .str) (fun u hu => by
        obtain ⟨u3, uk⟩ := up.all u hu
        walk_at "evs"
        rw [eqM_str]
        walk_at "evs"
        by_cases e : u = w
        · rw [beq_iff_eq.mpr e, show (u != w) = false by rw [e]; exact bne_self_eq_false _]
          walk_at "evs"
          rfl
        · rw [beq_eq_false_iff_ne.mpr e, bne_iff_ne.mpr e]
          walk_at "evs"
          rw [law_tells hl (n + 2) k1 (by omega) tok uk, law_tells hl (n + 2) k1 (by omega) tok wk]
          walk_at "evs"
          rw [eqM_tv]
          walk_at "evs"
          rw [Bool.true_and]
          cases tellN t u == tellN t w <;> (walk_at "evs"; try rfl))]
      have hsub : ∀ u ∈ l.filter (fun u => u != w && tellN t u == tellN t w), u ≠ w ∧ u ∈ l := fun u hu => by
        obtain ⟨h1, h2⟩ := List.mem_filter.mp hu
        rw [Bool.and_eq_true] at h2
        exact ⟨bne_iff_ne.mp h2.1, h1⟩
      have hlen := List.length_filter_le (fun u => u != w && tellN t u == tellN t w) l
      generalize l.filter (fun u => u != w && tellN t u == tellN t w) = l' at *
      walk_at "evs"
      rw [eqM_strs0]
      walk_at "evs"
      have keep : Grow k rs (m + 1) := ⟨g.n1, g.n4, g.ok, g.nd, by have := g.len; omega⟩
      cases he : l'.isEmpty with
      | true =>
        walk_at "evs"
        exact Does.pure ⟨_, .inl rfl, rs, _, _, _, _, _, _, rfl, keep⟩
      | false =>
        walk_at "evs"
        refine Does.seq (law_some_l D (n + 1) (l := l'.map .str) (by
          intro e
          rw [List.map_eq_nil_iff.mp e] at he
          cases he) (by rw [List.length_map]; have := up.len; omega)) fun v hv => ?_
        obtain ⟨u, hu, rfl⟩ := List.mem_map.mp hv
        obtain ⟨ne, ul⟩ := hsub u hu
        obtain ⟨u3, uk⟩ := up.all u ul
        walk_at "evs"
        rw [show inM (.tup [.str w, .str u]) (.tup (rs.map rP)) = pure (decide ((w, u) ∈ rs)) from inM_rule (r := (w, u))]
        walk_at "evs"
        by_cases hin : (w, u) ∈ rs
        · rw [decide_eq_true hin]
          walk_at "evs"
          rw [add_t (by rw [List.length_map]; have := g.len; simp only [List.length_nil]; omega), List.append_nil]
          walk_at "evs"
          exact Does.pure ⟨_, .inl rfl, rs, _, _, _, _, _, _, rfl, keep⟩
        · rw [decide_eq_false hin]
          walk_at "evs"
          rw [show addV (.tup (rs.map rP)) (.tup [.tup [.str w, .str u]]) = pure (.tup ((rs ++ [(w, u)]).map rP)) by
            rw [add_t (by rw [List.length_map]; have := g.len; simp only [List.length_cons, List.length_nil]; omega), List.map_append]
            rfl]
          walk_at "evs"
          refine Does.pure ⟨_, .inl rfl, rs ++ [(w, u)], _, _, _, _, _, _, rfl, g.n1, g.n4, fun r hr => ?_, ?_, ?_⟩
          · rcases List.mem_append.mp hr with h | h
            · exact g.ok r h
            · rw [List.mem_singleton.mp h]
              have : w.length ≠ 0 := fun e => w0 (List.eq_nil_of_length_eq_zero e)
              exact ⟨wk, uk, by show 1 ≤ w.length; omega, by show w.length ≤ 6; omega, by show u.length ≤ 6; omega, fun e => ne e.symm⟩
          · exact List.nodup_append.mpr ⟨g.nd, by simp, fun a ha b hb => by rw [List.mem_singleton.mp hb]; rintro rfl; exact hin ha⟩
          · have := g.len
            rw [List.length_append]
            simp only [List.length_cons, List.length_nil]
            omega
    · obtain ⟨e, rfl, rs, s5, s6, s7, s8, s9, s10, rfl, g⟩ := ho
      rw [List.length_map, List.length_range] at g
      walk_at "evs"
      rw [eqM_rules]
      walk_at "evs"
      cases rs with
      | nil =>
        walk_at "evs"
        rw [show mulV (.str [97]) (.int 2) = pure (.str [97, 97]) from rfl]
        walk_at "evs"
        refine Does.pure ⟨t, k, [([97, 97], [97])], rfl, sysB_ok (by
          have : k = 1 ∨ k = 2 ∨ k = 3 := by omega
          rcases this with rfl | rfl | rfl <;> decide), tok⟩
      | cons r rs =>
        walk_at "evs"
        exact Does.pure ⟨t, k, r :: rs, rfl, ⟨g.n1, g.n4, by rw [List.length_cons]; omega, by have := g.len; omega, g.ok, g.nd⟩, tok⟩
/-! ### a parting's telling stays along steps -/
theorem sumN_app (vs : List Int) (a b : List Nat) : sumN vs (a ++ b) = sumN vs a + sumN vs b := by
  unfold sumN
  rw [List.map_append, List.sum_append]
theorem tv_eq {a b : Tv} (h : (a == b) = true) : a = b := by
  cases a with
  | inl i => cases b with
    | inl j => exact congrArg _ (eq_of_beq (show (i == j) = true from h))
    | inr l => cases h
  | inr l => cases b with
    | inl j => cases h
    | inr l' => exact congrArg _ (eq_of_beq (show (l == l') = true from h))
theorem tv_refl (a : Tv) : (a == a) = true := by
  cases a with
  | inl i => exact beq_self_eq_true i
  | inr l => exact beq_self_eq_true l
theorem prt_eq {t : Tel} {r : Rl} (h : Prt t r = true) : tellN t r.1 = tellN t r.2 := tv_eq h
theorem tell_app {k : Nat} {t : Tel} {r : Rl} {a b : List Nat} (hk : k ≤ 4) (ht : TelOk k t) (h : Prt t r = true) (ha : Wrd k a) : tellN t (a ++ r.1 ++ b) = tellN t (a ++ r.2 ++ b) := by
  have e := prt_eq h
  cases t with
  | num m vs =>
    unfold tellN at *
    dsimp only at *
    congr 1
    have e := Sum.inl.inj e
    by_cases hm : 0 < m
    · rw [if_pos hm, if_pos hm] at *
      rw [Int.fmod_eq_emod_of_nonneg _ (by omega), Int.fmod_eq_emod_of_nonneg _ (by omega)] at *
      rw [sumN_app, sumN_app, sumN_app, sumN_app, Int.add_emod (sumN vs a + sumN vs r.1), Int.add_emod (sumN vs a) (sumN vs r.1), e, ← Int.add_emod (sumN vs a), ← Int.add_emod]
    · rw [if_neg hm, if_neg hm] at *
      rw [sumN_app, sumN_app, sumN_app, sumN_app, e]
  | mac q ms =>
    have ht : MacOk k q ms := ht
    unfold tellN at *
    dsimp only at *
    congr 1
    have e := List.map_inj_left.mp (Sum.inr.inj e)
    refine List.map_inj_left.mpr fun s hs => ?_
    have hs := List.mem_range.mp hs
    rw [List.foldl_append, List.foldl_append, List.foldl_append, List.foldl_append, e _ (List.mem_range.mpr (ht.fold hk a ha hs))]
theorem tell_step {k : Nat} {t : Tel} {rs : List Rl} {w : List Nat} {s : Nat × Nat} (hs : Sys k rs) (ht : TelOk k t) (hp : rs.all (Prt t) = true) (hw : Wrd k w) (hm : s ∈ steps rs w) : tellN t (behind rs w s) = tellN t w ∧ Wrd k (behind rs w s) := by
  obtain ⟨p1, p2, p3⟩ := mem_steps.mp hm
  have hr := List.all_eq_true.mp hp _ (List.getElem_mem p2)
  have ok := hs.ok _ (List.getElem_mem p2)
  have wt : Wrd k (w.take s.1) := fun c hc => hw c (List.mem_of_mem_take hc)
  constructor
  · have cutw := at_cut p3
    have q := tell_app (b := w.drop (s.1 + (lhs rs s.2).length)) hs.n4 ht hr wt
    rw [← lhs_at p2, ← rhs_at p2, ← cutw] at q
    exact q.symm
  · unfold behind
    rw [rhs_at p2]
    intro c hc
    rcases List.mem_append.mp hc with hc | hc
    · rcases List.mem_append.mp hc with hc | hc
      · exact wt c hc
      · exact ok.wr c hc
    · exact hw c (List.mem_of_mem_drop hc)
def rightHead : List CS := [.asg (.tup [(.nm 3), (.nm 4)]) (.var 2),
  .asg (.nm 5) (.comp (.var 6) [6] (.mk (.nm 6) (.rng [(.blt .len [(.peek 4)])]) [(.cmp .ne (.call "_law_tells" [(.var 1), (.idx (.idx (.peek 4) (.peek 6)) (.cst (.int 0)))]) (.call "_law_tells" [(.var 1), (.idx (.idx (.peek 4) (.peek 6)) (.cst (.int 1)))]))]) []),
  .asg (.nm 7) (.tup [(.call "is_teller" [(.var 2), (.var 1)]), (.call "is_parting" [(.var 2), (.var 1)]), (.call "rules_changing" [(.var 2), (.var 1)])]),
  .ifs (.not (.call "_law_same" [(.var 7), (.tup [(.cst (.bl true)), (.cmp .eq (.peek 5) (.lst [])), (.blt .tuple [(.peek 5)])])])) [.ret (.cst (.bl false))] [],
  .ifs (.cmp .eq (.peek 5) (.lst [])) [.par [(8, false), (9, false)] [(.call "_law_word" [(.var 0), (.var 3), (.cst (.int 6))]), (.call "_law_word" [(.var 0), (.var 3), (.cst (.int 6))])], .asg (.nm 7) (.tup [(.call "telling_of" [(.var 2), (.var 1), (.var 8)]), (.call "are_parted" [(.var 2), (.var 1), (.var 8), (.var 9)])]), .ifs (.not (.call "_law_same" [(.var 7), (.tup [(.call "_law_tells" [(.var 1), (.var 8)]), (.cmp .ne (.call "_law_tells" [(.var 1), (.var 8)]) (.call "_law_tells" [(.var 1), (.var 9)]))])])) [.ret (.cst (.bl false))] [], .fors (.nm 10) (.rng [(.cst (.int 4))]) [.asg (.nm 11) (.call "steps_of" [(.var 2), (.var 8)]), .ifs (.and (.cmp .ne (.peek 11) (.tup [])) (.cmp .lt (.blt .len [(.peek 8)]) (.cst (.int 30)))) [.asg (.nm 12) (.call "word_behind" [(.var 2), (.var 8), (.call "_law_some" [(.var 0), (.var 11)])]), .ifs (.cmp .isn (.call "are_parted" [(.var 2), (.var 1), (.var 8), (.var 12)]) (.cst (.bl false))) [.ret (.cst (.bl false))] [], .asg (.nm 8) (.var 12)] []]] []]
def rightOdd : List CS := [.own 13 (.lst [(.cst .non), (.cst (.int 5)), (.tup []), (.blt .list [(.peek 1)]), (.slc (.peek 1) none (some (.cst (.int 1)))), (.bin .add (.peek 1) (.tup [(.cst (.int 0))])), (.bin .add (.peek 1) (.tup [(.cst (.int 0)), (.cst (.int 0))])), (.bin .add (.tup [(.cst (.str [78, 117, 109, 98, 101, 114, 115]))]) (.slc (.peek 1) (some (.cst (.int 1))) none)), (.bin .add (.tup [(.cst (.int 0))]) (.slc (.peek 1) (some (.cst (.int 1))) none)), (.cst (.str [110, 117, 109, 98, 101, 114, 115]))]),
  .own 13 (.bin .add (.peek 13) (.lst [(.tup [(.cst (.str [110, 117, 109, 98, 101, 114, 115])), (.cst (.int 1)), (.bin .mul (.tup [(.cst (.int 0))]) (.peek 3))]), (.tup [(.cst (.str [110, 117, 109, 98, 101, 114, 115])), (.cst (.int 2)), (.bin .mul (.tup [(.cst (.int 2))]) (.peek 3))]), (.tup [(.cst (.str [110, 117, 109, 98, 101, 114, 115])), (.cst (.int 2)), (.bin .mul (.tup [(.cst (.int 0))]) (.bin .add (.peek 3) (.cst (.int 1))))]), (.tup [(.cst (.str [110, 117, 109, 98, 101, 114, 115])), (.cst (.bl true)), (.bin .mul (.tup [(.cst (.int 0))]) (.peek 3))])])),
  .own 13 (.bin .add (.peek 13) (.lst [(.tup [(.cst (.str [110, 117, 109, 98, 101, 114, 115])), (.cst (.int 10)), (.bin .mul (.tup [(.cst (.int 0))]) (.peek 3))]), (.tup [(.cst (.str [110, 117, 109, 98, 101, 114, 115])), (.cst (.int 0)), (.bin .mul (.tup [(.cst (.int 10))]) (.peek 3))]), (.tup [(.cst (.str [110, 117, 109, 98, 101, 114, 115])), (.cst (.int 3)), (.bin .mul (.tup [(.cst (.bl true))]) (.peek 3))]), (.tup [(.cst (.str [109, 97, 99, 104, 105, 110, 101])), (.bin .mul (.tup [(.tup [])]) (.peek 3))])])),
  .own 13 (.bin .add (.peek 13) (.lst [(.tup [(.cst (.str [109, 97, 99, 104, 105, 110, 101])), (.bin .mul (.tup [(.bin .mul (.tup [(.cst (.int 0))]) (.cst (.int 6)))]) (.peek 3))]), (.tup [(.cst (.str [109, 97, 99, 104, 105, 110, 101])), (.bin .mul (.tup [(.tup [(.cst (.int 0)), (.cst (.int 2))])]) (.peek 3))]), (.tup [(.cst (.str [109, 97, 99, 104, 105, 110, 101])), (.bin .mul (.tup [(.tup [(.cst (.int 0)), (.neg (.cst (.int 1)))])]) (.peek 3))])])),
  .app 13 (.tup [(.cst (.str [109, 97, 99, 104, 105, 110, 101])), (.bin .mul (.tup [(.tup [(.cst (.bl true)), (.cst (.int 0))])]) (.peek 3))]),
  .own 13 (.bin .add (.peek 13) (.lst [(.tup [(.cst (.str [109, 97, 99, 104, 105, 110, 101])), (.bin .mul (.tup [(.tup [(.cst (.int 0))])]) (.bin .sub (.peek 3) (.cst (.int 1))))]), (.tup [(.cst (.str [109, 97, 99, 104, 105, 110, 101])), (.bin .add (.bin .mul (.tup [(.tup [(.cst (.int 0))])]) (.bin .sub (.peek 3) (.cst (.int 1)))) (.bin .mul (.tup [(.tup [(.cst (.int 0)), (.cst (.int 1))])]) (.cst (.int 2))))]), (.tup [(.cst (.str [109, 97, 99, 104, 105, 110, 101])), (.bin .mul (.lst [(.tup [(.cst (.int 0))])]) (.peek 3))])]))]
def rightRet : List CS := [.ret (.cmp .eq (.comp (.var 14) [14] (.mk (.nm 14) (.seq (.peek 13)) [(.or (.cmp .isn (.call "is_teller" [(.var 2), (.var 14)]) (.cst (.bl false))) (.cmp .isn (.call "is_parting" [(.var 2), (.var 14)]) (.cst (.bl false))))]) []) (.lst []))]
def rightB : List CS := rightHead ++ (rightOdd ++ rightRet)
def oddT (t : Tel) : List PV :=
  let rest : List PV := match t with
    | .num m vs => [.int m, .tup (vs.map .int)]
    | .mac q ms => [.tup (ms.map fun r => .tup (natsP r))]
  let kind : PV := match t with
    | .num _ _ => .str numS
    | .mac _ _ => .str macS
  [.non, .int 5, .tup [], .lst (kind :: rest), .tup [kind], .tup (kind :: rest ++ [.int 0]), .tup (kind :: rest ++ [.int 0, .int 0]), .tup (.str [78, 117, 109, 98, 101, 114, 115] :: rest), .tup (.int 0 :: rest), .str numS]
def oddK (k : Nat) : List PV :=
  [.tup [.str numS, .int 1, .tup (List.replicate k (.int 0))], .tup [.str numS, .int 2, .tup (List.replicate k (.int 2))], .tup [.str numS, .int 2, .tup (List.replicate (k + 1) (.int 0))], .tup [.str numS, .bl true, .tup (List.replicate k (.int 0))],
   .tup [.str numS, .int 10, .tup (List.replicate k (.int 0))], .tup [.str numS, .int 0, .tup (List.replicate k (.int 10))], .tup [.str numS, .int 3, .tup (List.replicate k (.bl true))], .tup [.str macS, .tup (List.replicate k (.tup []))],
   .tup [.str macS, .tup (List.replicate k (.tup (List.replicate 6 (.int 0))))], .tup [.str macS, .tup (List.replicate k (.tup [.int 0, .int 2]))], .tup [.str macS, .tup (List.replicate k (.tup [.int 0, .int (-1)]))],
   .tup [.str macS, .tup (List.replicate k (.tup [.bl true, .int 0]))],
   .tup [.str macS, .tup (List.replicate (k - 1) (.tup [.int 0]))], .tup [.str macS, .tup (List.replicate (k - 1) (.tup [.int 0]) ++ List.replicate 2 (.tup [.int 0, .int 1]))], .tup [.str macS, .lst (List.replicate k (.tup [.int 0]))]]
theorem kinds {k : Nat} (k1 : 1 ≤ k) (hk : k ≤ 4) : k = 1 ∨ k = 2 ∨ k = 3 ∨ k = 4 := by omega
theorem right_odd (call : Str → List PV → M PV) {k : Nat} (k1 : 1 ≤ k) (hk : k ≤ 4) (t : Tel) (s0 s2 s4 s5 s6 s7 s8 s9 s10 s11 s12 s13 s14 : Slot) :
    evalB call rightOdd [s0, .val (telP t), s2, .val (.int k), s4, s5, s6, s7, s8, s9, s10, s11, s12, s13, s14] = pure (.next [s0, .val (telP t), s2, .val (.int k), s4, s5, s6, s7, s8, s9, s10, s11, s12, .own (.lst (oddT t ++ oddK k)), s14]) := by
  rcases kinds k1 hk with rfl | rfl | rfl | rfl <;> (cases t <;> (funext c; rfl))
end EV

set_option maxRecDepth 100000
/-! EvOv: overlaps. -/
namespace EV
open PySem
local macro_rules | `(tactic| walk_at "evs1") => `(tactic| simp only [evalB, evalS, evalE, evalEs, evalO, evalIt, evalIfs, partM, getP_v, getP_o, getP_s, getV_v, getV_s, truM_b, truM_n, truM_i, truM_s, truM_l, truM_t, optM_s, lenV_l, lenV_t, lenV_s, seqOf_l, seqOf_t, seqOf_s, out_ret, out_next, add_i, sub_i, int_i, cmp_lt, cmp_le, cmp_gt, cmp_ge, cmp_eq, cmp_ne, cmp_is, cmp_in, cmp_nin, slot_cell, slot_ol, slot_s, rec_join, rec_sw, rec_ew, rec_count, rec_index, rec_indexl, rec_get, guard_t, asg_nm, asg_t0, asg_t2, ownD, pure_bind, bind_assoc, bltV, blt1, blt2, binV, isTy_int_int, isTy_int_str, isTy_int_bool, isTy_int_tuple, isTy_int_list, isTy_bl_int, isTy_bl_str, isTy_bl_bool, isTy_bl_tuple, isTy_bl_list, isTy_str_int, isTy_str_str, isTy_str_bool, isTy_str_tuple, isTy_str_list, isTy_tup_int, isTy_tup_str, isTy_tup_bool, isTy_tup_tuple, isTy_tup_list, isTy_lst_int, isTy_lst_str, isTy_lst_bool, isTy_lst_tuple, isTy_lst_list, isTy_dict_int, isTy_dict_str, isTy_dict_bool, isTy_dict_tuple, isTy_dict_list, isTy_non_int, isTy_non_str, isTy_non_bool, isTy_non_tuple, isTy_non_list, List.getElem?_cons_zero, List.getElem?_cons_succ, List.getElem?_nil, if_true, if_false, ↓reduceIte, Bool.false_eq_true, Bool.not_true, Bool.not_false, List.map_cons, List.map_nil, List.length_cons, List.length_nil, Nat.reduceSub, Nat.reduceAdd, List.replicate_succ, List.replicate_zero, wipeE, List.set_cons_zero, List.set_cons_succ, List.set_nil, List.cons_append, List.nil_append])
local macro_rules | `(tactic| walk_at "evs") => `(tactic| try walk_at "evs1")
local macro_rules | `(tactic| walk_at "evt") => `(tactic| repeat (first | walk_at "evs1" | simp only [idx_sys0, idx_sys1, idx_rule0, idx_rule1, idx_pr0, idx_pr1, idx_tup0, idx_tup1, eqM_int, eqM_str, starts_s, slc_from, slc_to, slc_s, tup_l, list_s, str_s, isM_nn, isM_in, isM_bn, isM_sn, isM_bb, cmp_isn, neg_i, par2, par3, asg_rP, asg_prP, asg_t2v, count_sc]))
local macro_rules | `(tactic| walk_at "evu") => `(tactic| repeat (first | walk_at "evs1" | simp only [idx_tup0, idx_tup1, two_of]))
def ovLoop : List CS := [.asg (.nm 9) (.ite (.cmp .lt (.peek 2) (.peek 5)) (.cst (.int 0)) (.cst (.int 1))), .aug 8 .add (.comp (.tup [(.var 2), (.var 5), (.var 10)]) [10] (.mk (.nm 10) (.rng [(.peek 9), (.blt .len [(.peek 3)])]) [(.call "agrees" [(.var 3), (.var 6), (.var 10)])]) [])]
def ovInB : List CS := [.asg (.nm 1) (.comp (.tup [(.var 2), (.var 5), (.var 3), (.var 6)]) [2, 3, 4, 5, 6, 7] (.mk (.tup [(.nm 2), (.tup [(.nm 3), (.nm 4)])]) (.enm (.idx (.peek 0) (.glb "RULES" (.int 1)))) []) [(.mk (.tup [(.nm 5), (.tup [(.nm 6), (.nm 7)])]) (.enm (.idx (.peek 0) (.glb "RULES" (.int 1)))) [])]),
  .own 8 (.lst []),
  .fors (.tup [(.nm 2), (.nm 5), (.nm 3), (.nm 6)]) (.seq (.var 1)) ovLoop,
  .freeze 8,
  .ret (.var 8)]
def agreesB : List CS := [.ret (.blt .all [(.comp (.cmp .eq (.peek 3) (.peek 4)) [3, 4] (.mk (.tup [(.nm 3), (.nm 4)]) (.zip (.slc (.peek 0) (some (.peek 2)) none) (.peek 1)) []) [])])]
def wordInB : List CS := [.par [(2, false), (3, false)] [(.idx (.idx (.idx (.peek 0) (.glb "RULES" (.int 1))) (.idx (.peek 1) (.glb "ONE" (.int 0)))) (.cst (.int 0))), (.idx (.idx (.idx (.peek 0) (.glb "RULES" (.int 1))) (.idx (.peek 1) (.glb "OTHER" (.int 1)))) (.cst (.int 0)))],
  .ret (.bin .add (.peek 2) (.slc (.peek 3) (some (.bin .sub (.blt .len [(.peek 2)]) (.idx (.peek 1) (.glb "BEGIN" (.int 2))))) none))]
def sidesInB : List CS := [.asg (.nm 2) (.call "word_in" [(.var 0), (.var 1)]),
  .ret (.tup [(.call "behind_in" [(.var 0), (.var 2), (.tup [(.cst (.int 0)), (.idx (.peek 1) (.glb "ONE" (.int 0)))])]), (.call "behind_in" [(.var 0), (.var 2), (.tup [(.idx (.peek 1) (.glb "BEGIN" (.int 2))), (.idx (.peek 1) (.glb "OTHER" (.int 1)))])])])]
def fovB : List CS := [.ifs (.or (.not (.call "is_tuple_of" [(.var 1), (.cst (.int 3)), (.cst (.int 3))])) (.not (.blt .all [(.comp (.call "fits_whole" [(.var 2), (.cst (.int 0)), (.glb "MOST_RULES" (.int 8))]) [2] (.mk (.nm 2) (.seq (.peek 1)) []) [])]))) [.ret (.cst (.bl false))] [],
  .ret (.cmp .isin (.peek 1) (.call "overlaps_in" [(.var 0)]))]
def novB : List CS := [.expr (.call "need_system" [(.var 0)]),
  .ifs (.not (.call "fits_overlap" [(.var 0), (.var 1)])) [.raise "InvalidPlan" [(.cst (.str [110, 111, 116, 32, 97, 110, 32, 111, 118, 101, 114, 108, 97, 112]))]] []]
def ndoneB : List CS := [.expr (.call "need_step" [(.var 0), (.var 2)]),
  .ifs (.not (.call "can_in" [(.var 0), (.var 1), (.var 2)])) [.raise "InvalidStep" [(.cst (.str [110, 111, 116, 32, 97, 32, 115, 116, 101, 112, 32, 116, 104, 97, 116, 32, 99, 97, 110, 32, 98, 101, 32, 100, 111, 110, 101]))]] []]
def isOvB : List CS := [.expr (.call "need_system" [(.var 0)]),
  .ret (.call "fits_overlap" [(.var 0), (.var 1)])]
def ovWordB : List CS := [.expr (.call "need_overlap" [(.var 0), (.var 1)]),
  .ret (.call "word_in" [(.var 0), (.var 1)])]
def ovSidesB : List CS := [.expr (.call "need_overlap" [(.var 0), (.var 1)]),
  .ret (.call "sides_in" [(.var 0), (.var 1)])]
def ovMetB : List CS := [.expr (.call "need_both" [(.var 0), (.var 1)]),
  .expr (.call "need_done" [(.var 0), (.var 1), (.var 2)]),
  .expr (.call "need_done" [(.var 0), (.var 1), (.var 3)]),
  .ifs (.cmp .eq (.peek 2) (.peek 3)) [.raise "InvalidStep" [(.cst (.str [111, 110, 101, 32, 115, 116, 101, 112, 32, 116, 119, 105, 99, 101]))]] [],
  .asg (.tup [(.nm 4), (.nm 5)]) (.blt .sorted [(.lst [(.var 2), (.var 3)])]),
  .asg (.nm 6) (.bin .sub (.idx (.peek 5) (.glb "PLACE" (.int 0))) (.idx (.peek 4) (.glb "PLACE" (.int 0)))),
  .ret (.ite (.cmp .lt (.peek 6) (.blt .len [(.idx (.idx (.idx (.peek 0) (.glb "RULES" (.int 1))) (.idx (.peek 4) (.glb "RULE" (.int 1)))) (.cst (.int 0)))])) (.tup [(.idx (.peek 4) (.glb "RULE" (.int 1))), (.idx (.peek 5) (.glb "RULE" (.int 1))), (.var 6)]) (.cst .non))]
def pairB : List CS := [.asg (.nm 4) (.idx (.idx (.idx (.peek 0) (.cst (.int 1))) (.idx (.peek 2) (.cst (.int 1)))) (.cst (.int 0))),
  .par [(5, false), (6, false)] [(.call "overlap_met" [(.var 0), (.var 1), (.var 2), (.var 3)]), (.call "overlap_met" [(.var 0), (.var 1), (.var 3), (.var 2)])],
  .asg (.nm 7) (.bin .sub (.idx (.peek 3) (.cst (.int 0))) (.idx (.peek 2) (.cst (.int 0)))),
  .ifs (.cmp .ge (.peek 7) (.blt .len [(.peek 4)])) [.asg (.nm 8) (.bin .sub (.bin .add (.idx (.peek 3) (.cst (.int 0))) (.blt .len [(.idx (.idx (.idx (.peek 0) (.cst (.int 1))) (.idx (.peek 2) (.cst (.int 1)))) (.cst (.int 1)))])) (.blt .len [(.peek 4)])), .asg (.nm 9) (.call "word_behind" [(.var 0), (.call "word_behind" [(.var 0), (.var 1), (.var 2)]), (.tup [(.var 8), (.idx (.peek 3) (.cst (.int 1)))])]), .asg (.nm 10) (.call "word_behind" [(.var 0), (.call "word_behind" [(.var 0), (.var 1), (.var 3)]), (.var 2)]), .ret (.call "_law_same" [(.tup [(.var 5), (.var 6), (.var 9)]), (.tup [(.cst .non), (.cst .non), (.var 10)])])] [],
  .asg (.nm 11) (.tup [(.idx (.peek 2) (.cst (.int 1))), (.idx (.peek 3) (.cst (.int 1))), (.var 7)]),
  .ifs (.not (.call "_law_same" [(.tup [(.var 5), (.var 6), (.call "is_overlap" [(.var 0), (.var 11)])]), (.tup [(.var 11), (.var 11), (.cst (.bl true))])])) [.ret (.cst (.bl false))] [],
  .par [(12, false), (13, false)] [(.slc (.peek 1) none (some (.idx (.peek 2) (.cst (.int 0))))), (.call "overlap_word" [(.var 0), (.var 11)])],
  .asg (.nm 14) (.slc (.peek 1) (some (.bin .add (.idx (.peek 2) (.cst (.int 0))) (.blt .len [(.peek 13)]))) none),
  .ifs (.cmp .ne (.peek 1) (.bin .add (.bin .add (.peek 12) (.peek 13)) (.peek 14))) [.ret (.cst (.bl false))] [],
  .asg (.nm 15) (.blt .tuple [(.comp (.bin .add (.bin .add (.peek 12) (.peek 16)) (.peek 14)) [16] (.mk (.nm 16) (.seq (.call "overlap_sides" [(.var 0), (.var 11)])) []) [])]),
  .ret (.call "_law_same" [(.tup [(.call "word_behind" [(.var 0), (.var 1), (.var 2)]), (.call "word_behind" [(.var 0), (.var 1), (.var 3)])]), (.var 15)])]
abbrev Ov := Nat × Nat × Nat
def ovP (o : Ov) : PV := .tup [.int o.1, .int o.2.1, .int o.2.2]
def agN (u v : List Nat) (b : Nat) : Bool := ((u.drop b).zip v).all fun p => p.1 == p.2
theorem zip_strs (u v : List Nat) : zipV (u.map fun c => .str [c]) (v.map fun c => .str [c]) = (u.zip v).map fun p => .tup [.str [p.1], .str [p.2]] := by
  induction u generalizing v with
  | nil => rfl
  | cons a u ih => cases v with
    | nil => rfl
    | cons b v =>
      show PV.tup [.str [a], .str [b]] :: zipV (u.map fun c => .str [c]) (v.map fun c => .str [c]) = _
      rw [ih]
      rfl
theorem agrees {G : Tab} (h : Fn G "agrees" 3 5 agreesB) (n : Nat) (u v : List Nat) (b : Nat) : evalF G (n + 1) "agrees" [.str u, .str v, .int (b : Int)] = pure (.bl (agN u v b)) := by
  rw [h.at _ _ rfl]
  unfold agreesB
  walk_at "evs"
  rw [slc_from]
  walk_at "evs"
  rw [show zipM (.str (u.drop b)) (.str v) = pure (zipV ((u.drop b).map fun c => .str [c]) (v.map fun c => .str [c])) from rfl, zip_strs]
  walk_at "evs"
  rw [flatM_overM (g := fun p : Nat × Nat => .bl (p.1 == p.2)) (fun p hp => by
    rw [asg_enr2]
    walk_at "evs"
    rw [eqM_str, show ([p.1] == [p.2]) = (p.1 == p.2) by rw [Bool.eq_iff_iff, beq_iff_eq, beq_iff_eq]; simp]
    walk_at "evs")]
  walk_at "evs"
  rw [allV_map]
  walk_at "evs"
  rfl
/-- all overlaps, as they are looked for -/
def quadsN (rs : List Rl) : List (Nat × Nat) := (List.range rs.length).flatMap fun i => (List.range rs.length).map fun j => (i, j)
def begN (rs : List Rl) (q : Nat × Nat) : List Nat := ((List.range (lhs rs q.1).length).drop (if q.1 < q.2 then 0 else 1)).filter (agN (lhs rs q.1) (lhs rs q.2))
def ovs (rs : List Rl) : List Ov := (quadsN rs).flatMap fun q => (begN rs q).map fun b => (q.1, q.2, b)
theorem mem_ovs {rs : List Rl} {i j b : Nat} : (i, j, b) ∈ ovs rs ↔ i < rs.length ∧ j < rs.length ∧ b < (lhs rs i).length ∧ (i < j ∨ 1 ≤ b) ∧ agN (lhs rs i) (lhs rs j) b = true := by
  have hd : ∀ (n k b : Nat), b ∈ (List.range n).drop k ↔ k ≤ b ∧ b < n := by
    intro n k b
    rw [List.mem_iff_getElem]
    constructor
    · rintro ⟨x, hx, rfl⟩
      rw [List.length_drop, List.length_range] at hx
      rw [List.getElem_drop, List.getElem_range]
      omega
    · rintro ⟨h1, h2⟩
      exact ⟨b - k, by rw [List.length_drop, List.length_range]; omega, by rw [List.getElem_drop, List.getElem_range]; omega⟩
  unfold ovs quadsN begN
  simp only [List.mem_flatMap, List.mem_map, List.mem_range, List.mem_filter, hd]
  constructor
  · rintro ⟨⟨i', j'⟩, ⟨i2, hi, j2, hj, e⟩, b', ⟨⟨h1, h2⟩, h3⟩, e2⟩
    injection e with e3 e4
    injection e2 with e5 e6
    injection e6 with e7 e8
    subst e5 e7 e8
    subst e3 e4
    refine ⟨hi, hj, h2, ?_, h3⟩
    dsimp only at h1
    split at h1
    · rename_i hij
      exact .inl hij
    · exact .inr h1
  · rintro ⟨hi, hj, hb, ho, ha⟩
    refine ⟨(i, j), ⟨i, hi, j, hj, rfl⟩, b, ⟨⟨?_, hb⟩, ha⟩, rfl⟩
    dsimp only
    by_cases hij : i < j
    · rw [if_pos hij]
      omega
    · rw [if_neg hij]
      omega
theorem quads_len {k : Nat} {rs : List Rl} (hs : Sys k rs) : (quadsN rs).length ≤ 64 := by
  have m8 := hs.m8
  unfold quadsN
  rw [List.length_flatMap]
  simp only [List.length_map, List.length_range, List.map_const', List.sum_replicate_nat]
  exact Nat.mul_le_mul m8 m8
def qdP (rs : List Rl) (q : Nat × Nat) : PV := .tup [.int q.1, .int q.2, .str (lhs rs q.1), .str (lhs rs q.2)]
theorem rngAB {a b : Nat} (h : a ≤ 1) (hb : b ≤ 1000) : rngM [.int (a : Int), .int (b : Int)] = pure (((List.range b).drop a).map fun (k : Nat) => .int k) := by
  have hL : ((LINE : Nat) : Int) = 16777216 := rfl
  simp only [rngM]
  rw [if_pos (by rw [hL]; simp only [Bool.and_eq_true, decide_eq_true_eq]; omega)]
  congr 1
  refine List.ext_getElem (by simp) fun i h1 h2 => ?_
  simp only [List.getElem_map, List.getElem_range, List.getElem_drop]
  rfl
theorem lhs6 {k : Nat} {rs : List Rl} (hs : Sys k rs) (i : Nat) : (lhs rs i).length ≤ 6 := by
  by_cases hi : i < rs.length
  · rw [lhs_at hi]
    exact (hs.ok _ (List.getElem_mem hi)).l6
  · unfold lhs
    rw [List.getD_eq_getElem?_getD, List.getElem?_eq_none (by omega)]
    exact Nat.zero_le _
theorem beg_len {k : Nat} {rs : List Rl} (hs : Sys k rs) (q : Nat × Nat) : (begN rs q).length ≤ 6 := by
  have h6 := lhs6 hs q.1
  have := List.length_filter_le (agN (lhs rs q.1) (lhs rs q.2)) ((List.range (lhs rs q.1).length).drop (if q.1 < q.2 then 0 else 1))
  rw [List.length_drop, List.length_range] at this
  unfold begN
  omega
theorem ovs_part {k : Nat} {rs : List Rl} (hs : Sys k rs) : ∀ qs : List (Nat × Nat), (qs.flatMap fun q => (begN rs q).map fun b => (q.1, q.2, b)).length ≤ 6 * qs.length
  | [] => Nat.zero_le _
  | q :: qs => by
    have h1 := ovs_part hs qs
    have h2 := beg_len hs q
    rw [List.flatMap_cons, List.length_append, List.length_map, List.length_cons]
    omega
theorem overlaps_in {G : Tab} (h : Fn G "overlaps_in" 1 11 ovInB) (ha : Fn G "agrees" 3 5 agreesB) (n : Nat) {k : Nat} {rs : List Rl} (hs : Sys k rs) :
    evalF G (n + 2) "overlaps_in" [sP k rs] = pure (.lst ((ovs rs).map ovP)) := by
  have ql := quads_len hs
  rw [h.at _ _ rfl]
  unfold ovInB
  walk_at "evt"
  have a5 : ∀ (i j k : Nat) (u v w : PV) (e : Ev), asgT (.tup [.nm i, .tup [.nm j, .nm k]]) (.tup [u, .tup [v, w]]) e = pure (((e.set i (.val u)).set j (.val v)).set k (.val w)) := fun _ _ _ _ _ _ _ => rfl
  rw [show ltOf (.tup (rs.map rP)) = some (rs.map rP) from rfl]
  walk_at "evs"
  rw [enm_map, zipIdx_range, List.map_map, flatA_over (g := fun i => (List.range rs.length).map fun j => qdP rs (i, j)) (B := 64) (fun i hi acc hb => by
    have hi := List.mem_range.mp hi
    show (do
      let env' ← asgT (CT.tup [CT.nm 2, CT.tup [CT.nm 3, CT.nm 4]]) (.tup [.int (i : Nat), rP (rs.getD i ([], []))]) _
      _) = _
    unfold rP
    rw [a5]
    walk_at "evt"
    rw [show ltOf (.tup (rs.map rP)) = some (rs.map rP) from rfl]
    walk_at "evs"
    rw [enm_map, zipIdx_range, List.map_map]
    rw [flatA_push (g := fun j => qdP rs (i, j)) (fun j hj acc => by
      show (do
        let env'' ← asgT (CT.tup [CT.nm 5, CT.tup [CT.nm 6, CT.nm 7]]) (.tup [.int (j : Nat), rP (rs.getD j ([], []))]) _
        _) = _
      unfold rP
      simp only [tIx, tIxs]
      walk_at "evs"
      rw [a5]
      walk_at "evs"
      rfl) (by rw [List.length_map] at hb; omega)]) (by
    have : ((List.range rs.length).flatMap fun i => (List.range rs.length).map fun j => qdP rs (i, j)) = (quadsN rs).map (qdP rs) := by
      unfold quadsN
      rw [List.map_flatMap]
      congr 1
      funext i
      rw [List.map_map]
      rfl
    rw [this, List.length_map]
    simpa using ql)]
  rw [List.nil_append, show ((List.range rs.length).flatMap fun i => (List.range rs.length).map fun j => qdP rs (i, j)) = (quadsN rs).map (qdP rs) by
      unfold quadsN
      rw [List.map_flatMap]
      congr 1
      funext i
      rw [List.map_map]
      rfl]
  walk_at "evs"
  refine forL_det (k := 0) (fun i e => ∃ s2 s3 s4 s5 s6 s7 s9 s10, e = [.val (sP k rs), .val (.lst ((quadsN rs).map (qdP rs))), s2, s3, s4, s5, s6, s7, .own (.lst ((((quadsN rs).take i).flatMap fun q => (begN rs q).map fun b => (q.1, q.2, b)).map ovP)), s9, s10]) ⟨_, _, _, _, _, _, _, _, rfl⟩ (fun i x e hx he => ?_) (fun e he => ?_)
  · obtain ⟨s2, s3, s4, s5, s6, s7, s9, s10, rfl⟩ := he
    rw [Nat.zero_add] at *
    rw [List.getElem?_map] at hx
    cases hc : (quadsN rs)[i]? with
    | none => rw [hc] at hx; cases hx
    | some q =>
      rw [hc] at hx
      cases hx
      rw [show ∀ e : Ev, asgT (CT.tup [CT.nm 2, CT.nm 5, CT.nm 3, CT.nm 6]) (qdP rs q) e = pure ((((e.set 2 (.val (.int q.1))).set 5 (.val (.int q.2))).set 3 (.val (.str (lhs rs q.1)))).set 6 (.val (.str (lhs rs q.2)))) from fun _ => rfl]
      unfold ovLoop
      walk_at "evt"
      have hb : (if decide ((q.1 : Int) < (q.2 : Int)) = true then pure (PV.int 0) else pure (PV.int 1) : M PV) = pure (.int ((if q.1 < q.2 then 0 else 1 : Nat) : Int)) := by
        by_cases h12 : q.1 < q.2
        · rw [if_pos h12, if_pos (by rw [decide_eq_true_eq]; omega)]
          rfl
        · rw [if_neg h12, if_neg (by rw [decide_eq_true_eq]; omega)]
          rfl
      rw [hb]
      walk_at "evs"
      rw [rngAB (by split <;> omega) (by have := lhs6 hs q.1; omega)]
      walk_at "evs"
      rw [flatM_overF (b := fun b => agN (lhs rs q.1) (lhs rs q.2) b) (g := fun b => ovP (q.1, q.2, b)) (fun b hb => by
        rw [agrees ha]
        cases agN (lhs rs q.1) (lhs rs q.2) b <;> (walk_at "evs"; try rfl))]
      rw [show (List.filter (fun b => agN (lhs rs q.1) (lhs rs q.2) b) ((List.range (lhs rs q.1).length).drop (if q.1 < q.2 then 0 else 1))) = begN rs q from rfl]
      have h1 := ovs_part hs ((quadsN rs).take i)
      have h2 := beg_len hs q
      rw [List.length_take] at h1
      walk_at "evs"
      rw [show lstOf (.lst ((begN rs q).map fun b => ovP (q.1, q.2, b))) = some ((begN rs q).map fun b => ovP (q.1, q.2, b)) from rfl]
      walk_at "evs"
      rw [if_pos (by rw [List.length_map, List.length_map]; show _ ≤ 16777216; omega)]
      walk_at "evs"
      rw [show (((quadsN rs).take (i + 1)).flatMap fun q => (begN rs q).map fun b => (q.1, q.2, b)).map ovP = (((quadsN rs).take i).flatMap fun q => (begN rs q).map fun b => (q.1, q.2, b)).map ovP ++ (begN rs q).map fun b => ovP (q.1, q.2, b) by
        rw [List.take_succ, hc, Option.toList_some, List.flatMap_append, List.map_append, List.flatMap_cons, List.flatMap_nil, List.append_nil, List.map_map]
        rfl]
      exact ⟨_, rfl, _, _, _, _, _, _, _, _, rfl⟩
  · obtain ⟨s2, s3, s4, s5, s6, s7, s9, s10, rfl⟩ := he
    rw [Nat.zero_add, List.length_map, List.take_length]
    walk_at "evt"
    rfl
structure Ovs (G : Tab) : Prop extends StpI G where
  agr : Fn G "agrees" 3 5 agreesB
  ovin : Fn G "overlaps_in" 1 11 ovInB
  win : Fn G "word_in" 2 4 wordInB
  sin : Fn G "sides_in" 2 3 sidesInB
  fov : Fn G "fits_overlap" 2 3 fovB
  nov : Fn G "need_overlap" 2 2 novB
def ovW (rs : List Rl) (o : Ov) : List Nat := lhs rs o.1 ++ (lhs rs o.2.1).drop ((lhs rs o.1).length - o.2.2)
theorem idx_ov0 {o : Ov} : idxV (ovP o) (.int 0) = pure (.int o.1) := idx_tup0 _ _
theorem idx_ov1 {o : Ov} : idxV (ovP o) (.int 1) = pure (.int o.2.1) := idx_tup1 _ _ _
theorem idx_ov2 {o : Ov} : idxV (ovP o) (.int 2) = pure (.int o.2.2) := two_of
local macro_rules | `(tactic| walk_at "evo") => `(tactic| repeat (first | walk_at "evs1" | simp only [idx_sys0, idx_sys1, idx_rule0, idx_rule1, idx_ov0, idx_ov1, idx_ov2, parT]))
theorem word_in {G : Tab} (B : Ovs G) (n : Nat) {k : Nat} {rs : List Rl} {o : Ov} (hs : Sys k rs) (h1 : o.1 < rs.length) (h2 : o.2.1 < rs.length) (h3 : o.2.2 < (lhs rs o.1).length) :
    evalF G (n + 1) "word_in" [sP k rs, ovP o] = pure (.str (ovW rs o)) := by
  rw [B.win.at _ _ rfl]
  unfold wordInB
  walk_at "evo"
  rw [idx_rules (List.getElem?_eq_getElem h1)]
  walk_at "evo"
  rw [idx_rules (List.getElem?_eq_getElem h2)]
  walk_at "evo"
  rw [← lhs_at h1, ← lhs_at h2]
  have l1 := lhs6 hs o.1
  have l2 := lhs6 hs o.2.1
  rw [show ((lhs rs o.1).length : Int) - (o.2.2 : Int) = (((lhs rs o.1).length - o.2.2 : Nat) : Int) by omega, slc_from]
  walk_at "evs"
  rw [add_ss (by rw [List.length_drop]; omega)]
  walk_at "evs"
  rfl
theorem sides_in {G : Tab} (B : Ovs G) (n : Nat) {k : Nat} {rs : List Rl} {o : Ov} (hs : Sys k rs) (h1 : o.1 < rs.length) (h2 : o.2.1 < rs.length) (h3 : o.2.2 < (lhs rs o.1).length) :
    evalF G (n + 2) "sides_in" [sP k rs, ovP o] = pure (.tup [.str (behind rs (ovW rs o) (0, o.1)), .str (behind rs (ovW rs o) (o.2.2, o.2.1))]) := by
  rw [B.sin.at _ _ rfl]
  unfold sidesInB
  walk_at "evo"
  rw [word_in B n hs h1 h2 h3]
  walk_at "evo"
  have l1 := lhs6 hs o.1
  have l2 := lhs6 hs o.2.1
  have lw : (ovW rs o).length ≤ 12 := by
    unfold ovW
    rw [List.length_append, List.length_drop]
    omega
  rw [show PV.tup [.int 0, .int o.1] = prP (0, o.1) from rfl, show PV.tup [.int o.2.2, .int o.2.1] = prP (o.2.2, o.2.1) from rfl]
  rw [behind_in B.toStpC n h1 (by omega) (by have := hs.r6 o.1; show (rhs rs o.1).length ≤ 100; omega), behind_in B.toStpC n h2 (by omega) (by have := hs.r6 o.2.1; show (rhs rs o.2.1).length ≤ 100; omega)]
  walk_at "evs"
theorem ovs_plains : ∀ l : List Ov, plains (l.map ovP) = true
  | [] => rfl
  | o :: l => by
    rw [List.map_cons]
    simp only [plains, ovs_plains l, Bool.and_true]
    rfl
theorem eqv_ovP (a b : Ov) : eqv (ovP a) (ovP b) = decide (a = b) := by
  obtain ⟨a1, a2, a3⟩ := a
  obtain ⟨b1, b2, b3⟩ := b
  unfold ovP
  simp only [eqv, eqvs, Bool.and_true]
  rw [Bool.eq_iff_iff]
  simp
  omega
theorem inM_ov {l : List Ov} {o : Ov} : inM (ovP o) (.lst (l.map ovP)) = pure (decide (o ∈ l)) := by
  show (if (okD (ovP o) && plains (l.map ovP)) = true then pure (isInV (ovP o) (l.map ovP)) else fail : M Bool) = _
  rw [if_pos]
  · congr 1
    unfold isInV
    rw [Bool.eq_iff_iff, List.any_map, List.any_eq_true, decide_eq_true_eq]
    constructor
    · rintro ⟨x, hx, e⟩
      have e : eqv (ovP x) (ovP o) = true := e
      rw [eqv_ovP, decide_eq_true_eq] at e
      exact e ▸ hx
    · intro hr
      exact ⟨o, hr, by show eqv (ovP o) (ovP o) = true; rw [eqv_ovP]; exact decide_eq_true rfl⟩
  · rw [ovs_plains, Bool.and_true]
    rfl
theorem fits_overlap {G : Tab} (B : Ovs G) (n : Nat) {k : Nat} {rs : List Rl} {i j b : Nat} (hs : Sys k rs) (ho : (i, j, b) ∈ ovs rs) :
    evalF G (n + 3) "fits_overlap" [sP k rs, ovP (i, j, b)] = pure (.bl true) := by
  obtain ⟨h1, h2, h3, _, _⟩ := mem_ovs.mp ho
  have m8 := hs.m8
  have l6 := lhs6 hs i
  rw [B.fov.at _ _ rfl]
  unfold fovB
  walk_at "evo"
  rw [show ovP (i, j, b) = .tup [.int i, .int j, .int b] from rfl, is_tuple_of B.tup (n + 1) _ 3 3 (by simp) (by simp)]
  walk_at "evs"
  simp only [flatM]
  walk_at "evs"
  rw [fits_whole B.whole (n + 1) _ 0 8 (by omega) (by omega), fits_whole B.whole (n + 1) _ 0 8 (by omega) (by omega), fits_whole B.whole (n + 1) _ 0 8 (by omega) (by omega)]
  walk_at "evs"
  rw [show allV (.lst [.bl true, .bl true, .bl true]) = pure (.bl true) from rfl]
  walk_at "evs"
  rw [overlaps_in B.ovin B.agr n hs]
  walk_at "evs"
  rw [show PV.tup [.int (i : Int), .int (j : Int), .int (b : Int)] = ovP (i, j, b) from rfl, inM_ov, decide_eq_true ho]
  walk_at "evs"
theorem need_overlap {G : Tab} (B : Ovs G) (n : Nat) {k : Nat} {rs : List Rl} {i j b : Nat} (hs : Sys k rs) (ho : (i, j, b) ∈ ovs rs) :
    evalF G (n + 5) "need_overlap" [sP k rs, ovP (i, j, b)] = pure .non := by
  rw [B.nov.at _ _ rfl]
  unfold novB
  walk_at "evs"
  rw [need_system B.toBase B.nsys n hs]
  walk_at "evs"
  rw [fits_overlap B (n + 1) hs ho]
  walk_at "evs"
theorem is_overlap {G : Tab} (B : Ovs G) (h : Fn G "is_overlap" 2 2 isOvB) (n : Nat) {k : Nat} {rs : List Rl} {i j b : Nat} (hs : Sys k rs) (ho : (i, j, b) ∈ ovs rs) :
    evalF G (n + 5) "is_overlap" [sP k rs, ovP (i, j, b)] = pure (.bl true) := by
  rw [h.at _ _ rfl]
  unfold isOvB
  walk_at "evs"
  rw [need_system B.toBase B.nsys n hs]
  walk_at "evs"
  rw [fits_overlap B (n + 1) hs ho]
  walk_at "evs"
theorem overlap_word {G : Tab} (B : Ovs G) (h : Fn G "overlap_word" 2 2 ovWordB) (n : Nat) {k : Nat} {rs : List Rl} {i j b : Nat} (hs : Sys k rs) (ho : (i, j, b) ∈ ovs rs) :
    evalF G (n + 6) "overlap_word" [sP k rs, ovP (i, j, b)] = pure (.str (ovW rs (i, j, b))) := by
  obtain ⟨h1, h2, h3, _, _⟩ := mem_ovs.mp ho
  rw [h.at _ _ rfl]
  unfold ovWordB
  walk_at "evs"
  rw [need_overlap B n hs ho]
  walk_at "evs"
  rw [word_in B (n + 4) hs h1 h2 h3]
  walk_at "evs"
theorem overlap_sides {G : Tab} (B : Ovs G) (h : Fn G "overlap_sides" 2 2 ovSidesB) (n : Nat) {k : Nat} {rs : List Rl} {i j b : Nat} (hs : Sys k rs) (ho : (i, j, b) ∈ ovs rs) :
    evalF G (n + 6) "overlap_sides" [sP k rs, ovP (i, j, b)] = pure (.tup [.str (behind rs (ovW rs (i, j, b)) (0, i)), .str (behind rs (ovW rs (i, j, b)) (b, j))]) := by
  obtain ⟨h1, h2, h3, _, _⟩ := mem_ovs.mp ho
  rw [h.at _ _ rfl]
  unfold ovSidesB
  walk_at "evs"
  rw [need_overlap B n hs ho]
  walk_at "evs"
  rw [sides_in B (n + 3) hs h1 h2 h3]
  walk_at "evs"
theorem need_done {G : Tab} (B : Ovs G) (hn : Fn G "need_step" 2 2 nstepB) (h : Fn G "need_done" 3 3 ndoneB) (n : Nat) {k : Nat} {rs : List Rl} {w : List Nat} {s : Nat × Nat} (hf : fitS rs s = true) (h2 : s.2 < rs.length) (h3 : at_ (lhs rs s.2) w s.1 = true) :
    evalF G (n + 4) "need_done" [sP k rs, .str w, prP s] = pure .non := by
  rw [h.at _ _ rfl]
  unfold ndoneB
  walk_at "evs"
  rw [need_step B.toStpI hn n hf]
  walk_at "evs"
  rw [can_in B.toStpC (n + 2) h2, h3]
  walk_at "evs"
/-- how two steps meet -/
def metN (rs : List Rl) (s t : Nat × Nat) : PV := if t.1 - s.1 < (lhs rs s.2).length then ovP (s.2, t.2, t.1 - s.1) else .non
theorem overlap_met {G : Tab} (B : Ovs G) (hn : Fn G "need_step" 2 2 nstepB) (hd : Fn G "need_done" 3 3 ndoneB) (h : Fn G "overlap_met" 4 7 ovMetB) (n : Nat) {k : Nat} {rs : List Rl} {w : List Nat} {s t u v : Nat × Nat} (hs : Sys k rs) (hw : Wrd k w) (h60 : w.length ≤ 60) (hm : s ∈ steps rs w) (ht : t ∈ steps rs w) (hl : leN s t) (hne : s ≠ t) (huv : (u = s ∧ v = t) ∨ (u = t ∧ v = s)) :
    evalF G (n + 6) "overlap_met" [sP k rs, .str w, prP u, prP v] = pure (metN rs s t) := by
  obtain ⟨p1, p2, p3⟩ := mem_steps.mp hm
  obtain ⟨q1, q2, q3⟩ := mem_steps.mp ht
  have fs : fitS rs s = true := by unfold fitS; simp only [Bool.and_eq_true, decide_eq_true_eq]; omega
  have ft : fitS rs t = true := by unfold fitS; simp only [Bool.and_eq_true, decide_eq_true_eq]; omega
  have perm : [u, v].Perm [s, t] := by
    rcases huv with ⟨rfl, rfl⟩ | ⟨rfl, rfl⟩
    · exact List.Perm.refl _
    · exact List.Perm.swap _ _ _
  have srt := sort_prs perm (ts := [s, t]) (by simp [hl])
  have nuv : eqM (prP u) (prP v) = pure false := by
    show (if (okD (prP u) && okD (prP v)) = true then pure (eqv (prP u) (prP v)) else fail : M Bool) = _
    rw [if_pos (by rfl), eqv_prP]
    congr 1
    refine decide_eq_false ?_
    rcases huv with ⟨rfl, rfl⟩ | ⟨rfl, rfl⟩
    · exact hne
    · exact fun e => hne e.symm
  have du : ∀ x, x = s ∨ x = t → evalF G (n + 5) "need_done" [sP k rs, .str w, prP x] = pure .non := by
    rintro x (rfl | rfl)
    · exact need_done B hn hd (n + 1) fs p2 p3
    · exact need_done B hn hd (n + 1) ft q2 q3
  rw [h.at _ _ rfl]
  unfold ovMetB
  walk_at "evs"
  rw [need_both B.toBase B.nboth B.nsys B.nword n hs hw h60]
  walk_at "evs"
  rw [du u (by rcases huv with ⟨rfl, rfl⟩ | ⟨rfl, rfl⟩ <;> simp)]
  walk_at "evs"
  rw [du v (by rcases huv with ⟨rfl, rfl⟩ | ⟨rfl, rfl⟩ <;> simp)]
  walk_at "evs"
  rw [nuv]
  walk_at "evs"
  rw [show PV.lst [prP u, prP v] = PV.lst ([u, v].map prP) from rfl, srt]
  walk_at "evs"
  rw [show ∀ e : Ev, asgT (CT.tup [CT.nm 4, CT.nm 5]) (.lst [prP s, prP t]) e = pure ((e.set 4 (.val (prP s))).set 5 (.val (prP t))) from fun _ => rfl]
  walk_at "evt"
  rw [idx_rules (List.getElem?_eq_getElem p2)]
  walk_at "evt"
  rw [← lhs_at p2]
  have hle : s.1 ≤ t.1 := by unfold leN at hl; omega
  unfold metN
  by_cases hc : t.1 - s.1 < (lhs rs s.2).length
  · rw [if_pos hc, decide_eq_true (show (t.1 : Int) - (s.1 : Int) < ((lhs rs s.2).length : Int) by omega)]
    walk_at "evs"
    rw [show (t.1 : Int) - (s.1 : Int) = ((t.1 - s.1 : Nat) : Int) by omega]
    rfl
  · rw [if_neg hc, decide_eq_false (show ¬ (t.1 : Int) - (s.1 : Int) < ((lhs rs s.2).length : Int) by omega)]
    walk_at "evs"
/-! ### steps within a part of a word -/
theorem behind_within {rs : List Rl} {A W C : List Nat} {p i : Nat} (h : p + (lhs rs i).length ≤ W.length) : behind rs (A ++ W ++ C) (A.length + p, i) = A ++ behind rs W (p, i) ++ C := by
  unfold behind
  dsimp only
  rw [List.append_assoc A W C, List.take_length_add_append, List.take_append_of_le_length (by omega), Nat.add_assoc, List.drop_length_add_append, List.drop_append_of_le_length (by omega)]
  simp only [List.append_assoc]
theorem at_take {p w : List Nat} {k : Nat} (h : at_ p w k = true) : (w.drop k).take p.length = p := by
  unfold at_ at h
  exact eq_of_beq h
theorem agN_of {w u v : List Nat} {a b : Nat} (h1 : at_ u w a = true) (h2 : at_ v w (a + b) = true) : agN u v b = true := by
  have e1 := at_take h1
  have e2 := at_take h2
  unfold agN
  rw [List.all_eq_true]
  intro p hp
  obtain ⟨i, hi, rfl⟩ := List.mem_iff_getElem.mp hp
  rw [List.length_zip, List.length_drop] at hi
  rw [List.getElem_zip, beq_iff_eq]
  dsimp only
  rw [List.getElem_drop]
  have f1 : u[b + i]? = w[a + (b + i)]? := by
    rw [← e1, List.getElem?_take_of_lt (by omega), List.getElem?_drop]
  have f2 : v[i]? = w[a + b + i]? := by
    rw [← e2, List.getElem?_take_of_lt (by omega), List.getElem?_drop]
  rw [List.getElem?_eq_getElem (by omega)] at f1 f2
  rw [show a + b + i = a + (b + i) by omega, ← f1] at f2
  exact (Option.some.inj f2).symm
/-- the word that two overlapping steps lie in -/
theorem ov_cut {rs : List Rl} {w : List Nat} {s t : Nat × Nat} (h1 : at_ (lhs rs s.2) w s.1 = true) (h2 : at_ (lhs rs t.2) w t.1 = true) (hle : s.1 ≤ t.1) (hd : t.1 - s.1 < (lhs rs s.2).length) :
    w = w.take s.1 ++ ovW rs (s.2, t.2, t.1 - s.1) ++ w.drop (s.1 + (ovW rs (s.2, t.2, t.1 - s.1)).length) := by
  have c1 := at_cut h1
  have e2 := at_take h2
  suffices hs : (w.drop s.1).take (ovW rs (s.2, t.2, t.1 - s.1)).length = ovW rs (s.2, t.2, t.1 - s.1) by
    have := at_cut (p := ovW rs (s.2, t.2, t.1 - s.1)) (w := w) (k := s.1) (by unfold at_; rw [hs]; exact beq_self_eq_true _)
    exact this
  unfold ovW
  dsimp only
  rw [List.length_append, List.take_add, at_take h1, List.drop_drop]
  congr 1
  rw [List.length_drop]
  have q := congrArg (List.drop ((lhs rs s.2).length - (t.1 - s.1))) e2
  rw [List.drop_take, List.drop_drop, show t.1 + ((lhs rs s.2).length - (t.1 - s.1)) = s.1 + (lhs rs s.2).length by omega] at q
  exact q
theorem beh_at {rs : List Rl} {X Y : List Nat} {i p : Nat} (hp : p = X.length) : behind rs (X ++ lhs rs i ++ Y) (p, i) = X ++ rhs rs i ++ Y := by
  subst hp
  unfold behind
  dsimp only
  rw [List.append_assoc X, List.take_left' rfl, List.drop_length_add_append, List.drop_left' rfl]
theorem at_at {p X Y : List Nat} {k : Nat} (hk : k = X.length) : at_ p (X ++ p ++ Y) k = true := by
  subst hk
  unfold at_
  rw [List.append_assoc, List.drop_left' rfl, List.take_left' rfl]
  exact beq_self_eq_true _
theorem apart {rs : List Rl} {w : List Nat} {s t : Nat × Nat} (p1 : s.1 < w.length) (q1 : t.1 < w.length) (h1 : at_ (lhs rs s.2) w s.1 = true) (h2 : at_ (lhs rs t.2) w t.1 = true) (hd : s.1 + (lhs rs s.2).length ≤ t.1) :
    at_ (lhs rs t.2) (behind rs w s) (t.1 + (rhs rs s.2).length - (lhs rs s.2).length) = true ∧ at_ (lhs rs s.2) (behind rs w t) s.1 = true ∧ behind rs (behind rs w s) (t.1 + (rhs rs s.2).length - (lhs rs s.2).length, t.2) = behind rs (behind rs w t) s := by
  obtain ⟨s1, i⟩ := s
  obtain ⟨t1, j⟩ := t
  dsimp only at *
  have c2 := at_cut h2
  have l2 : (w.take t1).length = t1 := by rw [List.length_take]; omega
  have h3 : at_ (lhs rs i) (w.take t1) s1 = true := by
    have q := at_take h1
    unfold at_
    rw [List.drop_take, List.take_take, Nat.min_eq_left (by omega), q]
    exact beq_self_eq_true _
  have c3 := at_cut h3
  generalize hA : (w.take t1).take s1 = A at c3
  generalize hM : (w.take t1).drop (s1 + (lhs rs i).length) = M at c3
  generalize w.drop (t1 + (lhs rs j).length) = C at c2
  have lA : s1 = A.length := by rw [← hA, List.length_take]; omega
  have lM : t1 = A.length + (lhs rs i).length + M.length := by
    have q := congrArg List.length c3
    rw [List.length_append, List.length_append, l2] at q
    exact q
  rw [c3] at c2
  have b1 : behind rs w (s1, i) = (A ++ rhs rs i ++ M) ++ lhs rs j ++ C := by
    rw [c2, show A ++ lhs rs i ++ M ++ lhs rs j ++ C = A ++ lhs rs i ++ (M ++ lhs rs j ++ C) by simp only [List.append_assoc], beh_at lA]
    simp only [List.append_assoc]
  have b2 : behind rs w (t1, j) = A ++ lhs rs i ++ (M ++ rhs rs j ++ C) := by
    rw [c2, beh_at (by rw [List.length_append, List.length_append]; omega)]
    simp only [List.append_assoc]
  rw [b1, b2]
  refine ⟨at_at ?_, at_at lA, ?_⟩
  · rw [List.length_append, List.length_append]
    omega
  · rw [beh_at lA, beh_at (by rw [List.length_append, List.length_append]; omega)]
    simp only [List.append_assoc]
theorem wrd_behind {k : Nat} {rs : List Rl} {w : List Nat} {s : Nat × Nat} (hs : Sys k rs) (hw : Wrd k w) (p2 : s.2 < rs.length) : Wrd k (behind rs w s) := by
  have ok := hs.ok _ (List.getElem_mem p2)
  unfold behind
  rw [rhs_at p2]
  intro c hc
  rcases List.mem_append.mp hc with hc | hc
  · rcases List.mem_append.mp hc with hc | hc
    · exact hw c (List.mem_of_mem_take hc)
    · exact ok.wr c hc
  · exact hw c (List.mem_of_mem_drop hc)
structure OvL (G : Tab) : Prop extends Ovs G where
  nst : Fn G "need_step" 2 2 nstepB
  ndo : Fn G "need_done" 3 3 ndoneB
  met : Fn G "overlap_met" 4 7 ovMetB
  wbe : Fn G "word_behind" 3 3 wordBehB
  iov : Fn G "is_overlap" 2 2 isOvB
  owo : Fn G "overlap_word" 2 2 ovWordB
  osi : Fn G "overlap_sides" 2 2 ovSidesB
  same : Fn G "_law_same" 2 3 sameB
theorem pair_right {G : Tab} (B : OvL G) (h : Fn G "_law_pair_right" 4 17 pairB) (n : Nat) {k : Nat} {rs : List Rl} {w : List Nat} {s t : Nat × Nat} (hs : Sys k rs) (hw : Wrd k w) (h9 : w.length ≤ 9) (hm : s ∈ steps rs w) (ht : t ∈ steps rs w) (hl : leN s t) (hne : s ≠ t) :
    evalF G (n + 7) "_law_pair_right" [sP k rs, .str w, prP s, prP t] = pure (.bl true) := by
  obtain ⟨p1, p2, p3⟩ := mem_steps.mp hm
  obtain ⟨q1, q2, q3⟩ := mem_steps.mp ht
  have hle : s.1 ≤ t.1 := by unfold leN at hl; omega
  have fs : fitS rs s = true := by unfold fitS; simp only [Bool.and_eq_true, decide_eq_true_eq]; omega
  have ft : fitS rs t = true := by unfold fitS; simp only [Bool.and_eq_true, decide_eq_true_eq]; omega
  have l6 := lhs6 hs s.2
  have r6 := hs.r6 s.2
  have bs := behind_len (rs := rs) (w := w) (s := s) (hs.r6 s.2)
  have bt := behind_len (rs := rs) (w := w) (s := t) (hs.r6 t.2)
  rw [h.at _ _ rfl]
  unfold pairB
  walk_at "evt"
  rw [idx_rules (List.getElem?_eq_getElem p2)]
  walk_at "evt"
  rw [← lhs_at p2]
  walk_at "evt"
  rw [overlap_met B.toOvs B.nst B.ndo B.met n hs hw (by omega) hm ht hl hne (.inl ⟨rfl, rfl⟩), overlap_met B.toOvs B.nst B.ndo B.met n hs hw (by omega) hm ht hl hne (.inr ⟨rfl, rfl⟩)]
  walk_at "evt"
  by_cases hd : s.1 + (lhs rs s.2).length ≤ t.1
  · obtain ⟨a1, a2, a3⟩ := apart p1 q1 p3 q3 hd
    have hmet : metN rs s t = .non := if_neg (by omega)
    rw [hmet, decide_eq_true (show ((lhs rs s.2).length : Int) ≤ (t.1 : Int) - (s.1 : Int) by omega)]
    walk_at "evt"
    rw [← rhs_at p2, show (t.1 : Int) + ((rhs rs s.2).length : Int) - ((lhs rs s.2).length : Int) = ((t.1 + (rhs rs s.2).length - (lhs rs s.2).length : Nat) : Int) by omega]
    have f8 : fitS rs (t.1 + (rhs rs s.2).length - (lhs rs s.2).length, t.2) = true := by unfold fitS; simp only [Bool.and_eq_true, decide_eq_true_eq]; omega
    rw [word_behind B.toStpI B.wbe B.nst n hs hw (by omega) fs, if_pos p3]
    walk_at "evs"
    rw [show ∀ a b : Nat, PV.tup [.int a, .int b] = prP (a, b) from fun _ _ => rfl]
    rw [word_behind B.toStpI B.wbe B.nst n hs (wrd_behind hs hw p2) (by omega) f8, if_pos a1]
    walk_at "evs"
    rw [word_behind B.toStpI B.wbe B.nst n hs hw (by omega) ft, if_pos q3]
    walk_at "evs"
    rw [word_behind B.toStpI B.wbe B.nst n hs (wrd_behind hs hw q2) (by omega) fs, if_pos a2]
    walk_at "evs"
    rw [a3, law_same B.same (n + 5) _ rfl]
    walk_at "evs"
  · have hmet : metN rs s t = ovP (s.2, t.2, t.1 - s.1) := if_pos (by omega)
    rw [hmet, decide_eq_false (show ¬ ((lhs rs s.2).length : Int) ≤ (t.1 : Int) - (s.1 : Int) by omega)]
    walk_at "evt"
    have ho : (s.2, t.2, t.1 - s.1) ∈ ovs rs := by
      refine mem_ovs.mpr ⟨p2, q2, by omega, ?_, agN_of p3 (by rw [show s.1 + (t.1 - s.1) = t.1 by omega]; exact q3)⟩
      rcases hl with h1 | ⟨h1, h2⟩
      · exact .inr (by omega)
      · refine .inl (Nat.lt_of_le_of_ne h2 fun e => hne ?_)
        exact Prod.ext h1 e
    rw [show PV.tup [.int (s.2 : Int), .int (t.2 : Int), .int ((t.1 : Int) - (s.1 : Int))] = ovP (s.2, t.2, t.1 - s.1) by
      unfold ovP
      rw [show (t.1 : Int) - (s.1 : Int) = ((t.1 - s.1 : Nat) : Int) by omega]]
    rw [is_overlap B.toOvs B.iov (n + 1) hs ho]
    walk_at "evs"
    rw [law_same B.same (n + 5) _ rfl]
    walk_at "evt"
    rw [overlap_word B.toOvs B.owo n hs ho]
    walk_at "evt"
    have c := ov_cut p3 q3 hle (by omega)
    have l6t := lhs6 hs t.2
    have lW : (ovW rs (s.2, t.2, t.1 - s.1)).length = (lhs rs s.2).length + ((lhs rs t.2).length - ((lhs rs s.2).length - (t.1 - s.1))) := by
      unfold ovW
      rw [List.length_append, List.length_drop]
    have lA : (w.take s.1).length = s.1 := by rw [List.length_take]; omega
    have b1 := behind_within (rs := rs) (A := w.take s.1) (W := ovW rs (s.2, t.2, t.1 - s.1)) (C := w.drop (s.1 + (ovW rs (s.2, t.2, t.1 - s.1)).length)) (p := 0) (i := s.2) (by omega)
    have b2 := behind_within (rs := rs) (A := w.take s.1) (W := ovW rs (s.2, t.2, t.1 - s.1)) (C := w.drop (s.1 + (ovW rs (s.2, t.2, t.1 - s.1)).length)) (p := t.1 - s.1) (i := t.2) (by omega)
    rw [← c, lA] at b1 b2
    rw [show s.1 + 0 = s.1 from rfl] at b1
    rw [show s.1 + (t.1 - s.1) = t.1 by omega] at b2
    have l1 := behind_len (rs := rs) (w := ovW rs (s.2, t.2, t.1 - s.1)) (s := (0, s.2)) (hs.r6 s.2)
    have l2 := behind_len (rs := rs) (w := ovW rs (s.2, t.2, t.1 - s.1)) (s := (t.1 - s.1, t.2)) (hs.r6 t.2)
    have lC : (w.drop (s.1 + (ovW rs (s.2, t.2, t.1 - s.1)).length)).length ≤ 9 := by rw [List.length_drop]; omega
    have os := overlap_sides B.toOvs B.osi n hs ho
    rw [show (s.1 : Int) + ((ovW rs (s.2, t.2, t.1 - s.1)).length : Int) = ((s.1 + (ovW rs (s.2, t.2, t.1 - s.1)).length : Nat) : Int) by omega, slc_from]
    walk_at "evs"
    generalize hA : w.take s.1 = A at *
    generalize hC : w.drop (s.1 + (ovW rs (s.2, t.2, t.1 - s.1)).length) = C at *
    rw [add_ss (by omega)]
    walk_at "evs"
    rw [add_ss (by rw [List.length_append]; omega)]
    walk_at "evs"
    rw [← c, eqM_str, beq_self_eq_true]
    walk_at "evs"
    rw [os]
    walk_at "evs"
    simp only [flatM]
    walk_at "evs"
    rw [add_ss (by omega), add_ss (a := A) (b := behind rs (ovW rs (s.2, t.2, t.1 - s.1)) (t.1 - s.1, t.2)) (by omega)]
    walk_at "evs"
    rw [add_ss (by rw [List.length_append]; omega), add_ss (a := A ++ behind rs (ovW rs (s.2, t.2, t.1 - s.1)) (t.1 - s.1, t.2)) (by rw [List.length_append]; omega)]
    walk_at "evs"
    rw [word_behind B.toStpI B.wbe B.nst n hs hw (by omega) fs, if_pos p3, word_behind B.toStpI B.wbe B.nst n hs hw (by omega) ft, if_pos q3]
    walk_at "evs"
    rw [show behind rs w s = _ from b1, show behind rs w t = _ from b2, law_same B.same (n + 5) _ rfl]
    walk_at "evs"
end EV

set_option Elab.async false
set_option linter.all false
set_option maxRecDepth 100000
set_option maxHeartbeats 0
namespace HT
open PySem PySem.Spec PyProof.Rows L2 EV
def top (i : Nat) : Stmt := PySem.Challenge.pw_wordsrest_k29_whole_steps_apart_and_over.main.body.getD i (.Pass ⟨0, 0, 0, 0⟩)
def funs : List Str := (["is_tuple_of", "fits_whole", "fits_letters", "fits_rule", "fits_system", "places_in", "need_system", "need_word", "need_both", "steps_in", "behind_in", "can_in", "fits_step", "need_step", "steps_of", "word_behind", "agrees", "overlaps_in", "word_in", "sides_in", "fits_overlap", "need_overlap", "need_done", "is_overlap", "overlap_word"] : List Str) ++ (["overlap_sides", "overlap_met", "_law_roll", "_law_some", "_law_same", "_law_word", "_law_system", "_law_steps", "_law_pair_right"] : List Str)
def consts : List (Str × PV) := [("LETTERS", .str [97, 98, 99, 100]), ("SIZE", .int 0), ("RULES", .int 1), ("MOST_RULES", .int 8), ("SIDE", .int 6), ("LONG", .int 60), ("PLACE", .int 0), ("RULE", .int 1), ("ONE", .int 0), ("OTHER", .int 1), ("BEGIN", .int 2)]
def glb : Glb := ⟨funs, consts⟩
def N13 : List Str := (["value", "low", "high"] : List Str)
def N14 : List Str := (["value", "low", "high"] : List Str)
def N15 : List Str := (["value", "size", "low", "high", "letter"] : List Str)
def N16 : List Str := (["size", "value"] : List Str)
def N17 : List Str := (["value", "size", "rules", "rule"] : List Str)
def N18 : List Str := (["part", "word", "at"] : List Str)
def N19 : List Str := (["value"] : List Str)
def N20 : List Str := (["system", "value"] : List Str)
def N21 : List Str := (["system", "word"] : List Str)
def N25 : List Str := (["system", "word", "rows", "number", "left", "right", "place"] : List Str)
def N26 : List Str := (["system", "word", "step", "left", "right"] : List Str)
def N27 : List Str := (["system", "word", "step", "left"] : List Str)
def N28 : List Str := (["system", "value"] : List Str)
def N29 : List Str := (["system", "value"] : List Str)
def N30 : List Str := (["system", "word"] : List Str)
def N31 : List Str := (["system", "word", "step"] : List Str)
def N36 : List Str := (["left", "other", "place", "one", "two"] : List Str)
def N37 : List Str := (["system", "rows", "one", "left", "right", "other", "there", "back", "found", "begin", "place"] : List Str)
def N38 : List Str := (["system", "overlap", "left", "other"] : List Str)
def N39 : List Str := (["system", "overlap", "word"] : List Str)
def N40 : List Str := (["system", "value", "own"] : List Str)
def N41 : List Str := (["system", "value"] : List Str)
def N42 : List Str := (["system", "word", "step"] : List Str)
def N43 : List Str := (["system", "value"] : List Str)
def N44 : List Str := (["system", "overlap"] : List Str)
def N45 : List Str := (["system", "overlap"] : List Str)
def N46 : List Str := (["system", "word", "one", "other", "first", "second", "gap"] : List Str)
def N48 : List Str := (["script", "cell"] : List Str)
def N49 : List Str := (["cup", "many", "found", "deep"] : List Str)
def N50 : List Str := (["cup", "things"] : List Str)
def N51 : List Str := (["told", "due", "at"] : List Str)
def N52 : List Str := (["cup", "size", "many", "turn"] : List Str)
def N53 : List Str := (["cup", "samples", "size", "rules", "way", "turn", "left", "right"] : List Str)
def N54 : List Str := (["system", "word", "found", "place", "at"] : List Str)
def N55 : List Str := (["system", "word", "one", "other", "left", "told", "back", "gap", "later", "here", "there", "overlap", "begin", "own", "rest", "sides", "side"] : List Str)
def N56 : List Str := (["script", "cup", "turn", "system", "word", "steps", "at", "one", "other", "turns", "both", "told"] : List Str)
def d13 : He.DefD := ⟨("is_tuple_of", none), "is_tuple_of", "is_tuple_of", defArgs (top 13), defBody (top 13), defScope (top 13), [], []⟩
def d14 : He.DefD := ⟨("fits_whole", none), "fits_whole", "fits_whole", defArgs (top 14), defBody (top 14), defScope (top 14), [], []⟩
def d15 : He.DefD := ⟨("fits_letters", none), "fits_letters", "fits_letters", defArgs (top 15), defBody (top 15), defScope (top 15), [], []⟩
def d16 : He.DefD := ⟨("fits_rule", none), "fits_rule", "fits_rule", defArgs (top 16), defBody (top 16), defScope (top 16), [], []⟩
def d17 : He.DefD := ⟨("fits_system", none), "fits_system", "fits_system", defArgs (top 17), defBody (top 17), defScope (top 17), [], []⟩
def d18 : He.DefD := ⟨("places_in", none), "places_in", "places_in", defArgs (top 18), defBody (top 18), defScope (top 18), [], []⟩
def d19 : He.DefD := ⟨("need_system", none), "need_system", "need_system", defArgs (top 19), defBody (top 19), defScope (top 19), [], []⟩
def d20 : He.DefD := ⟨("need_word", none), "need_word", "need_word", defArgs (top 20), defBody (top 20), defScope (top 20), [], []⟩
def d21 : He.DefD := ⟨("need_both", none), "need_both", "need_both", defArgs (top 21), defBody (top 21), defScope (top 21), [], []⟩
def d25 : He.DefD := ⟨("steps_in", none), "steps_in", "steps_in", defArgs (top 25), defBody (top 25), defScope (top 25), [], []⟩
def d26 : He.DefD := ⟨("behind_in", none), "behind_in", "behind_in", defArgs (top 26), defBody (top 26), defScope (top 26), [], []⟩
def d27 : He.DefD := ⟨("can_in", none), "can_in", "can_in", defArgs (top 27), defBody (top 27), defScope (top 27), [], []⟩
def d28 : He.DefD := ⟨("fits_step", none), "fits_step", "fits_step", defArgs (top 28), defBody (top 28), defScope (top 28), [], []⟩
def d29 : He.DefD := ⟨("need_step", none), "need_step", "need_step", defArgs (top 29), defBody (top 29), defScope (top 29), [], []⟩
def d30 : He.DefD := ⟨("steps_of", none), "steps_of", "steps_of", defArgs (top 30), defBody (top 30), defScope (top 30), [], []⟩
def d31 : He.DefD := ⟨("word_behind", none), "word_behind", "word_behind", defArgs (top 31), defBody (top 31), defScope (top 31), [], []⟩
def d36 : He.DefD := ⟨("agrees", none), "agrees", "agrees", defArgs (top 36), defBody (top 36), defScope (top 36), [], []⟩
def d37 : He.DefD := ⟨("overlaps_in", none), "overlaps_in", "overlaps_in", defArgs (top 37), defBody (top 37), defScope (top 37), [], []⟩
def d38 : He.DefD := ⟨("word_in", none), "word_in", "word_in", defArgs (top 38), defBody (top 38), defScope (top 38), [], []⟩
def d39 : He.DefD := ⟨("sides_in", none), "sides_in", "sides_in", defArgs (top 39), defBody (top 39), defScope (top 39), [], []⟩
def d40 : He.DefD := ⟨("fits_overlap", none), "fits_overlap", "fits_overlap", defArgs (top 40), defBody (top 40), defScope (top 40), [], []⟩
def d41 : He.DefD := ⟨("need_overlap", none), "need_overlap", "need_overlap", defArgs (top 41), defBody (top 41), defScope (top 41), [], []⟩
def d42 : He.DefD := ⟨("need_done", none), "need_done", "need_done", defArgs (top 42), defBody (top 42), defScope (top 42), [], []⟩
def d43 : He.DefD := ⟨("is_overlap", none), "is_overlap", "is_overlap", defArgs (top 43), defBody (top 43), defScope (top 43), [], []⟩
def d44 : He.DefD := ⟨("overlap_word", none), "overlap_word", "overlap_word", defArgs (top 44), defBody (top 44), defScope (top 44), [], []⟩
def d45 : He.DefD := ⟨("overlap_sides", none), "overlap_sides", "overlap_sides", defArgs (top 45), defBody (top 45), defScope (top 45), [], []⟩
def d46 : He.DefD := ⟨("overlap_met", none), "overlap_met", "overlap_met", defArgs (top 46), defBody (top 46), defScope (top 46), [], []⟩
def d48 : He.DefD := ⟨("_law_cup", none), "_law_cup", "_law_cup", defArgs (top 48), defBody (top 48), defScope (top 48), [], []⟩
def d49 : He.DefD := ⟨("_law_roll", none), "_law_roll", "_law_roll", defArgs (top 49), defBody (top 49), defScope (top 49), [], []⟩
def d50 : He.DefD := ⟨("_law_some", none), "_law_some", "_law_some", defArgs (top 50), defBody (top 50), defScope (top 50), [], []⟩
def d51 : He.DefD := ⟨("_law_same", none), "_law_same", "_law_same", defArgs (top 51), defBody (top 51), defScope (top 51), [], []⟩
def d52 : He.DefD := ⟨("_law_word", none), "_law_word", "_law_word", defArgs (top 52), defBody (top 52), defScope (top 52), [], []⟩
def d53 : He.DefD := ⟨("_law_system", none), "_law_system", "_law_system", defArgs (top 53), defBody (top 53), defScope (top 53), [], []⟩
def d54 : He.DefD := ⟨("_law_steps", none), "_law_steps", "_law_steps", defArgs (top 54), defBody (top 54), defScope (top 54), [], []⟩
def d55 : He.DefD := ⟨("_law_pair_right", none), "_law_pair_right", "_law_pair_right", defArgs (top 55), defBody (top 55), defScope (top 55), [], []⟩
def d56 : He.DefD := ⟨("law", none), "law", "law", defArgs (top 56), defBody (top 56), defScope (top 56), [], []⟩
def fn : List He.DefD := [d13, d14, d15, d16, d17, d18, d19, d20, d21, d25, d26, d27, d28, d29, d30, d31, d36, d37, d38, d39, d40, d41, d42, d43, d44, d45, d46, d48, d49, d50, d51, d52, d53, d54, d55, d56]
def fa0 : List He.Fa := [.glo "is_tuple_of", .glo "fits_whole", .glo "fits_letters", .glo "fits_rule", .glo "fits_system", .glo "places_in", .glo "need_system", .glo "need_word", .glo "need_both", .glo "steps_in", .glo "behind_in", .glo "can_in", .glo "fits_step", .glo "need_step", .glo "steps_of", .glo "word_behind", .glo "agrees", .glo "overlaps_in", .glo "word_in", .glo "sides_in", .glo "fits_overlap", .glo "need_overlap", .glo "need_done", .glo "is_overlap", .glo "overlap_word"]
def fa1 : List He.Fa := [.glo "overlap_sides", .glo "overlap_met", .glo "_law_cup", .glo "_law_roll", .glo "_law_some", .glo "_law_same", .glo "_law_word", .glo "_law_system", .glo "_law_steps", .glo "_law_pair_right", .glo "law", .free "len", .free "all", .free "any", .free "sum", .free "int", .free "str", .free "abs", .free "tuple", .free "list", .free "min", .free "max", .free "bool", .free "isinstance", .free "range"]
def fa2 : List He.Fa := [.free "enumerate", .free "zip", .free "set", .free "sorted"]
def fa : List He.Fa := fa0 ++ fa1 ++ fa2
def nm0 : List Str := ["RestError", "InvalidSystem", "InvalidWord", "InvalidStep", "InvalidPlan", "LETTERS", "SIZE", "RULES", "MOST_RULES", "SIDE", "LONG", "is_tuple_of", "fits_whole", "fits_letters", "fits_rule", "fits_system", "places_in", "need_system", "need_word", "need_both", "PLACE", "RULE", "steps_in", "behind_in", "can_in"]
def nm1 : List Str := ["fits_step", "need_step", "steps_of", "word_behind", "ONE", "OTHER", "BEGIN", "agrees", "overlaps_in", "word_in", "sides_in", "fits_overlap", "need_overlap", "need_done", "is_overlap", "overlap_word", "overlap_sides", "overlap_met", "_law_cup", "_law_roll", "_law_some", "_law_same", "_law_word", "_law_system", "_law_steps"]
def nm2 : List Str := ["_law_pair_right"]
def nms : List Str := nm0 ++ nm1 ++ nm2
abbrev R : PySem.W.OpenRow := PySem.W.OpenLaw.row PySem.Challenge.rw_wordsrest_k29_whole_steps_apart_and_over
abbrev hk : PySem.W.Hook := EV.hookT 4 consts fa fn
def ob (s : PySem.W.SharedT) : EV.AlT := EV.obsT 4 consts fa fn (HandSHeadRun.getT s)
theorem ob_eq (s : PySem.W.SharedT) : ob s = hk.obs s.abs := EV.obsT_eq (HandSHeadRun.getT_eq s)
theorem run (w : World) : HandSHeadRun.RunEq R (PySem.W.view R.prog [56]) hk ob 4000 nms w := by
  intro os
  kernel_rfl
def b13 : List CS := [.ret (.and (.isi (.peek 0) .tuple) (.cmp2 .le .le (.peek 1) (.blt .len [(.peek 0)]) (.peek 2)))]
theorem t13 : trF glb 3 N13 (defScope (top 13)) (defBody (top 13)) = some ⟨3, N13, b13⟩ := by kernel_rfl
def b14 : List CS := [.ret (.and (.isi (.peek 0) .int) (.and (.not (.isi (.peek 0) .bool)) (.cmp2 .le .le (.peek 1) (.peek 0) (.peek 2))))]
theorem t14 : trF glb 3 N14 (defScope (top 14)) (defBody (top 14)) = some ⟨3, N14, b14⟩ := by kernel_rfl
def b15 : List CS := [.ret (.and (.isi (.peek 0) .str) (.and (.cmp2 .le .le (.peek 2) (.blt .len [(.peek 0)]) (.peek 3)) (.blt .all [(.comp (.cmp .isin (.peek 4) (.slc (.glb "LETTERS" (.str [97, 98, 99, 100])) none (some (.peek 1)))) [4] (.mk (.nm 4) (.seq (.peek 0)) []) [])])))]
theorem t15 : trF glb 4 N15 (defScope (top 15)) (defBody (top 15)) = some ⟨4, N15, b15⟩ := by kernel_rfl
def b16 : List CS := [.ifs (.or (.not (.call "is_tuple_of" [(.var 1), (.cst (.int 2)), (.cst (.int 2))])) (.not (.call "fits_letters" [(.idx (.peek 1) (.cst (.int 0))), (.var 0), (.cst (.int 1)), (.glb "SIDE" (.int 6))]))) [.ret (.cst (.bl false))] [],
  .ret (.and (.call "fits_letters" [(.idx (.peek 1) (.cst (.int 1))), (.var 0), (.cst (.int 0)), (.glb "SIDE" (.int 6))]) (.cmp .ne (.idx (.peek 1) (.cst (.int 0))) (.idx (.peek 1) (.cst (.int 1)))))]
theorem t16 : trF glb 2 N16 (defScope (top 16)) (defBody (top 16)) = some ⟨2, N16, b16⟩ := by kernel_rfl
def b17 : List CS := [.ifs (.or (.not (.call "is_tuple_of" [(.var 0), (.cst (.int 2)), (.cst (.int 2))])) (.not (.call "fits_whole" [(.idx (.peek 0) (.glb "SIZE" (.int 0))), (.cst (.int 1)), (.blt .len [(.glb "LETTERS" (.str [97, 98, 99, 100]))])]))) [.ret (.cst (.bl false))] [],
  .asg (.tup [(.nm 1), (.nm 2)]) (.var 0),
  .ifs (.or (.not (.call "is_tuple_of" [(.var 2), (.cst (.int 1)), (.glb "MOST_RULES" (.int 8))])) (.not (.blt .all [(.comp (.call "fits_rule" [(.var 1), (.var 3)]) [3] (.mk (.nm 3) (.seq (.peek 2)) []) [])]))) [.ret (.cst (.bl false))] [],
  .ret (.cmp .eq (.blt .lenset [(.peek 2)]) (.blt .len [(.peek 2)]))]
theorem t17 : trF glb 1 N17 (defScope (top 17)) (defBody (top 17)) = some ⟨1, N17, b17⟩ := by kernel_rfl
def b18 : List CS := [.ret (.comp (.var 2) [2] (.mk (.nm 2) (.rng [(.bin .add (.bin .sub (.blt .len [(.peek 1)]) (.blt .len [(.peek 0)])) (.cst (.int 1)))]) [(.cmp .eq (.slc (.peek 1) (some (.peek 2)) (some (.bin .add (.peek 2) (.blt .len [(.peek 0)])))) (.peek 0))]) [])]
theorem t18 : trF glb 2 N18 (defScope (top 18)) (defBody (top 18)) = some ⟨2, N18, b18⟩ := by kernel_rfl
def b19 : List CS := [.ifs (.not (.call "fits_system" [(.var 0)])) [.raise "InvalidSystem" [(.cst (.str [110, 111, 116, 32, 97, 32, 115, 121, 115, 116, 101, 109]))]] []]
theorem t19 : trF glb 1 N19 (defScope (top 19)) (defBody (top 19)) = some ⟨1, N19, b19⟩ := by kernel_rfl
def b20 : List CS := [.ifs (.not (.call "fits_letters" [(.var 1), (.idx (.peek 0) (.glb "SIZE" (.int 0))), (.cst (.int 0)), (.glb "LONG" (.int 60))])) [.raise "InvalidWord" [(.cst (.str [110, 111, 116, 32, 97, 32, 119, 111, 114, 100, 32, 111, 102, 32, 116, 104, 101, 32, 115, 121, 115, 116, 101, 109]))]] []]
theorem t20 : trF glb 2 N20 (defScope (top 20)) (defBody (top 20)) = some ⟨2, N20, b20⟩ := by kernel_rfl
def b21 : List CS := [.expr (.call "need_system" [(.var 0)]),
  .expr (.call "need_word" [(.var 0), (.var 1)])]
theorem t21 : trF glb 2 N21 (defScope (top 21)) (defBody (top 21)) = some ⟨2, N21, b21⟩ := by kernel_rfl
def b25 : List CS := [.asg (.nm 2) (.comp (.tup [(.var 6), (.var 3)]) [3, 4, 5, 6] (.mk (.tup [(.nm 3), (.tup [(.nm 4), (.nm 5)])]) (.enm (.idx (.peek 0) (.glb "RULES" (.int 1)))) []) [(.mk (.nm 6) (.seq (.call "places_in" [(.var 4), (.var 1)])) [])]),
  .ret (.blt .sorted [(.peek 2)])]
theorem t25 : trF glb 2 N25 (defScope (top 25)) (defBody (top 25)) = some ⟨2, N25, b25⟩ := by kernel_rfl
def b26 : List CS := [.asg (.tup [(.nm 3), (.nm 4)]) (.idx (.idx (.peek 0) (.glb "RULES" (.int 1))) (.idx (.peek 2) (.glb "RULE" (.int 1)))),
  .ret (.bin .add (.bin .add (.slc (.peek 1) none (some (.idx (.peek 2) (.glb "PLACE" (.int 0))))) (.peek 4)) (.slc (.peek 1) (some (.bin .add (.idx (.peek 2) (.glb "PLACE" (.int 0))) (.blt .len [(.peek 3)]))) none))]
theorem t26 : trF glb 3 N26 (defScope (top 26)) (defBody (top 26)) = some ⟨3, N26, b26⟩ := by kernel_rfl
def b27 : List CS := [.asg (.nm 3) (.idx (.idx (.idx (.peek 0) (.glb "RULES" (.int 1))) (.idx (.peek 2) (.glb "RULE" (.int 1)))) (.cst (.int 0))),
  .ret (.cmp .eq (.slc (.peek 1) (some (.idx (.peek 2) (.glb "PLACE" (.int 0)))) (some (.bin .add (.idx (.peek 2) (.glb "PLACE" (.int 0))) (.blt .len [(.peek 3)])))) (.peek 3))]
theorem t27 : trF glb 3 N27 (defScope (top 27)) (defBody (top 27)) = some ⟨3, N27, b27⟩ := by kernel_rfl
def b28 : List CS := [.ifs (.or (.not (.call "is_tuple_of" [(.var 1), (.cst (.int 2)), (.cst (.int 2))])) (.not (.call "fits_whole" [(.idx (.peek 1) (.glb "PLACE" (.int 0))), (.cst (.int 0)), (.cst (.int 1000))]))) [.ret (.cst (.bl false))] [],
  .ret (.call "fits_whole" [(.idx (.peek 1) (.glb "RULE" (.int 1))), (.cst (.int 0)), (.bin .sub (.blt .len [(.idx (.peek 0) (.glb "RULES" (.int 1)))]) (.cst (.int 1)))])]
theorem t28 : trF glb 2 N28 (defScope (top 28)) (defBody (top 28)) = some ⟨2, N28, b28⟩ := by kernel_rfl
def b29 : List CS := [.ifs (.not (.call "fits_step" [(.var 0), (.var 1)])) [.raise "InvalidStep" [(.cst (.str [110, 111, 116, 32, 97, 32, 115, 116, 101, 112, 32, 111, 102, 32, 116, 104, 101, 32, 115, 121, 115, 116, 101, 109]))]] []]
theorem t29 : trF glb 2 N29 (defScope (top 29)) (defBody (top 29)) = some ⟨2, N29, b29⟩ := by kernel_rfl
def b30 : List CS := [.expr (.call "need_both" [(.var 0), (.var 1)]),
  .ret (.blt .tuple [(.call "steps_in" [(.var 0), (.var 1)])])]
theorem t30 : trF glb 2 N30 (defScope (top 30)) (defBody (top 30)) = some ⟨2, N30, b30⟩ := by kernel_rfl
def b31 : List CS := [.expr (.call "need_both" [(.var 0), (.var 1)]),
  .expr (.call "need_step" [(.var 0), (.var 2)]),
  .ret (.ite (.call "can_in" [(.var 0), (.var 1), (.var 2)]) (.call "behind_in" [(.var 0), (.var 1), (.var 2)]) (.var 1))]
theorem t31 : trF glb 3 N31 (defScope (top 31)) (defBody (top 31)) = some ⟨3, N31, b31⟩ := by kernel_rfl
def b36 : List CS := [.ret (.blt .all [(.comp (.cmp .eq (.peek 3) (.peek 4)) [3, 4] (.mk (.tup [(.nm 3), (.nm 4)]) (.zip (.slc (.peek 0) (some (.peek 2)) none) (.peek 1)) []) [])])]
theorem t36 : trF glb 3 N36 (defScope (top 36)) (defBody (top 36)) = some ⟨3, N36, b36⟩ := by kernel_rfl
def b37 : List CS := [.asg (.nm 1) (.comp (.tup [(.var 2), (.var 5), (.var 3), (.var 6)]) [2, 3, 4, 5, 6, 7] (.mk (.tup [(.nm 2), (.tup [(.nm 3), (.nm 4)])]) (.enm (.idx (.peek 0) (.glb "RULES" (.int 1)))) []) [(.mk (.tup [(.nm 5), (.tup [(.nm 6), (.nm 7)])]) (.enm (.idx (.peek 0) (.glb "RULES" (.int 1)))) [])]),
  .own 8 (.lst []),
  .fors (.tup [(.nm 2), (.nm 5), (.nm 3), (.nm 6)]) (.seq (.var 1)) [.asg (.nm 9) (.ite (.cmp .lt (.peek 2) (.peek 5)) (.cst (.int 0)) (.cst (.int 1))), .aug 8 .add (.comp (.tup [(.var 2), (.var 5), (.var 10)]) [10] (.mk (.nm 10) (.rng [(.peek 9), (.blt .len [(.peek 3)])]) [(.call "agrees" [(.var 3), (.var 6), (.var 10)])]) [])],
  .freeze 8,
  .ret (.var 8)]
theorem t37 : trF glb 1 N37 (defScope (top 37)) (defBody (top 37)) = some ⟨1, N37, b37⟩ := by kernel_rfl
def b38 : List CS := [.par [(2, false), (3, false)] [(.idx (.idx (.idx (.peek 0) (.glb "RULES" (.int 1))) (.idx (.peek 1) (.glb "ONE" (.int 0)))) (.cst (.int 0))), (.idx (.idx (.idx (.peek 0) (.glb "RULES" (.int 1))) (.idx (.peek 1) (.glb "OTHER" (.int 1)))) (.cst (.int 0)))],
  .ret (.bin .add (.peek 2) (.slc (.peek 3) (some (.bin .sub (.blt .len [(.peek 2)]) (.idx (.peek 1) (.glb "BEGIN" (.int 2))))) none))]
theorem t38 : trF glb 2 N38 (defScope (top 38)) (defBody (top 38)) = some ⟨2, N38, b38⟩ := by kernel_rfl
def b39 : List CS := [.asg (.nm 2) (.call "word_in" [(.var 0), (.var 1)]),
  .ret (.tup [(.call "behind_in" [(.var 0), (.var 2), (.tup [(.cst (.int 0)), (.idx (.peek 1) (.glb "ONE" (.int 0)))])]), (.call "behind_in" [(.var 0), (.var 2), (.tup [(.idx (.peek 1) (.glb "BEGIN" (.int 2))), (.idx (.peek 1) (.glb "OTHER" (.int 1)))])])])]
theorem t39 : trF glb 2 N39 (defScope (top 39)) (defBody (top 39)) = some ⟨2, N39, b39⟩ := by kernel_rfl
def b40 : List CS := [.ifs (.or (.not (.call "is_tuple_of" [(.var 1), (.cst (.int 3)), (.cst (.int 3))])) (.not (.blt .all [(.comp (.call "fits_whole" [(.var 2), (.cst (.int 0)), (.glb "MOST_RULES" (.int 8))]) [2] (.mk (.nm 2) (.seq (.peek 1)) []) [])]))) [.ret (.cst (.bl false))] [],
  .ret (.cmp .isin (.peek 1) (.call "overlaps_in" [(.var 0)]))]
theorem t40 : trF glb 2 N40 (defScope (top 40)) (defBody (top 40)) = some ⟨2, N40, b40⟩ := by kernel_rfl
def b41 : List CS := [.expr (.call "need_system" [(.var 0)]),
  .ifs (.not (.call "fits_overlap" [(.var 0), (.var 1)])) [.raise "InvalidPlan" [(.cst (.str [110, 111, 116, 32, 97, 110, 32, 111, 118, 101, 114, 108, 97, 112]))]] []]
theorem t41 : trF glb 2 N41 (defScope (top 41)) (defBody (top 41)) = some ⟨2, N41, b41⟩ := by kernel_rfl
def b42 : List CS := [.expr (.call "need_step" [(.var 0), (.var 2)]),
  .ifs (.not (.call "can_in" [(.var 0), (.var 1), (.var 2)])) [.raise "InvalidStep" [(.cst (.str [110, 111, 116, 32, 97, 32, 115, 116, 101, 112, 32, 116, 104, 97, 116, 32, 99, 97, 110, 32, 98, 101, 32, 100, 111, 110, 101]))]] []]
theorem t42 : trF glb 3 N42 (defScope (top 42)) (defBody (top 42)) = some ⟨3, N42, b42⟩ := by kernel_rfl
def b43 : List CS := [.expr (.call "need_system" [(.var 0)]),
  .ret (.call "fits_overlap" [(.var 0), (.var 1)])]
theorem t43 : trF glb 2 N43 (defScope (top 43)) (defBody (top 43)) = some ⟨2, N43, b43⟩ := by kernel_rfl
def b44 : List CS := [.expr (.call "need_overlap" [(.var 0), (.var 1)]),
  .ret (.call "word_in" [(.var 0), (.var 1)])]
theorem t44 : trF glb 2 N44 (defScope (top 44)) (defBody (top 44)) = some ⟨2, N44, b44⟩ := by kernel_rfl
def b45 : List CS := [.expr (.call "need_overlap" [(.var 0), (.var 1)]),
  .ret (.call "sides_in" [(.var 0), (.var 1)])]
theorem t45 : trF glb 2 N45 (defScope (top 45)) (defBody (top 45)) = some ⟨2, N45, b45⟩ := by kernel_rfl
def b46 : List CS := [.expr (.call "need_both" [(.var 0), (.var 1)]),
  .expr (.call "need_done" [(.var 0), (.var 1), (.var 2)]),
  .expr (.call "need_done" [(.var 0), (.var 1), (.var 3)]),
  .ifs (.cmp .eq (.peek 2) (.peek 3)) [.raise "InvalidStep" [(.cst (.str [111, 110, 101, 32, 115, 116, 101, 112, 32, 116, 119, 105, 99, 101]))]] [],
  .asg (.tup [(.nm 4), (.nm 5)]) (.blt .sorted [(.lst [(.var 2), (.var 3)])]),
  .asg (.nm 6) (.bin .sub (.idx (.peek 5) (.glb "PLACE" (.int 0))) (.idx (.peek 4) (.glb "PLACE" (.int 0)))),
  .ret (.ite (.cmp .lt (.peek 6) (.blt .len [(.idx (.idx (.idx (.peek 0) (.glb "RULES" (.int 1))) (.idx (.peek 4) (.glb "RULE" (.int 1)))) (.cst (.int 0)))])) (.tup [(.idx (.peek 4) (.glb "RULE" (.int 1))), (.idx (.peek 5) (.glb "RULE" (.int 1))), (.var 6)]) (.cst .non))]
theorem t46 : trF glb 4 N46 (defScope (top 46)) (defBody (top 46)) = some ⟨4, N46, b46⟩ := by kernel_rfl
def b49 : List CS := [.ifs (.cmp .gt (.idx (.peek 0) (.cst (.int 0))) (.cst (.int 0))) [.asg (.nm 2) (.bin .mod (.blt .int [(.idx (.peek 0) (.cst (.int 0)))]) (.peek 1)), .setix 0 (.cst (.int 0)) (.bin .fdiv (.idx (.peek 0) (.cst (.int 0))) (.peek 1)), .ret (.var 2)] [],
  .setix 0 (.cst (.int 1)) (.bin .mod (.blt .int [(.bin .add (.bin .mul (.idx (.peek 0) (.cst (.int 1))) (.cst (.int 30931))) (.cst (.int 7933)))]) (.cst (.int 2147482951))),
  .asg (.nm 3) (.bin .mod (.blt .int [(.bin .mul (.idx (.peek 0) (.cst (.int 1))) (.bin .add (.idx (.peek 0) (.cst (.int 1))) (.cst (.int 257))))]) (.cst (.int 2147483059))),
  .ret (.bin .mod (.blt .int [(.bin .fdiv (.peek 3) (.cst (.int 811)))]) (.peek 1))]
theorem t49 : trF glb 2 N49 (defScope (top 49)) (defBody (top 49)) = some ⟨2, N49, b49⟩ := by kernel_rfl
def b50 : List CS := [.ret (.idx (.peek 1) (.call "_law_roll" [(.var 0), (.blt .len [(.peek 1)])]))]
theorem t50 : trF glb 2 N50 (defScope (top 50)) (defBody (top 50)) = some ⟨2, N50, b50⟩ := by kernel_rfl
def b51 : List CS := [.ifs (.isi (.peek 1) .tuple) [.ifs (.or (.not (.isi (.peek 0) .tuple)) (.cmp .ne (.blt .len [(.peek 0)]) (.blt .len [(.peek 1)]))) [.ret (.cst (.bl false))] [], .ret (.blt .all [(.comp (.call "_law_same" [(.idx (.peek 0) (.peek 2)), (.idx (.peek 1) (.peek 2))]) [2] (.mk (.nm 2) (.rng [(.blt .len [(.peek 1)])]) []) [])])] [],
  .ifs (.cmp .is (.peek 1) (.cst .non)) [.ret (.cmp .is (.peek 0) (.cst .non))] [],
  .ifs (.isi (.peek 1) .bool) [.ret (.ite (.peek 1) (.cmp .is (.peek 0) (.cst (.bl true))) (.cmp .is (.peek 0) (.cst (.bl false))))] [],
  .ifs (.isi (.peek 1) .int) [.ret (.and (.isi (.peek 0) .int) (.and (.not (.isi (.peek 0) .bool)) (.cmp .eq (.blt .int [(.peek 0)]) (.peek 1))))] [],
  .ret (.and (.isi (.peek 0) .str) (.cmp .eq (.blt .str [(.peek 0)]) (.peek 1)))]
theorem t51 : trF glb 2 N51 (defScope (top 51)) (defBody (top 51)) = some ⟨2, N51, b51⟩ := by kernel_rfl
def b52 : List CS := [.ret (.mth .join (.cst (.str [])) [(.comp (.call "_law_some" [(.var 0), (.blt .list [(.slc (.cst (.str [97, 98, 99, 100])) none (some (.peek 1)))])]) [3] (.mk (.nm 3) (.rng [(.call "_law_roll" [(.var 0), (.bin .add (.peek 2) (.cst (.int 1)))])]) []) [])])]
theorem t52 : trF glb 3 N52 (defScope (top 52)) (defBody (top 52)) = some ⟨3, N52, b52⟩ := by kernel_rfl
def b53 : List CS := [.asg (.nm 1) (.lst [(.tup [(.cst (.int 2)), (.tup [(.tup [(.cst (.str [98, 97])), (.cst (.str [97, 98]))])])]), (.tup [(.cst (.int 2)), (.tup [(.tup [(.cst (.str [97, 97])), (.cst (.str []))]), (.tup [(.cst (.str [98, 98])), (.cst (.str []))])])]), (.tup [(.cst (.int 2)), (.tup [(.tup [(.cst (.str [97, 98])), (.cst (.str []))])])]), (.tup [(.cst (.int 2)), (.tup [(.tup [(.cst (.str [97, 97])), (.cst (.str []))]), (.tup [(.cst (.str [98, 98])), (.cst (.str []))]), (.tup [(.cst (.str [98, 97, 98])), (.cst (.str [97, 98, 97]))])])])]),
  .asg (.nm 1) (.bin .add (.peek 1) (.lst [(.tup [(.cst (.int 2)), (.tup [(.tup [(.cst (.str [97, 98])), (.cst (.str [98, 98, 97]))])])]), (.tup [(.cst (.int 2)), (.tup [(.tup [(.cst (.str [97, 98])), (.cst (.str [97, 97, 98]))])])]), (.tup [(.cst (.int 3)), (.tup [(.tup [(.cst (.str [98, 97])), (.cst (.str [97, 98]))]), (.tup [(.cst (.str [99, 97])), (.cst (.str [97, 99]))]), (.tup [(.cst (.str [99, 98])), (.cst (.str [98, 99]))])])]), (.tup [(.cst (.int 1)), (.tup [(.tup [(.cst (.str [97, 97, 97])), (.cst (.str [97]))])])])])),
  .asg (.tup [(.nm 2), (.nm 3)]) (.call "_law_some" [(.var 0), (.var 1)]),
  .asg (.nm 4) (.call "_law_roll" [(.var 0), (.cst (.int 3))]),
  .ifs (.cmp .eq (.peek 4) (.cst (.int 0))) [.ret (.tup [(.var 2), (.var 3)])] [],
  .ifs (.cmp .eq (.peek 4) (.cst (.int 1))) [.par [(2, false), (3, false)] [(.bin .add (.cst (.int 1)) (.call "_law_roll" [(.var 0), (.cst (.int 4))])), (.tup [])]] [],
  .fors (.nm 5) (.rng [(.bin .add (.cst (.int 1)) (.call "_law_roll" [(.var 0), (.cst (.int 3))]))]) [.asg (.nm 6) (.bin .add (.call "_law_word" [(.var 0), (.var 2), (.cst (.int 2))]) (.call "_law_some" [(.var 0), (.blt .list [(.slc (.cst (.str [97, 98, 99, 100])) none (some (.peek 2)))])])), .asg (.nm 7) (.call "_law_word" [(.var 0), (.var 2), (.cst (.int 3))]), .ifs (.and (.cmp .ne (.peek 6) (.peek 7)) (.cmp .notin (.tup [(.var 6), (.var 7)]) (.peek 3))) [.asg (.nm 3) (.bin .add (.peek 3) (.tup [(.tup [(.var 6), (.var 7)])]))] []],
  .ret (.tup [(.var 2), (.ite (.cmp .ne (.peek 3) (.tup [])) (.var 3) (.tup [(.tup [(.cst (.str [97])), (.cst (.str []))])]))])]
theorem t53 : trF glb 1 N53 (defScope (top 53)) (defBody (top 53)) = some ⟨1, N53, b53⟩ := by kernel_rfl
def b54 : List CS := [.asg (.nm 2) (.lst []),
  .fors (.nm 3) (.rng [(.blt .len [(.peek 1)])]) [.asg (.nm 2) (.bin .add (.peek 2) (.comp (.tup [(.var 3), (.var 4)]) [4] (.mk (.nm 4) (.rng [(.blt .len [(.idx (.peek 0) (.cst (.int 1)))])]) [(.mth .startswith (.slc (.peek 1) (some (.peek 3)) none) [(.idx (.idx (.idx (.peek 0) (.cst (.int 1))) (.peek 4)) (.cst (.int 0)))])]) []))],
  .ret (.var 2)]
theorem t54 : trF glb 2 N54 (defScope (top 54)) (defBody (top 54)) = some ⟨2, N54, b54⟩ := by kernel_rfl
def b55 : List CS := [.asg (.nm 4) (.idx (.idx (.idx (.peek 0) (.cst (.int 1))) (.idx (.peek 2) (.cst (.int 1)))) (.cst (.int 0))),
  .par [(5, false), (6, false)] [(.call "overlap_met" [(.var 0), (.var 1), (.var 2), (.var 3)]), (.call "overlap_met" [(.var 0), (.var 1), (.var 3), (.var 2)])],
  .asg (.nm 7) (.bin .sub (.idx (.peek 3) (.cst (.int 0))) (.idx (.peek 2) (.cst (.int 0)))),
  .ifs (.cmp .ge (.peek 7) (.blt .len [(.peek 4)])) [.asg (.nm 8) (.bin .sub (.bin .add (.idx (.peek 3) (.cst (.int 0))) (.blt .len [(.idx (.idx (.idx (.peek 0) (.cst (.int 1))) (.idx (.peek 2) (.cst (.int 1)))) (.cst (.int 1)))])) (.blt .len [(.peek 4)])), .asg (.nm 9) (.call "word_behind" [(.var 0), (.call "word_behind" [(.var 0), (.var 1), (.var 2)]), (.tup [(.var 8), (.idx (.peek 3) (.cst (.int 1)))])]), .asg (.nm 10) (.call "word_behind" [(.var 0), (.call "word_behind" [(.var 0), (.var 1), (.var 3)]), (.var 2)]), .ret (.call "_law_same" [(.tup [(.var 5), (.var 6), (.var 9)]), (.tup [(.cst .non), (.cst .non), (.var 10)])])] [],
  .asg (.nm 11) (.tup [(.idx (.peek 2) (.cst (.int 1))), (.idx (.peek 3) (.cst (.int 1))), (.var 7)]),
  .ifs (.not (.call "_law_same" [(.tup [(.var 5), (.var 6), (.call "is_overlap" [(.var 0), (.var 11)])]), (.tup [(.var 11), (.var 11), (.cst (.bl true))])])) [.ret (.cst (.bl false))] [],
  .par [(12, false), (13, false)] [(.slc (.peek 1) none (some (.idx (.peek 2) (.cst (.int 0))))), (.call "overlap_word" [(.var 0), (.var 11)])],
  .asg (.nm 14) (.slc (.peek 1) (some (.bin .add (.idx (.peek 2) (.cst (.int 0))) (.blt .len [(.peek 13)]))) none),
  .ifs (.cmp .ne (.peek 1) (.bin .add (.bin .add (.peek 12) (.peek 13)) (.peek 14))) [.ret (.cst (.bl false))] [],
  .asg (.nm 15) (.blt .tuple [(.comp (.bin .add (.bin .add (.peek 12) (.peek 16)) (.peek 14)) [16] (.mk (.nm 16) (.seq (.call "overlap_sides" [(.var 0), (.var 11)])) []) [])]),
  .ret (.call "_law_same" [(.tup [(.call "word_behind" [(.var 0), (.var 1), (.var 2)]), (.call "word_behind" [(.var 0), (.var 1), (.var 3)])]), (.var 15)])]
theorem t55 : trF glb 4 N55 (defScope (top 55)) (defBody (top 55)) = some ⟨4, N55, b55⟩ := by kernel_rfl
def bC : List CS := [.ret (.lst [(.ite (.cmp .ge (.peek 1) (.bin .pow (.cst (.int 10)) (.cst (.int 18)))) (.bin .fdiv (.peek 1) (.cst (.int 71))) (.cst (.int 0))), (.bin .add (.bin .mod (.blt .int [(.bin .add (.bin .mul (.peek 1) (.cst (.int 337))) (.cst (.int 4253)))]) (.cst (.int 2077510021))) (.cst (.int 193)))])]
theorem tC : trS glb ["script", "cell"] (defScope (top 48)) [] 12 ((defBody (top 48)).getD 1 (.Pass ⟨0, 0, 0, 0⟩)) = some bC := by kernel_rfl
def bL : List CS := [.fors (.nm 2) (.rng [(.cst (.int 12))]) [.asg (.nm 3) (.call "_law_system" [(.var 1)]), .asg (.nm 4) (.call "_law_word" [(.var 1), (.idx (.peek 3) (.cst (.int 0))), (.cst (.int 9))]), .asg (.nm 5) (.call "_law_steps" [(.var 3), (.var 4)]), .ifs (.not (.call "_law_same" [(.call "steps_of" [(.var 3), (.var 4)]), (.blt .tuple [(.peek 5)])])) [.ret (.cst (.bl false))] [], .fors (.tup [(.nm 6), (.nm 7)]) (.enm (.var 5)) [.fors (.nm 8) (.seq (.slc (.peek 5) (some (.bin .add (.peek 6) (.cst (.int 1)))) none)) [.ifs (.not (.call "_law_pair_right" [(.var 3), (.var 4), (.var 7), (.var 8)])) [.ret (.cst (.bl false))] []]]],
  .par [(9, false), (10, false)] [(.tup [(.cst (.int 2)), (.tup [(.tup [(.cst (.str [97, 97])), (.cst (.str []))]), (.tup [(.cst (.str [98, 98])), (.cst (.str []))]), (.tup [(.cst (.str [98, 97, 98])), (.cst (.str [97, 98, 97]))])])]), (.tup [(.cst (.int 2)), (.tup [(.tup [(.cst (.str [97, 98])), (.cst (.str [97]))]), (.tup [(.cst (.str [97])), (.cst (.str []))])])])],
  .asg (.nm 11) (.tup [(.call "overlap_met" [(.var 9), (.cst (.str [97, 97, 98, 98])), (.tup [(.cst (.int 0)), (.cst (.int 0))]), (.tup [(.cst (.int 2)), (.cst (.int 1))])]), (.call "overlap_met" [(.var 9), (.cst (.str [97, 98, 98, 97, 98])), (.tup [(.cst (.int 2)), (.cst (.int 2))]), (.tup [(.cst (.int 1)), (.cst (.int 1))])]), (.call "overlap_met" [(.var 9), (.cst (.str [97, 98, 98, 97, 98])), (.tup [(.cst (.int 1)), (.cst (.int 1))]), (.tup [(.cst (.int 2)), (.cst (.int 2))])])]),
  .asg (.nm 11) (.bin .add (.peek 11) (.tup [(.call "overlap_met" [(.var 10), (.cst (.str [98, 97, 98])), (.tup [(.cst (.int 1)), (.cst (.int 1))]), (.tup [(.cst (.int 1)), (.cst (.int 0))])]), (.call "overlap_met" [(.var 9), (.cst (.str [97, 97, 97])), (.tup [(.cst (.int 1)), (.cst (.int 0))]), (.tup [(.cst (.int 0)), (.cst (.int 0))])])])),
  .ret (.call "_law_same" [(.var 11), (.tup [(.cst .non), (.tup [(.cst (.int 1)), (.cst (.int 2)), (.cst (.int 1))]), (.tup [(.cst (.int 1)), (.cst (.int 2)), (.cst (.int 1))]), (.tup [(.cst (.int 0)), (.cst (.int 1)), (.cst (.int 0))]), (.tup [(.cst (.int 0)), (.cst (.int 0)), (.cst (.int 1))])])])]
def lL : List (List CS) := (allSome ((defBody (top 56)).tail.map (trS glb N56 (defScope (top 56)) (changed N56 12 (defBody (top 56)).tail) 12))).getD []
theorem tL : allSome ((defBody (top 56)).tail.map (trS glb N56 (defScope (top 56)) (changed N56 12 (defBody (top 56)).tail) 12)) = some lL := by kernel_rfl
theorem tL2 : lL.flatten = bL := by kernel_rfl
def G : Tab := ([("is_tuple_of", ⟨3, N13, b13⟩), ("fits_whole", ⟨3, N14, b14⟩), ("fits_letters", ⟨4, N15, b15⟩), ("fits_rule", ⟨2, N16, b16⟩), ("fits_system", ⟨1, N17, b17⟩), ("places_in", ⟨2, N18, b18⟩), ("need_system", ⟨1, N19, b19⟩), ("need_word", ⟨2, N20, b20⟩), ("need_both", ⟨2, N21, b21⟩), ("steps_in", ⟨2, N25, b25⟩), ("behind_in", ⟨3, N26, b26⟩), ("can_in", ⟨3, N27, b27⟩)] : Tab) ++ ([("fits_step", ⟨2, N28, b28⟩), ("need_step", ⟨2, N29, b29⟩), ("steps_of", ⟨2, N30, b30⟩), ("word_behind", ⟨3, N31, b31⟩), ("agrees", ⟨3, N36, b36⟩), ("overlaps_in", ⟨1, N37, b37⟩), ("word_in", ⟨2, N38, b38⟩), ("sides_in", ⟨2, N39, b39⟩), ("fits_overlap", ⟨2, N40, b40⟩), ("need_overlap", ⟨2, N41, b41⟩), ("need_done", ⟨3, N42, b42⟩), ("is_overlap", ⟨2, N43, b43⟩)] : Tab) ++ ([("overlap_word", ⟨2, N44, b44⟩), ("overlap_sides", ⟨2, N45, b45⟩), ("overlap_met", ⟨4, N46, b46⟩), ("_law_roll", ⟨2, N49, b49⟩), ("_law_some", ⟨2, N50, b50⟩), ("_law_same", ⟨2, N51, b51⟩), ("_law_word", ⟨3, N52, b52⟩), ("_law_system", ⟨1, N53, b53⟩), ("_law_steps", ⟨2, N54, b54⟩), ("_law_pair_right", ⟨4, N55, b55⟩)] : Tab)
section
variable {K : PySem.W.Frag} {h : Heap} {mg : Str → Option Value}
theorem df13 (X : K.In h) (Y : h.Ns mainGlobals mg) (c : He.SaysD fa fn K) : DefF K mg glb G "is_tuple_of" := by
  obtain ⟨fd, F⟩ := c.def_ 0 (d := d13) rfl
  exact ⟨_, _, _, _, fd, N13, ["value", "low", "high"], _, F, He.glo_ok X Y (c.fact 0 (f := .glo "is_tuple_of") rfl), F.bindsN fun _ _ _ _ _ _ us hl => match us, hl with | [_, _, _], _ => rfl, C8.fnScope_by (by decide +kernel), t13, rfl⟩
theorem df14 (X : K.In h) (Y : h.Ns mainGlobals mg) (c : He.SaysD fa fn K) : DefF K mg glb G "fits_whole" := by
  obtain ⟨fd, F⟩ := c.def_ 1 (d := d14) rfl
  exact ⟨_, _, _, _, fd, N14, ["value", "low", "high"], _, F, He.glo_ok X Y (c.fact 1 (f := .glo "fits_whole") rfl), F.bindsN fun _ _ _ _ _ _ us hl => match us, hl with | [_, _, _], _ => rfl, C8.fnScope_by (by decide +kernel), t14, rfl⟩
theorem df15 (X : K.In h) (Y : h.Ns mainGlobals mg) (c : He.SaysD fa fn K) : DefF K mg glb G "fits_letters" := by
  obtain ⟨fd, F⟩ := c.def_ 2 (d := d15) rfl
  exact ⟨_, _, _, _, fd, N15, ["value", "size", "low", "high"], _, F, He.glo_ok X Y (c.fact 2 (f := .glo "fits_letters") rfl), F.bindsN fun _ _ _ _ _ _ us hl => match us, hl with | [_, _, _, _], _ => rfl, C8.fnScope_by (by decide +kernel), t15, rfl⟩
theorem df16 (X : K.In h) (Y : h.Ns mainGlobals mg) (c : He.SaysD fa fn K) : DefF K mg glb G "fits_rule" := by
  obtain ⟨fd, F⟩ := c.def_ 3 (d := d16) rfl
  exact ⟨_, _, _, _, fd, N16, ["size", "value"], _, F, He.glo_ok X Y (c.fact 3 (f := .glo "fits_rule") rfl), F.bindsN fun _ _ _ _ _ _ us hl => match us, hl with | [_, _], _ => rfl, C8.fnScope_by (by decide +kernel), t16, rfl⟩
theorem df17 (X : K.In h) (Y : h.Ns mainGlobals mg) (c : He.SaysD fa fn K) : DefF K mg glb G "fits_system" := by
  obtain ⟨fd, F⟩ := c.def_ 4 (d := d17) rfl
  exact ⟨_, _, _, _, fd, N17, ["value"], _, F, He.glo_ok X Y (c.fact 4 (f := .glo "fits_system") rfl), F.bindsN fun _ _ _ _ _ _ us hl => match us, hl with | [_], _ => rfl, C8.fnScope_by (by decide +kernel), t17, rfl⟩
theorem df18 (X : K.In h) (Y : h.Ns mainGlobals mg) (c : He.SaysD fa fn K) : DefF K mg glb G "places_in" := by
  obtain ⟨fd, F⟩ := c.def_ 5 (d := d18) rfl
  exact ⟨_, _, _, _, fd, N18, ["part", "word"], _, F, He.glo_ok X Y (c.fact 5 (f := .glo "places_in") rfl), F.bindsN fun _ _ _ _ _ _ us hl => match us, hl with | [_, _], _ => rfl, C8.fnScope_by (by decide +kernel), t18, rfl⟩
theorem df19 (X : K.In h) (Y : h.Ns mainGlobals mg) (c : He.SaysD fa fn K) : DefF K mg glb G "need_system" := by
  obtain ⟨fd, F⟩ := c.def_ 6 (d := d19) rfl
  exact ⟨_, _, _, _, fd, N19, ["value"], _, F, He.glo_ok X Y (c.fact 6 (f := .glo "need_system") rfl), F.bindsN fun _ _ _ _ _ _ us hl => match us, hl with | [_], _ => rfl, C8.fnScope_by (by decide +kernel), t19, rfl⟩
theorem df20 (X : K.In h) (Y : h.Ns mainGlobals mg) (c : He.SaysD fa fn K) : DefF K mg glb G "need_word" := by
  obtain ⟨fd, F⟩ := c.def_ 7 (d := d20) rfl
  exact ⟨_, _, _, _, fd, N20, ["system", "value"], _, F, He.glo_ok X Y (c.fact 7 (f := .glo "need_word") rfl), F.bindsN fun _ _ _ _ _ _ us hl => match us, hl with | [_, _], _ => rfl, C8.fnScope_by (by decide +kernel), t20, rfl⟩
theorem df21 (X : K.In h) (Y : h.Ns mainGlobals mg) (c : He.SaysD fa fn K) : DefF K mg glb G "need_both" := by
  obtain ⟨fd, F⟩ := c.def_ 8 (d := d21) rfl
  exact ⟨_, _, _, _, fd, N21, ["system", "word"], _, F, He.glo_ok X Y (c.fact 8 (f := .glo "need_both") rfl), F.bindsN fun _ _ _ _ _ _ us hl => match us, hl with | [_, _], _ => rfl, C8.fnScope_by (by decide +kernel), t21, rfl⟩
theorem df25 (X : K.In h) (Y : h.Ns mainGlobals mg) (c : He.SaysD fa fn K) : DefF K mg glb G "steps_in" := by
  obtain ⟨fd, F⟩ := c.def_ 9 (d := d25) rfl
  exact ⟨_, _, _, _, fd, N25, ["system", "word"], _, F, He.glo_ok X Y (c.fact 9 (f := .glo "steps_in") rfl), F.bindsN fun _ _ _ _ _ _ us hl => match us, hl with | [_, _], _ => rfl, C8.fnScope_by (by decide +kernel), t25, rfl⟩
theorem df26 (X : K.In h) (Y : h.Ns mainGlobals mg) (c : He.SaysD fa fn K) : DefF K mg glb G "behind_in" := by
  obtain ⟨fd, F⟩ := c.def_ 10 (d := d26) rfl
  exact ⟨_, _, _, _, fd, N26, ["system", "word", "step"], _, F, He.glo_ok X Y (c.fact 10 (f := .glo "behind_in") rfl), F.bindsN fun _ _ _ _ _ _ us hl => match us, hl with | [_, _, _], _ => rfl, C8.fnScope_by (by decide +kernel), t26, rfl⟩
theorem df27 (X : K.In h) (Y : h.Ns mainGlobals mg) (c : He.SaysD fa fn K) : DefF K mg glb G "can_in" := by
  obtain ⟨fd, F⟩ := c.def_ 11 (d := d27) rfl
  exact ⟨_, _, _, _, fd, N27, ["system", "word", "step"], _, F, He.glo_ok X Y (c.fact 11 (f := .glo "can_in") rfl), F.bindsN fun _ _ _ _ _ _ us hl => match us, hl with | [_, _, _], _ => rfl, C8.fnScope_by (by decide +kernel), t27, rfl⟩
theorem df28 (X : K.In h) (Y : h.Ns mainGlobals mg) (c : He.SaysD fa fn K) : DefF K mg glb G "fits_step" := by
  obtain ⟨fd, F⟩ := c.def_ 12 (d := d28) rfl
  exact ⟨_, _, _, _, fd, N28, ["system", "value"], _, F, He.glo_ok X Y (c.fact 12 (f := .glo "fits_step") rfl), F.bindsN fun _ _ _ _ _ _ us hl => match us, hl with | [_, _], _ => rfl, C8.fnScope_by (by decide +kernel), t28, rfl⟩
theorem df29 (X : K.In h) (Y : h.Ns mainGlobals mg) (c : He.SaysD fa fn K) : DefF K mg glb G "need_step" := by
  obtain ⟨fd, F⟩ := c.def_ 13 (d := d29) rfl
  exact ⟨_, _, _, _, fd, N29, ["system", "value"], _, F, He.glo_ok X Y (c.fact 13 (f := .glo "need_step") rfl), F.bindsN fun _ _ _ _ _ _ us hl => match us, hl with | [_, _], _ => rfl, C8.fnScope_by (by decide +kernel), t29, rfl⟩
theorem df30 (X : K.In h) (Y : h.Ns mainGlobals mg) (c : He.SaysD fa fn K) : DefF K mg glb G "steps_of" := by
  obtain ⟨fd, F⟩ := c.def_ 14 (d := d30) rfl
  exact ⟨_, _, _, _, fd, N30, ["system", "word"], _, F, He.glo_ok X Y (c.fact 14 (f := .glo "steps_of") rfl), F.bindsN fun _ _ _ _ _ _ us hl => match us, hl with | [_, _], _ => rfl, C8.fnScope_by (by decide +kernel), t30, rfl⟩
theorem df31 (X : K.In h) (Y : h.Ns mainGlobals mg) (c : He.SaysD fa fn K) : DefF K mg glb G "word_behind" := by
  obtain ⟨fd, F⟩ := c.def_ 15 (d := d31) rfl
  exact ⟨_, _, _, _, fd, N31, ["system", "word", "step"], _, F, He.glo_ok X Y (c.fact 15 (f := .glo "word_behind") rfl), F.bindsN fun _ _ _ _ _ _ us hl => match us, hl with | [_, _, _], _ => rfl, C8.fnScope_by (by decide +kernel), t31, rfl⟩
theorem df36 (X : K.In h) (Y : h.Ns mainGlobals mg) (c : He.SaysD fa fn K) : DefF K mg glb G "agrees" := by
  obtain ⟨fd, F⟩ := c.def_ 16 (d := d36) rfl
  exact ⟨_, _, _, _, fd, N36, ["left", "other", "place"], _, F, He.glo_ok X Y (c.fact 16 (f := .glo "agrees") rfl), F.bindsN fun _ _ _ _ _ _ us hl => match us, hl with | [_, _, _], _ => rfl, C8.fnScope_by (by decide +kernel), t36, rfl⟩
theorem df37 (X : K.In h) (Y : h.Ns mainGlobals mg) (c : He.SaysD fa fn K) : DefF K mg glb G "overlaps_in" := by
  obtain ⟨fd, F⟩ := c.def_ 17 (d := d37) rfl
  exact ⟨_, _, _, _, fd, N37, ["system"], _, F, He.glo_ok X Y (c.fact 17 (f := .glo "overlaps_in") rfl), F.bindsN fun _ _ _ _ _ _ us hl => match us, hl with | [_], _ => rfl, C8.fnScope_by (by decide +kernel), t37, rfl⟩
theorem df38 (X : K.In h) (Y : h.Ns mainGlobals mg) (c : He.SaysD fa fn K) : DefF K mg glb G "word_in" := by
  obtain ⟨fd, F⟩ := c.def_ 18 (d := d38) rfl
  exact ⟨_, _, _, _, fd, N38, ["system", "overlap"], _, F, He.glo_ok X Y (c.fact 18 (f := .glo "word_in") rfl), F.bindsN fun _ _ _ _ _ _ us hl => match us, hl with | [_, _], _ => rfl, C8.fnScope_by (by decide +kernel), t38, rfl⟩
theorem df39 (X : K.In h) (Y : h.Ns mainGlobals mg) (c : He.SaysD fa fn K) : DefF K mg glb G "sides_in" := by
  obtain ⟨fd, F⟩ := c.def_ 19 (d := d39) rfl
  exact ⟨_, _, _, _, fd, N39, ["system", "overlap"], _, F, He.glo_ok X Y (c.fact 19 (f := .glo "sides_in") rfl), F.bindsN fun _ _ _ _ _ _ us hl => match us, hl with | [_, _], _ => rfl, C8.fnScope_by (by decide +kernel), t39, rfl⟩
theorem df40 (X : K.In h) (Y : h.Ns mainGlobals mg) (c : He.SaysD fa fn K) : DefF K mg glb G "fits_overlap" := by
  obtain ⟨fd, F⟩ := c.def_ 20 (d := d40) rfl
  exact ⟨_, _, _, _, fd, N40, ["system", "value"], _, F, He.glo_ok X Y (c.fact 20 (f := .glo "fits_overlap") rfl), F.bindsN fun _ _ _ _ _ _ us hl => match us, hl with | [_, _], _ => rfl, C8.fnScope_by (by decide +kernel), t40, rfl⟩
theorem df41 (X : K.In h) (Y : h.Ns mainGlobals mg) (c : He.SaysD fa fn K) : DefF K mg glb G "need_overlap" := by
  obtain ⟨fd, F⟩ := c.def_ 21 (d := d41) rfl
  exact ⟨_, _, _, _, fd, N41, ["system", "value"], _, F, He.glo_ok X Y (c.fact 21 (f := .glo "need_overlap") rfl), F.bindsN fun _ _ _ _ _ _ us hl => match us, hl with | [_, _], _ => rfl, C8.fnScope_by (by decide +kernel), t41, rfl⟩
theorem df42 (X : K.In h) (Y : h.Ns mainGlobals mg) (c : He.SaysD fa fn K) : DefF K mg glb G "need_done" := by
  obtain ⟨fd, F⟩ := c.def_ 22 (d := d42) rfl
  exact ⟨_, _, _, _, fd, N42, ["system", "word", "step"], _, F, He.glo_ok X Y (c.fact 22 (f := .glo "need_done") rfl), F.bindsN fun _ _ _ _ _ _ us hl => match us, hl with | [_, _, _], _ => rfl, C8.fnScope_by (by decide +kernel), t42, rfl⟩
theorem df43 (X : K.In h) (Y : h.Ns mainGlobals mg) (c : He.SaysD fa fn K) : DefF K mg glb G "is_overlap" := by
  obtain ⟨fd, F⟩ := c.def_ 23 (d := d43) rfl
  exact ⟨_, _, _, _, fd, N43, ["system", "value"], _, F, He.glo_ok X Y (c.fact 23 (f := .glo "is_overlap") rfl), F.bindsN fun _ _ _ _ _ _ us hl => match us, hl with | [_, _], _ => rfl, C8.fnScope_by (by decide +kernel), t43, rfl⟩
theorem df44 (X : K.In h) (Y : h.Ns mainGlobals mg) (c : He.SaysD fa fn K) : DefF K mg glb G "overlap_word" := by
  obtain ⟨fd, F⟩ := c.def_ 24 (d := d44) rfl
  exact ⟨_, _, _, _, fd, N44, ["system", "overlap"], _, F, He.glo_ok X Y (c.fact 24 (f := .glo "overlap_word") rfl), F.bindsN fun _ _ _ _ _ _ us hl => match us, hl with | [_, _], _ => rfl, C8.fnScope_by (by decide +kernel), t44, rfl⟩
theorem df45 (X : K.In h) (Y : h.Ns mainGlobals mg) (c : He.SaysD fa fn K) : DefF K mg glb G "overlap_sides" := by
  obtain ⟨fd, F⟩ := c.def_ 25 (d := d45) rfl
  exact ⟨_, _, _, _, fd, N45, ["system", "overlap"], _, F, He.glo_ok X Y (c.fact 25 (f := .glo "overlap_sides") rfl), F.bindsN fun _ _ _ _ _ _ us hl => match us, hl with | [_, _], _ => rfl, C8.fnScope_by (by decide +kernel), t45, rfl⟩
theorem df46 (X : K.In h) (Y : h.Ns mainGlobals mg) (c : He.SaysD fa fn K) : DefF K mg glb G "overlap_met" := by
  obtain ⟨fd, F⟩ := c.def_ 26 (d := d46) rfl
  exact ⟨_, _, _, _, fd, N46, ["system", "word", "one", "other"], _, F, He.glo_ok X Y (c.fact 26 (f := .glo "overlap_met") rfl), F.bindsN fun _ _ _ _ _ _ us hl => match us, hl with | [_, _, _, _], _ => rfl, C8.fnScope_by (by decide +kernel), t46, rfl⟩
theorem df49 (X : K.In h) (Y : h.Ns mainGlobals mg) (c : He.SaysD fa fn K) : DefF K mg glb G "_law_roll" := by
  obtain ⟨fd, F⟩ := c.def_ 28 (d := d49) rfl
  exact ⟨_, _, _, _, fd, N49, ["cup", "many"], _, F, He.glo_ok X Y (c.fact 28 (f := .glo "_law_roll") rfl), F.bindsN fun _ _ _ _ _ _ us hl => match us, hl with | [_, _], _ => rfl, C8.fnScope_by (by decide +kernel), t49, rfl⟩
theorem df50 (X : K.In h) (Y : h.Ns mainGlobals mg) (c : He.SaysD fa fn K) : DefF K mg glb G "_law_some" := by
  obtain ⟨fd, F⟩ := c.def_ 29 (d := d50) rfl
  exact ⟨_, _, _, _, fd, N50, ["cup", "things"], _, F, He.glo_ok X Y (c.fact 29 (f := .glo "_law_some") rfl), F.bindsN fun _ _ _ _ _ _ us hl => match us, hl with | [_, _], _ => rfl, C8.fnScope_by (by decide +kernel), t50, rfl⟩
theorem df51 (X : K.In h) (Y : h.Ns mainGlobals mg) (c : He.SaysD fa fn K) : DefF K mg glb G "_law_same" := by
  obtain ⟨fd, F⟩ := c.def_ 30 (d := d51) rfl
  exact ⟨_, _, _, _, fd, N51, ["told", "due"], _, F, He.glo_ok X Y (c.fact 30 (f := .glo "_law_same") rfl), F.bindsN fun _ _ _ _ _ _ us hl => match us, hl with | [_, _], _ => rfl, C8.fnScope_by (by decide +kernel), t51, rfl⟩
theorem df52 (X : K.In h) (Y : h.Ns mainGlobals mg) (c : He.SaysD fa fn K) : DefF K mg glb G "_law_word" := by
  obtain ⟨fd, F⟩ := c.def_ 31 (d := d52) rfl
  exact ⟨_, _, _, _, fd, N52, ["cup", "size", "many"], _, F, He.glo_ok X Y (c.fact 31 (f := .glo "_law_word") rfl), F.bindsN fun _ _ _ _ _ _ us hl => match us, hl with | [_, _, _], _ => rfl, C8.fnScope_by (by decide +kernel), t52, rfl⟩
theorem df53 (X : K.In h) (Y : h.Ns mainGlobals mg) (c : He.SaysD fa fn K) : DefF K mg glb G "_law_system" := by
  obtain ⟨fd, F⟩ := c.def_ 32 (d := d53) rfl
  exact ⟨_, _, _, _, fd, N53, ["cup"], _, F, He.glo_ok X Y (c.fact 32 (f := .glo "_law_system") rfl), F.bindsN fun _ _ _ _ _ _ us hl => match us, hl with | [_], _ => rfl, C8.fnScope_by (by decide +kernel), t53, rfl⟩
theorem df54 (X : K.In h) (Y : h.Ns mainGlobals mg) (c : He.SaysD fa fn K) : DefF K mg glb G "_law_steps" := by
  obtain ⟨fd, F⟩ := c.def_ 33 (d := d54) rfl
  exact ⟨_, _, _, _, fd, N54, ["system", "word"], _, F, He.glo_ok X Y (c.fact 33 (f := .glo "_law_steps") rfl), F.bindsN fun _ _ _ _ _ _ us hl => match us, hl with | [_, _], _ => rfl, C8.fnScope_by (by decide +kernel), t54, rfl⟩
theorem df55 (X : K.In h) (Y : h.Ns mainGlobals mg) (c : He.SaysD fa fn K) : DefF K mg glb G "_law_pair_right" := by
  obtain ⟨fd, F⟩ := c.def_ 34 (d := d55) rfl
  exact ⟨_, _, _, _, fd, N55, ["system", "word", "one", "other"], _, F, He.glo_ok X Y (c.fact 34 (f := .glo "_law_pair_right") rfl), F.bindsN fun _ _ _ _ _ _ us hl => match us, hl with | [_, _, _, _], _ => rfl, C8.fnScope_by (by decide +kernel), t55, rfl⟩
theorem mf (X : K.In h) (Y : h.Ns mainGlobals mg) (c : SaysT consts fa fn K) : ModF K mg glb G where
  df := fun f hf => by
    have key : ∀ f ∈ funs, DefF K mg glb G f := by
      unfold funs
      simp only [List.cons_append, List.nil_append]
      exact List.forall_mem_cons.mpr ⟨df13 X Y c.2, List.forall_mem_cons.mpr ⟨df14 X Y c.2, List.forall_mem_cons.mpr ⟨df15 X Y c.2, List.forall_mem_cons.mpr ⟨df16 X Y c.2, List.forall_mem_cons.mpr ⟨df17 X Y c.2, List.forall_mem_cons.mpr ⟨df18 X Y c.2, List.forall_mem_cons.mpr ⟨df19 X Y c.2, List.forall_mem_cons.mpr ⟨df20 X Y c.2, List.forall_mem_cons.mpr ⟨df21 X Y c.2, List.forall_mem_cons.mpr ⟨df25 X Y c.2, List.forall_mem_cons.mpr ⟨df26 X Y c.2, List.forall_mem_cons.mpr ⟨df27 X Y c.2, List.forall_mem_cons.mpr ⟨df28 X Y c.2, List.forall_mem_cons.mpr ⟨df29 X Y c.2, List.forall_mem_cons.mpr ⟨df30 X Y c.2, List.forall_mem_cons.mpr ⟨df31 X Y c.2, List.forall_mem_cons.mpr ⟨df36 X Y c.2, List.forall_mem_cons.mpr ⟨df37 X Y c.2, List.forall_mem_cons.mpr ⟨df38 X Y c.2, List.forall_mem_cons.mpr ⟨df39 X Y c.2, List.forall_mem_cons.mpr ⟨df40 X Y c.2, List.forall_mem_cons.mpr ⟨df41 X Y c.2, List.forall_mem_cons.mpr ⟨df42 X Y c.2, List.forall_mem_cons.mpr ⟨df43 X Y c.2, List.forall_mem_cons.mpr ⟨df44 X Y c.2, List.forall_mem_cons.mpr ⟨df45 X Y c.2, List.forall_mem_cons.mpr ⟨df46 X Y c.2, List.forall_mem_cons.mpr ⟨df49 X Y c.2, List.forall_mem_cons.mpr ⟨df50 X Y c.2, List.forall_mem_cons.mpr ⟨df51 X Y c.2, List.forall_mem_cons.mpr ⟨df52 X Y c.2, List.forall_mem_cons.mpr ⟨df53 X Y c.2, List.forall_mem_cons.mpr ⟨df54 X Y c.2, List.forall_mem_cons.mpr ⟨df55 X Y c.2, fun _ q => nomatch q⟩⟩⟩⟩⟩⟩⟩⟩⟩⟩⟩⟩⟩⟩⟩⟩⟩⟩⟩⟩⟩⟩⟩⟩⟩⟩⟩⟩⟩⟩⟩⟩⟩⟩
    exact key f (List.contains_iff_mem.mp hf)
  bi := fun b hb => by
    have key : ∀ b ∈ BI, mg b = none := by
      exact List.forall_mem_cons.mpr ⟨He.free_ok X Y (c.2.fact 36 (f := .free "len") rfl), List.forall_mem_cons.mpr ⟨He.free_ok X Y (c.2.fact 37 (f := .free "all") rfl), List.forall_mem_cons.mpr ⟨He.free_ok X Y (c.2.fact 38 (f := .free "any") rfl), List.forall_mem_cons.mpr ⟨He.free_ok X Y (c.2.fact 39 (f := .free "sum") rfl), List.forall_mem_cons.mpr ⟨He.free_ok X Y (c.2.fact 40 (f := .free "int") rfl), List.forall_mem_cons.mpr ⟨He.free_ok X Y (c.2.fact 41 (f := .free "str") rfl), List.forall_mem_cons.mpr ⟨He.free_ok X Y (c.2.fact 42 (f := .free "abs") rfl), List.forall_mem_cons.mpr ⟨He.free_ok X Y (c.2.fact 43 (f := .free "tuple") rfl), List.forall_mem_cons.mpr ⟨He.free_ok X Y (c.2.fact 44 (f := .free "list") rfl), List.forall_mem_cons.mpr ⟨He.free_ok X Y (c.2.fact 45 (f := .free "min") rfl), List.forall_mem_cons.mpr ⟨He.free_ok X Y (c.2.fact 46 (f := .free "max") rfl), List.forall_mem_cons.mpr ⟨He.free_ok X Y (c.2.fact 47 (f := .free "bool") rfl), List.forall_mem_cons.mpr ⟨He.free_ok X Y (c.2.fact 48 (f := .free "isinstance") rfl), List.forall_mem_cons.mpr ⟨He.free_ok X Y (c.2.fact 49 (f := .free "range") rfl), List.forall_mem_cons.mpr ⟨He.free_ok X Y (c.2.fact 50 (f := .free "enumerate") rfl), List.forall_mem_cons.mpr ⟨He.free_ok X Y (c.2.fact 51 (f := .free "zip") rfl), List.forall_mem_cons.mpr ⟨He.free_ok X Y (c.2.fact 52 (f := .free "set") rfl), List.forall_mem_cons.mpr ⟨He.free_ok X Y (c.2.fact 53 (f := .free "sorted") rfl), fun _ q => nomatch q⟩⟩⟩⟩⟩⟩⟩⟩⟩⟩⟩⟩⟩⟩⟩⟩⟩⟩
    exact key b hb
  co := fun y v hv => con_ok X Y c.1 (lookup_mem (show consts.lookup y = some v from hv))
end
end HT
namespace HT
open PySem EV
local macro_rules | `(tactic| walk_at "evs1") => `(tactic| simp only [evalB, evalS, evalE, evalEs, evalO, evalIt, evalIfs, partM, getP_v, getP_o, getP_s, getV_v, getV_s, truM_b, truM_n, truM_i, truM_s, truM_l, truM_t, optM_s, lenV_l, lenV_t, lenV_s, seqOf_l, seqOf_t, seqOf_s, out_ret, out_next, add_i, sub_i, int_i, cmp_lt, cmp_le, cmp_gt, cmp_ge, cmp_eq, cmp_ne, cmp_is, cmp_in, cmp_nin, slot_cell, slot_ol, slot_s, rec_join, rec_sw, rec_ew, rec_count, rec_index, rec_indexl, rec_get, guard_t, asg_nm, asg_t0, asg_t2, ownD, pure_bind, bind_assoc, bltV, blt1, blt2, binV, isTy_int_int, isTy_int_str, isTy_int_bool, isTy_int_tuple, isTy_int_list, isTy_bl_int, isTy_bl_str, isTy_bl_bool, isTy_bl_tuple, isTy_bl_list, isTy_str_int, isTy_str_str, isTy_str_bool, isTy_str_tuple, isTy_str_list, isTy_tup_int, isTy_tup_str, isTy_tup_bool, isTy_tup_tuple, isTy_tup_list, isTy_lst_int, isTy_lst_str, isTy_lst_bool, isTy_lst_tuple, isTy_lst_list, isTy_dict_int, isTy_dict_str, isTy_dict_bool, isTy_dict_tuple, isTy_dict_list, isTy_non_int, isTy_non_str, isTy_non_bool, isTy_non_tuple, isTy_non_list, List.getElem?_cons_zero, List.getElem?_cons_succ, List.getElem?_nil, if_true, if_false, ↓reduceIte, Bool.false_eq_true, Bool.not_true, Bool.not_false, List.map_cons, List.map_nil, List.length_cons, List.length_nil, Nat.reduceSub, Nat.reduceAdd, List.replicate_succ, List.replicate_zero, wipeE, List.set_cons_zero, List.set_cons_succ, List.set_nil, List.cons_append, List.nil_append])
local macro_rules | `(tactic| walk_at "evs") => `(tactic| try walk_at "evs1")
local macro_rules | `(tactic| walk_at "evt") => `(tactic| repeat (first | walk_at "evs1" | simp only [idx_sys0, idx_sys1, idx_rule0, idx_rule1, idx_pr0, idx_pr1, idx_tup0, idx_tup1, eqM_int, eqM_str, starts_s, slc_from, slc_to, slc_s, tup_l, list_s, str_s, isM_nn, isM_in, isM_bn, isM_sn, isM_bb, cmp_isn, neg_i, par2, par3, asg_rP, asg_prP, asg_t2v, count_sc]))
local macro_rules | `(tactic| walk_at "evu") => `(tactic| repeat (first | walk_at "evs1" | simp only [idx_tup0, idx_tup1, two_of]))
local macro_rules | `(tactic| walk_at "evo") => `(tactic| repeat (first | walk_at "evs1" | simp only [idx_sys0, idx_sys1, idx_rule0, idx_rule1, idx_ov0, idx_ov1, idx_ov2, parT]))
theorem base : Base G where
  tup := ⟨_, rfl, rfl⟩
  whole := ⟨_, rfl, rfl⟩
  lets := ⟨_, rfl, rfl⟩
  rule := ⟨_, rfl, rfl⟩
  sys := ⟨_, rfl, rfl⟩
theorem words : Words G := { base with
  nsys := ⟨_, rfl, rfl⟩
  nword := ⟨_, rfl, rfl⟩
  nboth := ⟨_, rfl, rfl⟩ }
theorem fRoll : Fn G "_law_roll" 2 4 (rollB 30931 7933 2147482951 257 2147483059 811) := ⟨_, rfl, rfl⟩
theorem draws : Draws G where
  roll := fun n many h1 h2 => law_roll fRoll (by unfold RollC; decide) (by decide) n many h1 h2
  some_ := ⟨_, rfl, rfl⟩
theorem fWord : Fn G "_law_word" 3 4 wordB := ⟨_, rfl, rfl⟩
theorem fSystem : Fn G "_law_system" 1 8 systemB := ⟨_, rfl, rfl⟩
theorem fSame : Fn G "_law_same" 2 3 sameB := ⟨_, rfl, rfl⟩
theorem stpC : StpC G := { base with
  behind := ⟨_, rfl, rfl⟩
  can := ⟨_, rfl, rfl⟩
  fstep := ⟨_, rfl, rfl⟩ }
theorem stpI : StpI G := { words, stpC with
  plc := ⟨_, rfl, rfl⟩
  stin := ⟨_, rfl, rfl⟩ }
theorem ovG : Ovs G := { stpI with
  agr := ⟨_, rfl, rfl⟩
  ovin := ⟨_, rfl, rfl⟩
  win := ⟨_, rfl, rfl⟩
  sin := ⟨_, rfl, rfl⟩
  fov := ⟨_, rfl, rfl⟩
  nov := ⟨_, rfl, rfl⟩ }
theorem ovL : OvL G := { ovG with
  nst := ⟨_, rfl, rfl⟩
  ndo := ⟨_, rfl, rfl⟩
  met := ⟨_, rfl, rfl⟩
  wbe := ⟨_, rfl, rfl⟩
  iov := ⟨_, rfl, rfl⟩
  owo := ⟨_, rfl, rfl⟩
  osi := ⟨_, rfl, rfl⟩
  same := ⟨_, rfl, rfl⟩ }
theorem fPair : Fn G "_law_pair_right" 4 17 pairB := ⟨_, rfl, rfl⟩
theorem fSteps : Fn G "_law_steps" 2 5 stepsB := ⟨_, rfl, rfl⟩
theorem okSame_prs (n : Nat) (ss : List (Nat × Nat)) (h : ss.length ≤ 1000) : okSame (n + 3) (.tup (ss.map prP)) = true := by
  simp only [okSame, Bool.and_eq_true, decide_eq_true_eq, List.all_eq_true]
  refine ⟨by rw [List.length_map]; exact h, fun x hx => ?_⟩
  obtain ⟨k, _, rfl⟩ := List.mem_map.mp hx
  rfl
theorem later {rs : List Rl} {w : List Nat} {i : Nat} {s t : Nat × Nat} (hi : (steps rs w)[i]? = some s) (ht : t ∈ (steps rs w).drop (i + 1)) : leN s t ∧ s ≠ t := by
  have h1 := List.pairwise_iff_getElem.mp (steps_sorted rs w)
  have h2 := List.pairwise_iff_getElem.mp (steps_nodup rs w)
  obtain ⟨j, hj, rfl⟩ := List.mem_iff_getElem.mp ht
  obtain ⟨h0, rfl⟩ := List.getElem?_eq_some_iff.mp hi
  rw [List.length_drop] at hj
  rw [List.getElem_drop]
  exact ⟨h1 i (i + 1 + j) h0 (by omega) (by omega), h2 i (i + 1 + j) h0 (by omega) (by omega)⟩
def cE (m : Nat) : Ev := [.no, .val .cell] ++ List.replicate (m - 2) .no
-- slots: ['script', 'cup', 'turn', 'system', 'word', 'steps', 'at', 'one', 'other', 'turns', 'both', 'told']
theorem law_true : Does (evalB (evalF G 41) bL (cE 12) >>= outV) fun v => v = .bl true := by
  unfold bL cE
  walk_at "evs"
  rw [rng1 (n := 12) (by decide) (by omega) (by omega)]
  walk_at "evs"
  refine Does.seq (forL_same (fun e => ∃ s2 s3 s4 s5 s6 s7 s8 s9 s10 s11, e = [.no, .val .cell, s2, s3, s4, s5, s6, s7, s8, s9, s10, s11]) ⟨_, _, _, _, _, _, _, _, _, _, rfl⟩ fun x hx e he => ?_) fun o ho => ?_
  · obtain ⟨s2, s3, s4, s5, s6, s7, s8, s9, s10, s11, rfl⟩ := he
    walk_at "evs"
    refine Does.seq (law_system draws fWord fSystem 37) fun v hv => ?_
    obtain ⟨k, rs, rfl, hs⟩ := hv
    have m8 := hs.m8
    walk_at "evt"
    refine Does.seq (law_word draws fWord 38 hs.n1 9 (by omega)) fun v hv => ?_
    obtain ⟨w, rfl, hw, h9⟩ := hv
    walk_at "evs"
    rw [law_steps fSteps 40 m8 (by omega)]
    walk_at "evs"
    have sl := steps_len8 hs w
    rw [steps_of stpI ⟨_, rfl, rfl⟩ 35 hs hw (by omega)]
    walk_at "evt"
    rw [law_same fSame 40 _ (okSame_prs 37 _ (show (steps rs w).length ≤ 1000 by omega))]
    walk_at "evs"
    rw [show ltOf (.lst ((steps rs w).map prP)) = some ((steps rs w).map prP) from rfl]
    walk_at "evs"
    rw [enm_map]
    refine Does.seq (forL_same (fun e => ∃ s6 s7 s8, e = [.no, .val .cell, .val x, .val (sP k rs), .val (.str w), .val (.lst ((steps rs w).map prP)), s6, s7, s8, s9, s10, s11]) ⟨_, _, _, rfl⟩ fun y hy e he => ?_) fun o ho => ?_
    · obtain ⟨s6, s7, s8, rfl⟩ := he
      obtain ⟨⟨s, i⟩, hsi, rfl⟩ := List.mem_map.mp hy
      have hsi := (List.mk_mem_zipIdx_iff_getElem? (l := steps rs w)).mp hsi
      rw [asg_enr2]
      walk_at "evs"
      have sm : s ∈ steps rs w := List.mem_of_getElem? hsi
      rw [show ((i : Int) + 1) = ((i + 1 : Nat) : Int) by omega, show slcV (.lst ((steps rs w).map prP)) (some ((i + 1 : Nat) : Int)) none = pure (.lst (((steps rs w).drop (i + 1)).map prP)) by
        show (pure (.lst (cut ((steps rs w).map prP) (some ((i + 1 : Nat) : Int)) none)) : M PV) = _
        rw [cut_from, List.map_drop]]
      walk_at "evs"
      refine Does.seq (forL_same (fun e => ∃ s8, e = [.no, .val .cell, .val x, .val (sP k rs), .val (.str w), .val (.lst ((steps rs w).map prP)), .val (.int i), .val (prP s), s8, s9, s10, s11]) ⟨_, rfl⟩ fun y hy e he => ?_) fun o ho => ?_
      · obtain ⟨s8, rfl⟩ := he
        obtain ⟨t, ht, rfl⟩ := List.mem_map.mp hy
        obtain ⟨l1, l2⟩ := later hsi ht
        walk_at "evs"
        rw [pair_right ovL fPair 34 hs hw h9 sm (List.mem_of_mem_drop ht) l1 l2]
        walk_at "evs"
        exact Does.pure ⟨_, .inl rfl, _, rfl⟩
      · obtain ⟨e, rfl, s8, rfl⟩ := ho
        walk_at "evs"
        exact Does.pure ⟨_, .inl rfl, _, _, _, rfl⟩
    · obtain ⟨e, rfl, s6, s7, s8, rfl⟩ := ho
      walk_at "evs"
      exact Does.pure ⟨_, .inl rfl, _, _, _, _, _, _, _, _, _, _, rfl⟩
  · obtain ⟨e, rfl, s2, s3, s4, s5, s6, s7, s8, s9, s10, s11, rfl⟩ := ho
    exact Does.of_eq (a := .bl true) (by funext c; kernel_rfl) rfl
theorem whole (cell : Int) (hc : 0 ≤ cell) : ∃ i j c', evalB (evalF G 40) bC [.no, .val (.int cell)] [] = .ok (.ret (.lst [.int i, .int j])) [] ∧ (evalB (evalF G (40 + 1)) bL (cE 12) >>= outV) [.int i, .int j] = .ok (.bl true) c' :=
  whole_of (d := 71) (a := 337) (b := 4253) (m := 2077510021) (e := 193) rfl (by decide) (by decide) (by decide) law_true cell
end HT

namespace HT
open PySem PySem.Spec PyProof.Rows L2 EV
theorem facts {P : Program} {w : World} {K : PySem.W.Frag} {h : Heap} {mg : Str → Option Value} {f : Addr} (X : K.In h) (Y : h.Ns mainGlobals mg) (hfa : mg ("law" : Str) = some (.ref f)) (c : SaysT consts fa fn K) :
    ∃ fd : FuncData, (∀ (s : Shared) (v : Value), BindsTo s fd ⟨[v], []⟩ [("script", v)]) ∧ ∀ base : Heap, K.In base → base.Ns mainGlobals mg → FnOk P w K mg base C8.CX0 (40 + 2) f fd ["script"] (spLaw K) := by
  obtain ⟨fdc, Fc⟩ := c.2.def_ 27 (d := d48) rfl
  obtain ⟨fd, F⟩ := c.2.def_ 35 (d := d56) rfl
  have e := hfa.symm.trans (He.glo_ok X Y (c.2.fact 35 (f := .glo "law") rfl))
  cases e
  have b := FunD.bindsA (ps := ["script"]) F fun _ _ _ _ _ _ us hl => match us, hl with | [_], _ => rfl
  refine ⟨fd, fun s v => b s [v] rfl, fun base _ _ => ?_⟩
  refine law_ok (n := 40) (mf X Y c) Fc (He.glo_ok X Y (c.2.fact 27 (f := .glo "_law_cup") rfl)) (Fc.bindsN fun _ _ _ _ _ _ us hl => match us, hl with | [_], _ => rfl) (C8.fnScope_by (by decide +kernel)) (s1 := (defBody (top 48)).getD 0 (.Pass ⟨0, 0, 0, 0⟩)) (by kernel_rfl) (by decide +kernel) (by decide +kernel) (by decide +kernel) (.inl (by decide +kernel)) (.inl (by decide +kernel)) tC
    F (C8.fnScope_by (N := N56) (by decide +kernel)) (t1 := (defBody (top 56)).getD 0 (.Pass ⟨0, 0, 0, 0⟩)) (by kernel_rfl) (by decide +kernel) (by decide +kernel) (by decide +kernel) (by decide +kernel) (.inl (by decide +kernel)) (by first | exact .inl (by decide +kernel) | exact .inr (by decide +kernel)) tL fun cell hc => ?_
  rw [tL2]
  exact whole cell hc
end HT
open PySem PySem.W PySem.Calls PyProof.Rows
theorem PySem.Challenge.cw_wordsrest_k29_whole_steps_apart_and_over_holds : PySem.Challenge.rw_wordsrest_k29_whole_steps_apart_and_over.Holds := by
  w_on; o_law
  refine HandSHeadRun.head_any (r := OpenLaw.row PySem.Challenge.rw_wordsrest_k29_whole_steps_apart_and_over) (q := view (OpenLaw.row PySem.Challenge.rw_wordsrest_k29_whole_steps_apart_and_over).prog [56]) (H := HT.hk) (ob := HT.ob) (M := 4000) (loose := HT.nms) (d := HandSHeadRun.topDef (OpenLaw.row PySem.Challenge.rw_wordsrest_k29_whole_steps_apart_and_over).prog 56) (kwd := []) HT.ob_eq
    (by kernel_rfl) (fun s => by kernel_rfl) HT.run (by kernel_rfl) (by kernel_rfl) (by kernel_rfl) (by rfl) (by first | assumption | decide +kernel) (by decide +kernel) ⟨rfl, rfl, rfl, rfl, rfl, by decide +kernel⟩ ?hw ?hc
  case hw => w_witness2
  case hc =>
    refine L2.walk_ofE (l := PySem.Challenge.rw_wordsrest_k29_whole_steps_apart_and_over) (n := 63) (k := 40 + 2) (x := "script") (CX := C8.CX0) rfl (by decide) (by kernel_rfl) ⟨rfl, by decide, by decide⟩ ?F (fun _ _ _ _ z => z)
    intro w mg fa h Y G hmg0
    obtain ⟨K, KX, c⟩ := Y
    have hmg : mg ("law" : PySem.Str) = some (.ref fa) := by
      have e : (HandSHeadRun.topDef (OpenLaw.row PySem.Challenge.rw_wordsrest_k29_whole_steps_apart_and_over).prog 56).name = ("law" : PySem.Str) := by kernel_rfl
      rw [← e]
      exact hmg0
    obtain ⟨fd, hb, hF⟩ := HT.facts (P := (PySem.Challenge.rw_wordsrest_k29_whole_steps_apart_and_over).prog) (w := w) KX G hmg c
    exact ⟨K, fd, EV.spLaw K, KX, hb, fun H a ns hl _ hS => ⟨a, ns, rfl, hS, by omega, fun _ => rfl⟩, hF⟩
