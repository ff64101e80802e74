import PyProof.Rows.All
import Wide.All
import OpenK.AllK
import Wide.FinOn
import KE.KStateDown
import Lean
import PySem.PyData
import PyProof.ReprReads
import HandS.List
import HandS.Text
import KE.IntTextLaws
import HandS.ForMost
import HandS.ForExc
import HandS.More
import HandS.HeadHook2
import HandS.Wide
import HandS.TupMul
import KE.DataCmp
import KE.KTupSum
import KE.DatumOrd
import HandS.SortInts
import PyProof.TupleOfSeq
import HandS.SetFor
import HandS.Strs
import KE.GoesMore
import HandS.Zip
import KE.GoesZip
import KE.GoesEnum
import HandS.Iter
import HandS.Style
import PyProof.SeqIndex
import HandS.Flow
import HandS.Star
import HandS.Property
import HandS.ExcOwn
import HandS.Defaults
import HandS.Ends
import HandS.TryOnly
import HandS.Comp
import HandS.Conv
import HandS.IsInst
import HandS.HeadEnd
import HandS.EndBits
import HandS.Head0
import HandS.Head1
import HandS.Head2
import PySem.Challenge.RW_rightbetween_k36_whole_pairings_by_all_p
set_option Elab.async false
set_option linter.all false
set_option maxRecDepth 100000
set_option maxHeartbeats 0
set_option exponentiation.threshold 2000
/-! Cr1: data, the abstract store, the Core language and what it asks (weakest preconditions). -/
namespace Cr
open PySem

/-- pure data -/
inductive D where
  | non | bl (b : Bool) | int (i : Int) | str (s : List Nat)
  | tup (xs : List D) | lst (xs : List D)
  | dct (ks : List D) (vs : List D)
  | set (xs : List D)
  | obj (c : Nat) (vs : List D)
  | exn (c : Nat) (v : D)

mutual
def eqD : D → D → Bool
  | .non, .non => true
  | .bl a, .bl b => a == b
  | .bl a, .int j => (if a then 1 else 0) == j
  | .int i, .bl b => i == (if b then 1 else 0)
  | .int i, .int j => i == j
  | .str x, .str y => x == y
  | .lst xs, .lst ys => eqDs xs ys
  | .tup xs, .tup ys => eqDs xs ys
  | _, _ => false
def eqDs : List D → List D → Bool
  | [], [] => true
  | x :: xs, y :: ys => eqD x y && eqDs xs ys
  | _, _ => false
end
mutual
/-- None, bools, ints, texts, lists, tuples of such, at most so deep -/
def flatD : Nat → D → Bool
  | _, .non => true
  | _, .bl _ => true
  | _, .int _ => true
  | _, .str _ => true
  | k, .tup xs => match k with | 0 => false | k + 1 => flatDs k xs
  | k, .lst xs => match k with | 0 => false | k + 1 => flatDs k xs
  | _, _ => false
def flatDs : Nat → List D → Bool
  | _, [] => true
  | k, x :: xs => flatD k x && flatDs k xs
end
/-- the depth at which data are compared -/
abbrev dep : Nat := 40
mutual
/-- which of two data is less; none where Python would raise, or it is not served -/
def ltD : D → D → Option Bool
  | .int i, .int j => some (decide (i < j))
  | .str x, .str y => some (decide (x < y))
  | .tup xs, .tup ys => ltDs xs ys
  | .lst xs, .lst ys => ltDs xs ys
  | _, _ => none
def ltDs : List D → List D → Option Bool
  | [], [] => some false
  | [], _ :: _ => some true
  | _ :: _, [] => some false
  | x :: xs, y :: ys => if eqD x y = true then ltDs xs ys else ltD x y
end

mutual
/-- as the kit's data -/
def toPy : D → PyData
  | .non => .none
  | .bl b => .bool b
  | .int i => .int i
  | .str s => .str ⟨s.toArray⟩
  | .tup xs => .tuple (toPys xs)
  | .lst xs => .list (toPys xs)
  | _ => .none
def toPys : List D → List PyData
  | [] => []
  | x :: xs => toPy x :: toPys xs
end
mutual
/-- room for repr -/
def szD : D → Nat
  | .non => 5
  | .bl _ => 5
  | .int i => if i.natAbs.log2 < 1920 then 2000 else 2 ^ 30
  | .str s => 10 * s.length + 2
  | .tup xs => 4 + szDs xs
  | .lst xs => 4 + szDs xs
  | _ => 2 ^ 30
def szDs : List D → Nat
  | [] => 0
  | x :: xs => szD x + 2 + szDs xs
end
/-- repr, of what has one here -/
def shD (x : D) : List Nat := (toPy x).shown.cps.toList

/-- what a name holds: data, or a cell of the store -/
inductive A where
  | d (x : D)
  | ptr (n : Nat)
inductive Cell where
  | lst (xs : List D)
  | dct (ks : List D) (vs : List D)
  | dcT (ks : List D) (vs : List D)
  | lok (o : Obj) (kvs : List (L2.Key × L2.V)) (ks : List D) (vs : List D)
  | obj (c : Nat) (fs : List (Option A))
  | lsA (xs : List A)
/-- cells by their addresses -/
abbrev Store := Nat → Option Cell
abbrev Env := List (Option A)
abbrev KA := A → Store → Prop
abbrev KX := Nat → D → Store → Prop

inductive BOp where
  | add | sub | mul | fdiv | mod | pow | shl | shr | band | bor
  deriving DecidableEq
inductive COp where
  | eq | ne | lt | le | gt | ge | is | isn | inn | nin | eqE | neE
  deriving DecidableEq
/-- the built-in functions and types that are called by their names -/
inductive Bi where
  | len | int | str | tuple | list | all | any | sum | sorted | min | max | abs | set | repr | dict | minP
  deriving DecidableEq
/-- the methods of built-in types -/
inductive Bm where
  | append | extend | pop | insert | index | count | remove | join | split | get | update | values | items | upper
  deriving DecidableEq
inductive Bt where
  | str | list | dict | tuple
  deriving DecidableEq
inductive Ty where
  | int | bool | str | tuple | list | own (c : Nat) | exn (c : Nat)
  deriving DecidableEq

inductive Tg where
  | slot (i : Nat)
  | tup (ts : List Tg)

mutual
inductive CE where
  | slot (i : Nat)
  | lit (d : D)
  | glb (x : Nat)
  | bin (cell : Bool) (op : BOp) (a b : CE)
  | cmp (op : COp) (a b : CE)
  | chain (op op' : COp) (a b c : CE)
  | and (a b : CE)
  | or (a b : CE)
  | not (a : CE)
  | ife (c a b : CE)
  | neg (a : CE)
  | tup (es : CEs)
  | lst (cell : Bool) (es : CEs)
  | idx (a b : CE)
  | sli (cell : Bool) (a : CE) (lo hi : CO)
  | rev (cell : Bool) (a : CE)
  | srtSet (cell : Bool) (a : CE)
  | attr (a : CE) (f : Nat)
  | call (f : Nat) (es : CEs)
  | callK (f n : Nat) (es ks : CEs)
  | ctor (c : Nat) (cell : Bool) (es : CEs)
  | meth (a : CE) (m : Nat) (es : CEs)
  | bi (b : Bi) (cell : Bool) (es : CEs)
  | bm (m : Bm) (cell : Bool) (a : CE) (es : CEs)
  | rng (cell : Bool) (es : CEs)
  | comp (cell : Bool) (elt : CE) (t : Tg) (it : CI) (conds : CEs) (own : List Nat)
  | dct
  | dctT
  | dctL (es : CEs)
  | isi (a : CE) (t : Ty)
inductive CEs where
  | nil
  | cons (e : CE) (r : CEs)
  | star (e : CE) (r : CEs)
inductive CO where
  | no
  | yes (e : CE)
inductive CI where
  | seq (e : CE)
  | rng1 (a : CE)
  | rng2 (a b : CE)
  | enum (e : CE)
  | zip (a b : CE)
end
inductive TA where
  | slot (i : Nat)
  | tup (ts : List TA)
  | fld (o : CE) (f : Nat)
  | sub (o i : CE)
  | subT (o : CE) (es : CEs)
inductive CS where
  | pass
  | expr (e : CE)
  | ret (e : CE)
  | asg (t : TA) (e : CE)
  | par (ts : List TA) (es : CEs)
  | ife (c : CE) (a b : List CS)
  | for_ (t : Tg) (it : CI) (body : List CS)
  | forD (t : Tg) (i : Nat) (body : List CS)
  | while_ (c : CE) (body : List CS)
  | raise (c : Nat) (e : CE)
  | brk
  | cont

structure CInfo where
  fields : List Nat
  props : List (Nat × Nat)
  meths : List (Nat × Nat)
  init : Option Nat
structure Fn where
  np : Nat
  ns : Nat
  body : List CS
  frz : Bool
structure Prog where
  fns : List Fn
  cls : List CInfo
  glb : List D

/-! ### the store -/
def put (μ : Store) (a : Nat) (c : Cell) : Store := fun b => if b = a then some c else μ b
def del (μ : Store) (a : Nat) : Store := fun b => if b = a then none else μ b
/-- what one of them knows, the other one knows, too -/
def Sub (μ' μ : Store) : Prop := ∀ a c, μ' a = some c → μ a = some c
/-- what a thing reads as -/
def vw (μ : Store) : A → Option D
  | .d x => some x
  | .ptr n => match μ n with
    | some (.lst xs) => some (.lst xs)
    | some (.dct ks vs) => some (.dct ks vs)
    | some (.dcT ks vs) => some (.set [.lst ks, .lst vs])
    | some (.lok _ _ ks vs) => some (.dct ks vs)
    | _ => none
/-- all fields are data -/
def allD : List (Option A) → Option (List D)
  | [] => some []
  | some (.d x) :: r => (allD r).map (x :: ·)
  | _ => none
/-- a cell is given up: what it holds is data from then on -/
def frz (μ : Store) : A → Option (D × Store)
  | .d x => some (x, μ)
  | .ptr n => match μ n with
    | some (.lst xs) => some (.lst xs, del μ n)
    | some (.dct ks vs) => some (.dct ks vs, del μ n)
    | some (.obj c fs) => (allD fs).map fun vs => (.obj c vs, del μ n)
    | _ => none
def toD (μ : Store) (a : A) (K : D → Store → Prop) : Prop := match frz μ a with
  | some (x, μ') => K x μ'
  | none => False
def toDs (μ : Store) : List A → (List D → Store → Prop) → Prop
  | [], K => K [] μ
  | a :: r, K => toD μ a fun x μ1 => toDs μ1 r fun xs μ2 => K (x :: xs) μ2
/-- read only -/
def rd (μ : Store) (a : A) (K : D → Prop) : Prop := match vw μ a with
  | some x => K x
  | none => False
def rds (μ : Store) : List A → (List D → Prop) → Prop
  | [], K => K []
  | a :: r, K => rd μ a fun x => rds μ r fun xs => K (x :: xs)
/-- a new cell, wherever it comes to stand -/
def new (c : Cell) (μ : Store) (K : KA) : Prop := ∀ a, μ a = none → K (.ptr a) (put μ a c)
def finL (cell : Bool) (xs : List D) (μ : Store) (K : KA) : Prop :=
  match cell with
  | true => new (.lst xs) μ K
  | false => K (.d (.lst xs)) μ

/-! ### operators on data -/
abbrev line : Nat := 16777216
def truth : D → Option Bool
  | .non => some false
  | .bl b => some b
  | .int i => some (i != 0)
  | .str s => if s.length ≤ line then some (!s.isEmpty) else none
  | .tup xs => some (!xs.isEmpty)
  | .lst xs => some (!xs.isEmpty)
  | _ => none
/-- both together below a million bits -/
def MulOk (i j : Int) : Prop := i.natAbs.log2 + j.natAbs.log2 < 1000000
def DivOk (j : Int) : Prop := j ≠ 0 ∧ j.natAbs.log2 < 9000
def PowOk (i j : Int) : Prop := 0 ≤ j ∧ ((i.natAbs.log2 + 1 : Nat) : Int) * j ≤ 2 ^ 27
def opB : BOp → D → D → (D → Prop) → Prop
  | .add, .int i, .int j, K => K (.int (i + j))
  | .add, .str x, .str y, K => x.length + y.length ≤ line ∧ K (.str (x ++ y))
  | .add, .lst x, .lst y, K => x.length + y.length ≤ line ∧ K (.lst (x ++ y))
  | .add, .tup x, .tup y, K => x.length + y.length ≤ line ∧ K (.tup (x ++ y))
  | .sub, .int i, .int j, K => K (.int (i - j))
  | .mul, .int i, .int j, K => MulOk i j ∧ K (.int (i * j))
  | .mul, .lst x, .int k, K => -(2 ^ 63) ≤ k ∧ k < 2 ^ 63 ∧ x.length * k.toNat ≤ line ∧ K (.lst (List.replicate k.toNat x).flatten)
  | .mul, .tup x, .int k, K => x ≠ [] ∧ 1 ≤ k ∧ k ≤ 1000 ∧ x.length ≤ 1000 ∧ K (.tup (List.replicate k.toNat x).flatten)
  | .fdiv, .int i, .int j, K => DivOk j ∧ K (.int (i.fdiv j))
  | .mod, .int i, .int j, K => j ≠ 0 ∧ K (.int (i.fmod j))
  | .shl, .int i, .int j, K => 0 ≤ j ∧ j ≤ 1000000 ∧ i.natAbs < 2 ^ 64 ∧ K (.int (i * 2 ^ j.toNat))
  | .pow, .int i, .int j, K => PowOk i j ∧ K (.int (i ^ j.toNat))
  | _, _, _, _ => False
/-- what may be a key here -/
def isKey : D → Bool
  | .int _ => true
  | .str _ => true
  | _ => false
/-- a tuple that may be a key here -/
def isKeyT : D → Bool
  | .tup xs => xs.all isKey
  | _ => false
def lookD (k : D) : List D → List D → Option D
  | x :: ks, v :: vs => if eqD x k = true then some v else lookD k ks vs
  | _, _ => none
def inD (x : D) (xs : List D) : Bool := xs.any fun y => eqD y x
def isNon : D → Bool
  | .non => true
  | _ => false
def opC : COp → D → D → (Bool → Prop) → Prop
  | .eq, .int i, .int j, K => K (decide (i = j))
  | .eq, .str i, .str j, K => K (decide (i = j))
  | .eq, x, y, K => flatD dep x = true ∧ flatD dep y = true ∧ K (eqD x y)
  | .ne, .int i, .int j, K => K (!decide (i = j))
  | .ne, .str i, .str j, K => K (!decide (i = j))
  | .ne, x, y, K => flatD dep x = true ∧ flatD dep y = true ∧ K (!eqD x y)
  | .lt, .int i, .int j, K => K (decide (i < j))
  | .lt, x, y, K => flatD dep x = true ∧ flatD dep y = true ∧ ∃ b, ltD x y = some b ∧ K b
  | .gt, .int i, .int j, K => K (decide (j < i))
  | .gt, x, y, K => flatD dep x = true ∧ flatD dep y = true ∧ ∃ b, ltD y x = some b ∧ K b
  | .le, .int i, .int j, K => K (decide (i ≤ j))
  | .le, .str i, .str j, K => K (!decide (j < i))
  | .ge, .int i, .int j, K => K (decide (j ≤ i))
  | .ge, .str i, .str j, K => K (!decide (i < j))
  | .eqE, .lst xs, .lst [], K => K xs.isEmpty
  | .neE, .lst xs, .lst [], K => K (!xs.isEmpty)
  | .is, x, .non, K => K (isNon x)
  | .isn, x, .non, K => K (!isNon x)
  | .is, .bl a, .bl b, K => K (a == b)
  | .isn, .bl a, .bl b, K => K (!(a == b))
  | .inn, x, .str y, K => match x with
    | .str [c] => K (decide (c ∈ y))
    | _ => False
  | .nin, x, .str y, K => match x with
    | .str [c] => K (!decide (c ∈ y))
    | _ => False
  | .inn, x, .lst ys, K => flatD dep x = true ∧ flatDs dep ys = true ∧ K (inD x ys)
  | .nin, x, .lst ys, K => flatD dep x = true ∧ flatDs dep ys = true ∧ K (!inD x ys)
  | .inn, x, .dct ks vs, K => isKey x = true ∧ K (lookD x ks vs).isSome
  | .nin, x, .dct ks vs, K => isKey x = true ∧ K (!(lookD x ks vs).isSome)
  | .inn, x, .set ys, K => isKeyT x = true ∧ (match ys with
    | [.lst ks, .lst vs] => K (lookD x ks vs).isSome
    | _ => False)
  | .nin, x, .set ys, K => isKeyT x = true ∧ (match ys with
    | [.lst ks, .lst vs] => K (!(lookD x ks vs).isSome)
    | _ => False)
  | .inn, x, .tup ys, K => flatD dep x = true ∧ flatDs dep ys = true ∧ K (inD x ys)
  | .nin, x, .tup ys, K => flatD dep x = true ∧ flatDs dep ys = true ∧ K (!inD x ys)
  | _, _, _, _ => False
end Cr


/-! Cr2: built-ins on data, weakest preconditions. -/
namespace Cr
open PySem

/-! ### numbers as texts -/
abbrev numL (n : Nat) : List Nat := TL.numL n
def strI (i : Int) : List Nat := if i < 0 then 45 :: numL i.natAbs else numL i.natAbs
def isDig (c : Nat) : Bool := 48 ≤ c && c ≤ 57
def numVal (s : List Nat) : Nat := NumText.digitsVal s
/-- the integer that int() reads: decimal figures, a minus ahead perhaps; none: not served -/
def intD : List Nat → Option Int
  | [] => none
  | 45 :: r => if !r.isEmpty && r.all isDig then some (-(numVal r : Int)) else none
  | s => if s.all isDig then some (numVal s : Int) else none
def boolsOf : List D → Option (List Bool)
  | [] => some []
  | .bl b :: r => (boolsOf r).map (b :: ·)
  | _ => none
def intsOf : List D → Option (List Int)
  | [] => some []
  | .int i :: r => (intsOf r).map (i :: ·)
  | _ => none
def strsOf : List D → Option (List (List Nat))
  | [] => some []
  | .str s :: r => (strsOf r).map (s :: ·)
  | _ => none
def listsOf : List D → Option (List (List D))
  | [] => some []
  | .lst s :: r => (listsOf r).map (s :: ·)
  | _ => none
mutual
/-- a row of numbers by which data stand in order -/
def codeD : D → List Int
  | .non => [0]
  | .bl b => [1, if b then 1 else 0]
  | .int i => [1, i]
  | .str s => 2 :: (s.map fun c => ((c + 1 : Nat) : Int)) ++ [0]
  | .tup xs => 3 :: codeDs xs
  | .lst xs => 4 :: codeDs xs
  | _ => [5]
def codeDs : List D → List Int
  | [] => [0]
  | x :: xs => 1 :: (codeD x ++ codeDs xs)
end
def ltC (x y : D) : Bool := decide (codeD x < codeD y)
def sortD (xs : List D) : List D := xs.mergeSort fun x y => !ltC y x
/-- what sorted takes here -/
def sortB (xs : List D) : Bool := (intsOf xs).isSome
def seqOf : D → Option (List D)
  | .lst xs => some xs
  | .tup xs => some xs
  | _ => none
/-- a text cut at each sign c -/
def splitC (c : Nat) : List Nat → List (List Nat)
  | [] => [[]]
  | x :: r => if x = c then [] :: splitC c r else match splitC c r with
    | [] => [[x]]
    | p :: ps => (x :: p) :: ps
/-- the total length of texts with separators -/
def joinLen (n : Nat) (ps : List (List Nat)) : Nat := (ps.map List.length).sum + n * ps.length

/-- pairs of numbers -/
def pairsI : List D → Option (List (Int × Int))
  | [] => some []
  | .tup [.int a, .int b] :: r => (pairsI r).map ((a, b) :: ·)
  | _ => none
def opBi : Bi → List D → (D → Prop) → Prop
  | .len, [.str s], K => s.length ≤ line ∧ K (.int s.length)
  | .len, [.lst xs], K => K (.int xs.length)
  | .len, [.tup xs], K => K (.int xs.length)
  | .len, [.dct ks _], K => K (.int ks.length)
  | .int, [.int i], K => K (.int i)
  | .int, [.bl b], K => K (.int (if b then 1 else 0))
  | .int, [.str s], K => s.length ≤ 640 ∧ ∃ n, intD s = some n ∧ K (.int n)
  | .str, [.int i], K => i.natAbs.log2 < 1920 ∧ K (.str (strI i))
  | .tuple, [.lst xs], K => K (.tup xs)
  | .tuple, [.tup xs], K => K (.tup xs)
  | .list, [.lst xs], K => K (.lst xs)
  | .list, [.tup xs], K => K (.lst xs)
  | .list, [.dct ks _], K => K (.lst ks)
  | .all, [.lst xs], K => ∃ bs, boolsOf xs = some bs ∧ K (.bl (bs.all id))
  | .any, [.lst xs], K => ∃ bs, boolsOf xs = some bs ∧ K (.bl (bs.any id))
  | .sum, [.lst xs], K => ∃ ns, intsOf xs = some ns ∧ K (.int ns.sum)
  | .sum, [.tup xs], K => ∃ ns, intsOf xs = some ns ∧ K (.int ns.sum)
  | .abs, [.int i], K => K (.int i.natAbs)
  | .sorted, [.lst xs], K => sortB xs = true ∧ xs.length ≤ line ∧ K (.lst (sortD xs))
  | .sorted, [.tup xs], K => sortB xs = true ∧ xs.length ≤ line ∧ K (.lst (sortD xs))
  | .sorted, [.dct ks _], K => sortB ks = true ∧ ks.length ≤ line ∧ K (.lst (sortD ks))
  | .repr, [.dct [] []], K => K (.str [123, 125])
  | .repr, [x], K => szD x ≤ line ∧ flatD dep x = true ∧ K (.str (shD x))
  | .max, [.int i, .int j], K => K (.int (if i < j then j else i))
  | .min, [.int i, .int j], K => K (.int (if j < i then j else i))
  | .max, [.lst xs], K => ∃ ns, intsOf xs = some ns ∧ ns ≠ [] ∧ ∀ m, m ∈ ns → (∀ y ∈ ns, y ≤ m) → K (.int m)
  | .min, [.lst xs], K => ∃ ns, intsOf xs = some ns ∧ ns ≠ [] ∧ ∀ m, m ∈ ns → (∀ y ∈ ns, m ≤ y) → K (.int m)
  | .max, [.tup xs], K => ∃ ns, intsOf xs = some ns ∧ ns ≠ [] ∧ ∀ m, m ∈ ns → (∀ y ∈ ns, y ≤ m) → K (.int m)
  | .minP, [.lst xs], K => ∃ ps, pairsI xs = some ps ∧ ps ≠ [] ∧ ∀ p, p ∈ ps → (∀ q ∈ ps, p.1 < q.1 ∨ (p.1 = q.1 ∧ p.2 ≤ q.2)) → K (.tup [.int p.1, .int p.2])
  | .min, [.tup xs], K => ∃ ns, intsOf xs = some ns ∧ ns ≠ [] ∧ ∀ m, m ∈ ns → (∀ y ∈ ns, m ≤ y) → K (.int m)
  | _, _, _ => False

/-- an index as Python takes it, of n items -/
def ixN (n : Nat) (i : Int) : Option Nat := if 0 ≤ i then (if i < n then some i.toNat else none) else if -(n : Int) ≤ i then some (i + n).toNat else none
def atI {α : Type} (xs : List α) (i : Int) : Option α := (ixN xs.length i).bind fun j => xs[j]?
def putK (k : D) : List D → List D
  | [] => [k]
  | x :: ks => if eqD x k = true then x :: ks else x :: putK k ks
def putV (k v : D) : List D → List D → List D
  | x :: ks, w :: vs => if eqD x k = true then v :: vs else w :: putV k v ks vs
  | _, _ => [v]
/-- a display's pairs -/
def pairsD : List D → Option (List D × List D)
  | [] => some ([], [])
  | k :: v :: r => (pairsD r).map fun p => (k :: p.1, v :: p.2)
  | _ => none
def putAll : List D → List D → List D → List D → List D × List D
  | k :: ks, v :: vs, xs, ws => putAll ks vs (putK k xs) (putV k v xs ws)
  | _, _, xs, ws => (xs, ws)
def opIx : D → D → (D → Prop) → Prop
  | .lst xs, .int i, K => ∃ x, atI xs i = some x ∧ K x
  | .tup xs, .int i, K => ∃ x, atI xs i = some x ∧ K x
  | .str s, .int i, K => s.length ≤ line ∧ ∃ c, atI s i = some c ∧ K (.str [c])
  | .dct ks vs, k, K => isKey k = true ∧ ∃ x, lookD k ks vs = some x ∧ K x
  | .set ys, k, K => isKeyT k = true ∧ (match ys with
    | [.lst ks, .lst vs] => ∃ x, lookD k ks vs = some x ∧ K x
    | _ => False)
  | _, _, _ => False
def sIx (n d : Nat) : Option Int → Nat
  | none => d
  | some v => if v < 0 then (v + (n : Int)).toNat else min v.toNat n
def cut {α : Type} (xs : List α) (lo hi : Option Int) : List α := (xs.drop (sIx xs.length 0 lo)).take (sIx xs.length xs.length hi - sIx xs.length 0 lo)
def opSl : D → Option Int → Option Int → (D → Prop) → Prop
  | .lst xs, lo, hi, K => K (.lst (cut xs lo hi))
  | .tup xs, lo, hi, K => K (.tup (cut xs lo hi))
  | .str s, lo, hi, K => s.length ≤ line ∧ K (.str (cut s lo hi))
  | _, _, _, _ => False
/-- sorted(set(whole numbers)) -/
def opSrtSet : D → (D → Prop) → Prop
  | .lst xs, K => ∃ ns, intsOf xs = some ns ∧ ns.length < 64 ∧ ∀ ms : List Int, ms.Pairwise (· < ·) → (∀ k : Int, k ∈ ms ↔ k ∈ ns) → K (.lst (ms.map D.int))
  | _, _ => False
def opRev : D → (D → Prop) → Prop
  | .lst xs, K => K (.lst xs.reverse)
  | .tup xs, K => K (.tup xs.reverse)
  | _, _ => False
/-- nothing that can be changed -/
def fixD : D → Bool
  | .lst _ => false
  | .dct _ _ => false
  | _ => true
/-- methods that only read -/
def opBm : Bm → D → List D → (D → Prop) → Prop
  | .join, .str s, [.lst xs], K => ∃ ps, strsOf xs = some ps ∧ joinLen s.length ps ≤ line ∧ K (.str (TL.joinL s ps))
  | .split, .str s, [.str [c]], K => s.length + 2 ≤ line ∧ c < 256 ∧ K (.lst ((splitC c s).map D.str))
  | .index, .lst xs, [x], K => flatD dep x = true ∧ flatDs dep xs = true ∧ ∃ j, xs.findIdx? (fun y => eqD y x) = some j ∧ K (.int j)
  | .count, .lst xs, [x], K => flatD dep x = true ∧ flatDs dep xs = true ∧ K (.int (xs.countP fun y => eqD y x))
  | .get, .dct ks vs, [k, x], K => isKey k = true ∧ K ((lookD k ks vs).getD x)
  | .get, .set ys, [k, x], K => isKeyT k = true ∧ (match ys with
    | [.lst ks, .lst vs] => K ((lookD k ks vs).getD x)
    | _ => False)
  | .values, .dct _ vs, [], K => K (.lst vs)
  | _, _, _, _ => False
/-- methods that change a list -/
def opMut : Bm → List D → List D → (D → List D → Prop) → Prop
  | .append, xs, [x], K => xs.length < line ∧ K .non (xs ++ [x])
  | .extend, xs, [.lst ys], K => xs.length + ys.length ≤ line ∧ K .non (xs ++ ys)
  | .pop, xs, [], K => ∃ y, xs[xs.length - 1]? = some y ∧ K y xs.dropLast
  | .pop, xs, [.int i], K => -(2 ^ 63) ≤ i ∧ i < 2 ^ 63 ∧ ∃ j y, ixN xs.length i = some j ∧ xs[j]? = some y ∧ K y (xs.eraseIdx j)
  | _, _, _, _ => False
/-- that give something new -/
def bmNew : Bm → Bool
  | .get => false
  | _ => true
def isMut : Bm → Bool
  | .append => true
  | .extend => true
  | .pop => true
  | .insert => true
  | .remove => true
  | .update => true
  | _ => false
/-- data, all of them -/
def dsOf : List A → Option (List D)
  | [] => some []
  | .d x :: r => (dsOf r).map (x :: ·)
  | _ => none
/-- the arguments of a method that reads; of get, only data -/
def rdz (m : Bm) (μ : Store) (as : List A) (K : List D → Prop) : Prop := match m with
  | .get => match dsOf as with
    | some ds => K ds
    | none => False
  | _ => rds μ as K
def fin (cell : Bool) (r : D) (μ : Store) (K : KA) : Prop := match cell, r with
  | true, .lst xs => new (.lst xs) μ K
  | true, .dct ks vs => new (.dct ks vs) μ K
  | false, r => K (.d r) μ
  | _, _ => False

/-! ### targets, loops -/
def items : D → Option (List D)
  | .lst xs => some xs
  | .tup xs => some xs
  | .str s => some (s.map fun c => .str [c])
  | _ => none
mutual
def wpTg : Tg → D → Env → (Env → Prop) → Prop
  | .slot i, x, ρ, K => K (ρ.set i (some (.d x)))
  | .tup ts, x, ρ, K => match x with
    | .tup xs => xs.length = ts.length ∧ wpTgs ts xs ρ K
    | .lst xs => xs.length = ts.length ∧ wpTgs ts xs ρ K
    | _ => False
def wpTgs : List Tg → List D → Env → (Env → Prop) → Prop
  | [], [], ρ, K => K ρ
  | t :: ts, x :: xs, ρ, K => wpTg t x ρ fun ρ1 => wpTgs ts xs ρ1 K
  | _, _, _, _ => False
end
/-- what a walked cell must still be -/
def still (src : Option (Nat × Cell)) (μ : Store) : Prop := match src with
  | none => True
  | some (n, c) => μ n = some c
/-- the new list stands in the cell a -/
def compLoop (a : Nat) (src : Option (Nat × Cell)) (f : D → Store → (Option D → Store → Prop) → Prop) : List D → List D → Store → (List D → Store → Prop) → Prop
  | [], acc, μ, K => still src μ ∧ μ a = some (.lst acc) ∧ K acc μ
  | x :: xs, acc, μ, K => still src μ ∧ f x μ fun o μ1 => match o with
    | some d => μ1 a = some (.lst acc) ∧ acc.length < line ∧ compLoop a src f xs (acc ++ [d]) (put μ1 a (.lst (acc ++ [d]))) K
    | none => compLoop a src f xs acc μ1 K
structure Post where
  nx : Env → Store → Prop
  rt : KA
  bk : Env → Store → Prop
  ct : Env → Store → Prop
  ex : Nat → D → Env → Store → Prop
/-- what was not there ahead of a loop is forgotten behind each turn -/
def mask : Env → Env → Env
  | o :: r, n :: s => (match o with | none => none | some _ => n) :: mask r s
  | _, _ => []
def forLoop (src : Option (Nat × Cell)) (ρ₀ : Env) (f : D → Env → Store → Post → Prop) : List D → Env → Store → Post → Prop
  | [], ρ, μ, P => still src μ ∧ P.nx ρ μ
  | x :: xs, ρ, μ, P => still src μ ∧ f x ρ μ { nx := fun ρ1 μ1 => forLoop src ρ₀ f xs (mask ρ₀ ρ1) μ1 P, ct := fun ρ1 μ1 => forLoop src ρ₀ f xs (mask ρ₀ ρ1) μ1 P, bk := fun ρ1 μ1 => P.nx (mask ρ₀ ρ1) μ1, rt := P.rt, ex := P.ex }
def whileLoop (ρ₀ : Env) (c : Env → Store → (Bool → Store → Prop) → KX → Prop) (f : Env → Store → Post → Prop) : Nat → Env → Store → Post → Prop
  | 0, _, _, _ => False
  | n + 1, ρ, μ, P => c ρ μ (fun b μ1 => match b with
    | true => f ρ μ1 { nx := fun ρ1 μ2 => whileLoop ρ₀ c f n (mask ρ₀ ρ1) μ2 P, ct := fun ρ1 μ2 => whileLoop ρ₀ c f n (mask ρ₀ ρ1) μ2 P, bk := fun ρ1 μ2 => P.nx (mask ρ₀ ρ1) μ2, rt := P.rt, ex := P.ex }
    | false => P.nx ρ μ1) fun x v μ1 => P.ex x v ρ μ1
/-- the walk of a dict that stands locked in the cell n meanwhile -/
def lockLoop (n : Nat) (ks vs : List D) (ρ₀ : Env) (f : D → Env → Store → Post → Prop) (xs : List D) (ρ : Env) (μ : Store) (P : Post) : Prop :=
  ∀ o kvs, forLoop (some (n, .lok o kvs ks vs)) ρ₀ f xs ρ (put μ n (.lok o kvs ks vs)) { nx := fun ρ1 μ1 => μ1 n = some (.lok o kvs ks vs) ∧ P.nx ρ1 (put μ1 n (.dct ks vs)), rt := fun a μ1 => μ1 n = some (.lok o kvs ks vs) ∧ P.rt a (put μ1 n (.dct ks vs)), bk := fun _ _ => False, ct := fun _ _ => False, ex := fun c v ρ1 μ1 => P.ex c v ρ1 (del μ1 n) }
def wipe (ρ : Env) : List Nat → Env
  | [] => ρ
  | i :: r => wipe (ρ.set i none) r
def lookN : Nat → List (Nat × Nat) → Option Nat
  | _, [] => none
  | k, (a, b) :: r => if k = a then some b else lookN k r
def idxN (k : Nat) : List Nat → Option Nat
  | [] => none
  | a :: r => if k = a then some 0 else (idxN k r).map (· + 1)
def isTy (x : D) : Ty → Bool
  | .int => match x with | .int _ => true | .bl _ => true | _ => false
  | .bool => match x with | .bl _ => true | _ => false
  | .str => match x with | .str _ => true | _ => false
  | .tuple => match x with | .tup _ => true | _ => false
  | .list => match x with | .lst _ => true | _ => false
  | .own c => match x with | .obj c' _ => c == c' | _ => false
  | .exn c => match x with | .exn c' _ => c == c' || c == 0 | _ => false

/-- of which the type is told -/
def isiD (G : Prog) : D → Bool
  | .set _ => false
  | .exn _ _ => false
  | .obj c _ => (G.cls[c]?).isSome
  | _ => true
/-- a thing's kind, as data -/
def kindOf (μ : Store) : A → Option D
  | .d u => some u
  | .ptr n => match μ n with
    | some (.lst _) => some (.lst [])
    | some (.obj c _) => some (.obj c [])
    | some (.dct _ _) => some (.dct [] [])
    | some (.lok _ _ _ _) => some (.dct [] [])
    | _ => none
section
variable (G : Prog) (call : Nat → List A → Store → KA → KX → Prop)
/-- the class of an object, a field, a property -/
def clsOf (μ : Store) : A → Option Nat
  | .d (.obj c _) => some c
  | .d _ => none
  | .ptr n => match μ n with
    | some (.obj c _) => some c
    | _ => none
def fldOf (μ : Store) (i : Nat) : A → Option A
  | .d (.obj _ vs) => vs[i]?.map A.d
  | .d _ => none
  | .ptr n => match μ n with
    | some (.obj _ fs) => match fs[i]? with
      | some (some a) => some a
      | _ => none
    | _ => none
def getAttr (a : A) (f : Nat) (μ : Store) (K : KA) (E : KX) : Prop :=
  match clsOf μ a with
    | none => False
    | some c => match G.cls[c]? with
      | none => False
      | some ci => match lookN f ci.props with
        | some g => call g [a] μ K fun _ _ _ => False
        | none => match idxN f ci.fields with
          | none => False
          | some i => match fldOf μ i a with
            | some v => K v μ
            | none => False
def methOf (μ : Store) (a : A) (m : Nat) : Option Nat := match clsOf μ a with
  | none => none
  | some c => match G.cls[c]? with
    | none => none
    | some ci => lookN m ci.meths
def isNonA : A → Prop
  | .d .non => True
  | _ => False
/-- a new object, then __init__; kept as a cell, or given up -/
def make (c : Nat) (cell : Bool) (as : List A) (μ : Store) (K : KA) (E : KX) : Prop :=
  match G.cls[c]? with
    | none => False
    | some ci => match ci.init with
      | none => False
      | some g => ∀ a, μ a = none → call g (.ptr a :: as) (put μ a (.obj c (ci.fields.map fun _ => none))) (fun r μ1 => isNonA r ∧ match cell with
        | true => K (.ptr a) μ1
        | false => toD μ1 (.ptr a) fun x μ2 => K (.d x) μ2) E
def seqSrc (μ : Store) (a : A) (K : Option (Nat × Cell) → List D → Prop) : Prop := match a with
  | .d x => match items x with
    | some xs => K none xs
    | none => False
  | .ptr n => match μ n with
    | some (.lst xs) => K (some (n, .lst xs)) xs
    | _ => False
def lstSrc (μ : Store) (a : A) (K : Option (Nat × Cell) → List D → Prop) : Prop := match a with
  | .d (.lst xs) => K none xs
  | .d _ => False
  | .ptr n => match μ n with
    | some (.lst xs) => K (some (n, .lst xs)) xs
    | _ => False
/-- what enumerate takes -/
def enuSrc (μ : Store) (a : A) (K : Option (Nat × Cell) → List D → Prop) : Prop := match a with
  | .d (.tup xs) => K none xs
  | a => lstSrc μ a K
def enumD : Int → List D → List D
  | _, [] => []
  | i, x :: xs => .tup [.int i, x] :: enumD (i + 1) xs
def zipD : List D → List D → List D
  | x :: xs, y :: ys => .tup [x, y] :: zipD xs ys
  | _, _ => []
def rangeD (i j : Int) : List D := (List.range (j - i).toNat).map fun (k : Nat) => D.int (i + (k : Int))
def SmallI (i : Int) : Prop := -(2 ^ 62) ≤ i ∧ i < 2 ^ 62
def mutate (m : Bm) (a : A) (as : List A) (μ : Store) (K : KA) : Prop := match a with
  | .ptr n => match μ n with
    | some (.lst xs) => (match m, as with
      | .extend, [b] => rd μ b fun y => opMut .extend xs [y] fun r xs' => K (.d r) (put μ n (.lst xs'))
      | m, as => toDs μ as fun ds μ1 => opMut m xs ds fun r xs' => μ1 n = some (.lst xs) ∧ K (.d r) (put μ1 n (.lst xs')))
    | _ => False
  | .d _ => False
/-- whose method it is -/
def bmT : Bm → Option Bt
  | .append => some .list
  | .extend => some .list
  | .pop => some .list
  | .index => some .list
  | .count => some .list
  | .join => some .str
  | .split => some .str
  | .get => some .dict
  | _ => none
/-- the built-in type of a thing that has methods -/
def tagOf (μ : Store) : A → Option Bt
  | .d (.str _) => some .str
  | .d (.lst _) => some .list
  | .d (.dct _ _) => some .dict
  | .d _ => none
  | .ptr n => match μ n with
    | some (.lst _) => some .list
    | some (.dct _ _) => some .dict
    | some (.dcT _ _) => some .dict
    | some (.lok _ _ _ _) => some .dict
    | _ => none
mutual
def wpE : CE → Env → Store → KA → KX → Prop
  | .slot i, ρ, μ, K, _ => match ρ[i]? with
    | some (some a) => K a μ
    | _ => False
  | .lit d, _, μ, K, _ => K (.d d) μ
  | .glb x, _, μ, K, _ => match G.glb[x]? with
    | some d => K (.d d) μ
    | none => False
  | .bin cell op a b, ρ, μ, K, E => wpE a ρ μ (fun x μ1 => wpE b ρ μ1 (fun y μ2 => rd μ2 x fun u => rd μ2 y fun v => opB op u v fun r => fin cell r μ2 K) E) E
  | .cmp op a b, ρ, μ, K, E => wpE a ρ μ (fun x μ1 => wpE b ρ μ1 (fun y μ2 => rd μ2 x fun u => rd μ2 y fun v => opC op u v fun r => K (.d (.bl r)) μ2) E) E
  | .chain op op' a b c, ρ, μ, K, E => wpE a ρ μ (fun x μ1 => wpE b ρ μ1 (fun y μ2 => rd μ2 x fun u => rd μ2 y fun v => opC op u v fun r => match r with
    | true => wpE c ρ μ2 (fun z μ3 => rd μ3 y fun v => rd μ3 z fun w => opC op' v w fun r => K (.d (.bl r)) μ3) E
    | false => K (.d (.bl false)) μ2) E) E
  | .and a b, ρ, μ, K, E => wpE a ρ μ (fun x μ1 => rd μ1 x fun u => match truth u with
    | some true => wpE b ρ μ1 K E
    | some false => K x μ1
    | none => False) E
  | .or a b, ρ, μ, K, E => wpE a ρ μ (fun x μ1 => rd μ1 x fun u => match truth u with
    | some true => K x μ1
    | some false => wpE b ρ μ1 K E
    | none => False) E
  | .not a, ρ, μ, K, E => wpE a ρ μ (fun x μ1 => rd μ1 x fun u => match truth u with
    | some b => K (.d (.bl (!b))) μ1
    | none => False) E
  | .ife c a b, ρ, μ, K, E => wpT c ρ μ (fun t μ1 => match t with
    | true => wpE a ρ μ1 K E
    | false => wpE b ρ μ1 K E) E
  | .neg a, ρ, μ, K, E => wpE a ρ μ (fun x μ1 => match x with
    | .d (.int i) => K (.d (.int (-i))) μ1
    | _ => False) E
  | .tup es, ρ, μ, K, E => wpEs es ρ μ (fun as μ1 => toDs μ1 as fun ds μ2 => ds.length ≤ line ∧ K (.d (.tup ds)) μ2) E
  | .lst cell es, ρ, μ, K, E => wpEs es ρ μ (fun as μ1 => toDs μ1 as fun ds μ2 => ds.length ≤ line ∧ finL cell ds μ2 K) E
  | .idx a b, ρ, μ, K, E => wpE a ρ μ (fun x μ1 => wpE b ρ μ1 (fun y μ2 => rd μ2 x fun u => rd μ2 y fun v => opIx u v fun r => K (.d r) μ2) E) E
  | .sli cell a lo hi, ρ, μ, K, E => wpE a ρ μ (fun x μ1 => wpO lo ρ μ1 (fun l μ2 => wpO hi ρ μ2 (fun h μ3 => rd μ3 x fun u => opSl u l h fun r => fin cell r μ3 K) E) E) E
  | .rev cell a, ρ, μ, K, E => wpE a ρ μ (fun x μ1 => rd μ1 x fun u => opRev u fun r => fin cell r μ1 K) E
  | .srtSet cell a, ρ, μ, K, E => wpE a ρ μ (fun x μ1 => rd μ1 x fun u => opSrtSet u fun r => fin cell r μ1 K) E
  | .attr a f, ρ, μ, K, E => wpE a ρ μ (fun x μ1 => getAttr G call x f μ1 K E) E
  | .call f es, ρ, μ, K, E => wpEs es ρ μ (fun as μ1 => call f as μ1 K E) E
  | .callK f n es ks, ρ, μ, K, E => wpEs es ρ μ (fun as μ1 => as.length = n ∧ wpEs ks ρ μ1 (fun bs μ2 => call f (as ++ bs) μ2 K E) E) E
  | .ctor c cell es, ρ, μ, K, E => wpEs es ρ μ (fun as μ1 => make G call c cell as μ1 K E) E
  | .meth a m es, ρ, μ, K, E => wpE a ρ μ (fun x μ1 => match methOf G μ1 x m with
    | none => False
    | some g => wpEs es ρ μ1 (fun as μ2 => call g (x :: as) μ2 K E) E) E
  | .bi b cell es, ρ, μ, K, E => wpEs es ρ μ (fun as μ1 => rds μ1 as fun ds => opBi b ds fun r => fin cell r μ1 K) E
  | .bm m cell a es, ρ, μ, K, E => wpE a ρ μ (fun x μ1 => match tagOf μ1 x with
    | none => False
    | some T => bmT m = some T ∧ wpEs es ρ μ1 (fun as μ2 => match isMut m with
      | true => mutate m x as μ2 K
      | false => rd μ2 x fun u => rdz m μ2 as fun ds => opBm m u ds fun r => fin (cell && bmNew m) r μ2 K) E) E
  | .rng cell es, ρ, μ, K, E => wpEs es ρ μ (fun as μ1 => match as with
    | [.d (.int j)] => SmallI j ∧ j ≤ line ∧ finL cell (rangeD 0 j) μ1 K
    | [.d (.int i), .d (.int j)] => SmallI i ∧ SmallI j ∧ j - i ≤ line ∧ finL cell (rangeD i j) μ1 K
    | _ => False) E
  | .comp cell elt t it conds own, ρ, μ, K, E => wpI it ρ μ (fun src xs μ1 => ∀ a, μ1 a = none → compLoop a src (fun x μ2 Kc => wpTg t x (wipe ρ own) fun ρ1 => wpC conds ρ1 μ2 (fun ok μ3 => match ok with
      | true => wpE elt ρ1 μ3 (fun a μ4 => toD μ4 a fun d μ5 => Kc (some d) μ5) (fun _ _ _ => False)
      | false => Kc none μ3) (fun _ _ _ => False)) xs [] (put μ1 a (.lst [])) fun ds μ9 => match cell with
        | true => K (.ptr a) μ9
        | false => K (.d (.lst ds)) (del μ9 a)) E
  | .dct, _, μ, K, _ => new (.dct [] []) μ K
  | .dctT, _, μ, K, _ => new (.dcT [] []) μ K
  | .dctL es, ρ, μ, K, E => ∀ n, μ n = none → wpEs es ρ (put μ n (.dct [] [])) (fun as μ1 => toDs μ1 as fun ds μ2 => match pairsD ds with
    | some (ks, vs) => μ2 n = some (.dct [] []) ∧ ks.all isKey = true ∧ ks.length ≤ 15 ∧ (let r := putAll ks vs [] []; K (.ptr n) (put μ2 n (.dct r.1 r.2)))
    | none => False) E
  | .isi a t, ρ, μ, K, E => wpE a ρ μ (fun x μ1 => match kindOf μ1 x with
    | some u => isiD G u = true ∧ K (.d (.bl (isTy u t))) μ1
    | none => False) E
def wpT : CE → Env → Store → (Bool → Store → Prop) → KX → Prop
  | .and a b, ρ, μ, K, E => wpT a ρ μ (fun t μ1 => match t with
    | true => wpT b ρ μ1 K E
    | false => K false μ1) E
  | .or a b, ρ, μ, K, E => wpT a ρ μ (fun t μ1 => match t with
    | true => K true μ1
    | false => wpT b ρ μ1 K E) E
  | .not a, ρ, μ, K, E => wpT a ρ μ (fun t μ1 => K (!t) μ1) E
  | e, ρ, μ, K, E => wpE e ρ μ (fun x μ1 => rd μ1 x fun u => match truth u with
    | some b => K b μ1
    | none => False) E
def wpO : CO → Env → Store → (Option Int → Store → Prop) → KX → Prop
  | .no, _, μ, K, _ => K none μ
  | .yes e, ρ, μ, K, E => wpE e ρ μ (fun x μ1 => match x with
    | .d (.int i) => K (some i) μ1
    | .d .non => K none μ1
    | _ => False) E
def wpEs : CEs → Env → Store → (List A → Store → Prop) → KX → Prop
  | .nil, _, μ, K, _ => K [] μ
  | .cons e r, ρ, μ, K, E => wpE e ρ μ (fun x μ1 => wpEs r ρ μ1 (fun xs μ2 => K (x :: xs) μ2) E) E
  | .star e r, ρ, μ, K, E => wpE e ρ μ (fun x μ1 => rd μ1 x fun u => match seqOf u with
    | some ds => wpEs r ρ μ1 (fun xs μ2 => K (ds.map A.d ++ xs) μ2) E
    | none => False) E
/-- the conditions of a comprehension, all -/
def wpC : CEs → Env → Store → (Bool → Store → Prop) → KX → Prop
  | .nil, _, μ, K, _ => K true μ
  | .cons e r, ρ, μ, K, E => wpT e ρ μ (fun b μ1 => match b with
    | true => wpC r ρ μ1 K E
    | false => K false μ1) E
  | .star _ _, _, _, _, _ => False
/-- what is walked -/
def wpI : CI → Env → Store → (Option (Nat × Cell) → List D → Store → Prop) → KX → Prop
  | .seq e, ρ, μ, K, E => wpE e ρ μ (fun x μ1 => seqSrc μ1 x fun src xs => K src xs μ1) E
  | .rng1 a, ρ, μ, K, E => wpE a ρ μ (fun x μ1 => match x with
    | .d (.int j) => SmallI j ∧ K none (rangeD 0 j) μ1
    | _ => False) E
  | .rng2 a b, ρ, μ, K, E => wpE a ρ μ (fun x μ1 => wpE b ρ μ1 (fun y μ2 => match x, y with
    | .d (.int i), .d (.int j) => SmallI i ∧ SmallI j ∧ K none (rangeD i j) μ2
    | _, _ => False) E) E
  | .enum e, ρ, μ, K, E => wpE e ρ μ (fun x μ1 => enuSrc μ1 x fun src xs => K src (enumD 0 xs) μ1) E
  | .zip a b, ρ, μ, K, E => wpE a ρ μ (fun x μ1 => wpE b ρ μ1 (fun y μ2 => match x, y with
    | .d (.lst xs), .d (.lst ys) => K none (zipD xs ys) μ2
    | .d (.tup xs), .d (.tup ys) => K none (zipD xs ys) μ2
    | .d (.tup xs), .d (.lst ys) => K none (zipD xs ys) μ2
    | _, _ => False) E) E
end
def setFld (x : A) (f : Nat) (a : A) (μ : Store) (K : Store → Prop) : Prop := match x with
  | .ptr n => (match μ n with
    | some (.obj c fs) => (match G.cls[c]? with
      | some ci => (match lookN f ci.props, idxN f ci.fields with
        | none, some i => K (put μ n (.obj c (fs.set i (some a))))
        | _, _ => False)
      | none => False)
    | _ => False)
  | _ => False
def setSub (x y a : A) (μ : Store) (K : Store → Prop) : Prop := match x with
  | .ptr n => (match μ n with
    | some (.lst xs) => (match y with
      | .d (.int k) => toD μ a fun v μ3 => ∃ j, ixN xs.length k = some j ∧ μ3 n = some (.lst xs) ∧ K (put μ3 n (.lst (xs.set j v)))
      | _ => False)
    | some (.dct ks vs) => rd μ y fun k => toD μ a fun v μ3 => isKey k = true ∧ ks.length < line ∧ μ3 n = some (.dct ks vs) ∧ K (put μ3 n (.dct (putK k ks) (putV k v ks vs)))
    | _ => False)
  | _ => False
/-- o[(.., ..)] = a, o with tuples for keys -/
def setSubT (x : A) (ds : List D) (a : A) (μ : Store) (K : Store → Prop) : Prop := match x with
  | .ptr n => (match μ n with
    | some (.dcT ks vs) => toD μ a fun v μ3 => ds.all isKey = true ∧ ks.length < line ∧ μ3 n = some (.dcT ks vs) ∧ K (put μ3 n (.dcT (putK (.tup ds) ks) (putV (.tup ds) v ks vs)))
    | _ => False)
  | _ => False
mutual
def wpTA : TA → A → Env → Store → (Env → Store → Prop) → (Nat → D → Env → Store → Prop) → Prop
  | .slot i, a, ρ, μ, K, _ => K (ρ.set i (some a)) μ
  | .tup ts, a, ρ, μ, K, E => match a with
    | .d (.tup xs) => xs.length = ts.length ∧ wpTAs ts (xs.map A.d) ρ μ K E
    | .d (.lst xs) => xs.length = ts.length ∧ wpTAs ts (xs.map A.d) ρ μ K E
    | _ => False
  | .fld o f, a, ρ, μ, K, E => wpE G call o ρ μ (fun x μ1 => setFld G x f a μ1 fun μ2 => K ρ μ2) fun x v μ1 => E x v ρ μ1
  | .sub o i, a, ρ, μ, K, E => wpE G call o ρ μ (fun x μ1 => wpE G call i ρ μ1 (fun y μ2 => setSub x y a μ2 fun μ3 => K ρ μ3) fun x v μ2 => E x v ρ μ2) fun x v μ1 => E x v ρ μ1
  | .subT o es, a, ρ, μ, K, E => wpE G call o ρ μ (fun x μ1 => wpEs G call es ρ μ1 (fun as μ2 => toDs μ2 as fun ds μ3 => ds.length ≤ line ∧ setSubT x ds a μ3 fun μ4 => K ρ μ4) fun x v μ2 => E x v ρ μ2) fun x v μ1 => E x v ρ μ1
def wpTAs : List TA → List A → Env → Store → (Env → Store → Prop) → (Nat → D → Env → Store → Prop) → Prop
  | [], [], ρ, μ, K, _ => K ρ μ
  | t :: ts, x :: xs, ρ, μ, K, E => wpTA t x ρ μ (fun ρ1 μ1 => wpTAs ts xs ρ1 μ1 K E) E
  | _, _, _, _, _, _ => False
end
mutual
def wpS : CS → Env → Store → Post → Prop
  | .pass, ρ, μ, P => P.nx ρ μ
  | .expr e, ρ, μ, P => wpE G call e ρ μ (fun _ μ1 => P.nx ρ μ1) fun x v μ1 => P.ex x v ρ μ1
  | .ret e, ρ, μ, P => wpE G call e ρ μ P.rt fun x v μ1 => P.ex x v ρ μ1
  | .asg t e, ρ, μ, P => wpE G call e ρ μ (fun x μ1 => wpTA G call t x ρ μ1 P.nx P.ex) fun x v μ1 => P.ex x v ρ μ1
  | .par ts es, ρ, μ, P => wpEs G call es ρ μ (fun xs μ1 => xs.length = ts.length ∧ wpTAs G call ts xs ρ μ1 P.nx P.ex) fun x v μ1 => P.ex x v ρ μ1
  | .ife c a b, ρ, μ, P => wpT G call c ρ μ (fun t μ1 => match t with
    | true => wpSs a ρ μ1 P
    | false => wpSs b ρ μ1 P) fun x v μ1 => P.ex x v ρ μ1
  | .for_ t it body, ρ, μ, P => wpI G call it ρ μ (fun src xs μ1 => forLoop src ρ (fun x ρ1 μ2 P1 => wpTg t x ρ1 fun ρ2 => wpSs body ρ2 μ2 P1) xs ρ μ1 P) fun x v μ1 => P.ex x v ρ μ1
  | .forD t i body, ρ, μ, P => match ρ[i]? with
    | some (some (.ptr n)) => (match μ n with
      | some (.dct ks vs) => lockLoop n ks vs ρ (fun x ρ1 μ2 P1 => wpTg t x ρ1 fun ρ2 => wpSs body ρ2 μ2 P1) (zipD ks vs) ρ μ P
      | _ => False)
    | _ => False
  | .while_ c body, ρ, μ, P => ∃ n, whileLoop ρ (fun ρ1 μ1 K E => wpT G call c ρ1 μ1 K E) (fun ρ1 μ1 P1 => wpSs body ρ1 μ1 P1) n ρ μ P
  | .raise _ _, _, _, _ => False
  | .brk, ρ, μ, P => P.bk ρ μ
  | .cont, ρ, μ, P => P.ct ρ μ
def wpSs : List CS → Env → Store → Post → Prop
  | [], ρ, μ, P => P.nx ρ μ
  | s :: r, ρ, μ, P => wpS s ρ μ { P with nx := fun ρ1 μ1 => wpSs r ρ1 μ1 P }
end
/-- the end of a call: what is not wanted any more may be forgotten -/
def retW (f : Bool) (K : KA) (a : A) (μ : Store) : Prop := match f with
  | true => toD μ a fun x μ1 => ∃ μ2, Sub μ2 μ1 ∧ K (.d x) μ2
  | false => ∃ μ2, Sub μ2 μ ∧ K a μ2
end
def callW (G : Prog) : Nat → Nat → List A → Store → KA → KX → Prop
  | 0, _, _, _, _, _ => False
  | k + 1, f, as, μ, K, E => match G.fns[f]? with
    | none => False
    | some fn => as.length = fn.np ∧ wpSs G (callW G k) fn.body (as.map some ++ List.replicate (fn.ns - fn.np) none) μ
      { nx := fun _ μ1 => retW fn.frz K (.d .non) μ1, rt := fun a μ1 => retW fn.frz K a μ1, bk := fun _ _ => False, ct := fun _ _ => False, ex := fun c v _ μ1 => ∃ μ2, Sub μ2 μ1 ∧ E c v μ2 }
end Cr


/-! CrOrd: the order of data, as sorted takes it. -/
namespace Cr
open PySem

mutual
theorem code_eq : ∀ (x y : D), eqD x y = true → codeD x = codeD y
  | .non, y, h => by cases y <;> simp_all [eqD, codeD]
  | .bl a, y, h => by
    cases y <;> simp_all [eqD, codeD]
  | .int a, y, h => by cases y <;> simp_all [eqD, codeD]
  | .str a, y, h => by cases y <;> simp_all [eqD, codeD]
  | .tup xs, y, h => by
    cases y with
    | tup ys => simp only [codeD]; rw [codes_eq xs ys (by simpa [eqD] using h)]
    | _ => simp [eqD] at h
  | .lst xs, y, h => by
    cases y with
    | lst ys => simp only [codeD]; rw [codes_eq xs ys (by simpa [eqD] using h)]
    | _ => simp [eqD] at h
  | .dct _ _, y, h => by cases y <;> simp [eqD] at h
  | .set _, y, h => by cases y <;> simp [eqD] at h
  | .obj _ _, y, h => by cases y <;> simp [eqD] at h
  | .exn _ _, y, h => by cases y <;> simp [eqD] at h
theorem codes_eq : ∀ (xs ys : List D), eqDs xs ys = true → codeDs xs = codeDs ys
  | [], [], _ => rfl
  | [], _ :: _, h => by simp [eqDs] at h
  | _ :: _, [], h => by simp [eqDs] at h
  | x :: xs, y :: ys, h => by
    simp only [eqDs, Bool.and_eq_true] at h
    simp only [codeDs]
    rw [code_eq x y h.1, codes_eq xs ys h.2]
end
theorem lexs (x y : List Nat) : ∀ (s t : List Int), x ≠ y → ((x.map fun c => ((c + 1 : Nat) : Int)) ++ 0 :: s < (y.map fun c => ((c + 1 : Nat) : Int)) ++ 0 :: t ↔ x < y) := by
  induction x generalizing y with
  | nil =>
    intro s t h
    cases y with
    | nil => exact absurd rfl h
    | cons b y =>
      simp only [List.map_nil, List.nil_append, List.map_cons, List.cons_append, List.cons_lt_cons_iff]
      constructor
      · intro _; exact List.nil_lt_cons _ _
      · intro _; left; omega
  | cons a x ih =>
    intro s t h
    cases y with
    | nil =>
      simp only [List.map_nil, List.nil_append, List.map_cons, List.cons_append, List.cons_lt_cons_iff]
      constructor
      · rintro (q | ⟨q, _⟩) <;> omega
      · intro q; exact absurd q (List.not_lt_nil _)
    | cons b y =>
      simp only [List.map_cons, List.cons_append, List.cons_lt_cons_iff]
      by_cases e : a = b
      · subst e
        have := ih y s t (fun z => h (by rw [z]))
        constructor
        · rintro (q | ⟨_, q⟩)
          · omega
          · exact .inr ⟨rfl, this.mp q⟩
        · rintro (q | ⟨_, q⟩)
          · omega
          · exact .inr ⟨rfl, this.mpr q⟩
      · constructor
        · rintro (q | ⟨q, _⟩)
          · left; omega
          · omega
        · rintro (q | ⟨q, _⟩)
          · left; omega
          · exact absurd q e
mutual
theorem lt_code : ∀ (x y : D) (b : Bool) (s t : List Int), eqD x y = false → ltD x y = some b → (codeD x ++ s < codeD y ++ t ↔ b = true)
  | .int i, y, b, s, t, h, e => by
    cases y <;> simp [ltD] at e
    rename_i j
    subst e
    simp only [eqD, beq_eq_false_iff_ne, ne_eq] at h
    simp only [codeD, List.cons_append, List.nil_append, List.cons_lt_cons_iff, decide_eq_true_eq]
    constructor
    · rintro (q | ⟨_, q | ⟨q, _⟩⟩)
      · omega
      · exact q
      · exact absurd q h
    · intro q; exact .inr ⟨by trivial, .inl q⟩
  | .str x, y, b, s, t, h, e => by
    cases y <;> simp [ltD] at e
    rename_i y
    subst e
    simp only [eqD, beq_eq_false_iff_ne, ne_eq] at h
    have := lexs x y s t h
    simp only [codeD, List.cons_append, List.append_assoc, List.nil_append, List.cons_lt_cons_iff, decide_eq_true_eq]
    rw [this]
    constructor
    · rintro (q | ⟨_, q⟩)
      · omega
      · exact q
    · intro q; exact .inr ⟨by trivial, q⟩
  | .tup xs, y, b, s, t, h, e => by
    cases y with
    | tup ys =>
      simp only [codeD, List.cons_append, List.cons_lt_cons_iff]
      have := lts_code xs ys b s t (by simpa [eqD] using h) (by simpa [ltD] using e)
      rw [this]
      constructor
      · rintro (q | ⟨_, q⟩)
        · omega
        · exact q
      · intro q; exact .inr ⟨by trivial, q⟩
    | _ => simp [ltD] at e
  | .lst xs, y, b, s, t, h, e => by
    cases y with
    | lst ys =>
      simp only [codeD, List.cons_append, List.cons_lt_cons_iff]
      have := lts_code xs ys b s t (by simpa [eqD] using h) (by simpa [ltD] using e)
      rw [this]
      constructor
      · rintro (q | ⟨_, q⟩)
        · omega
        · exact q
      · intro q; exact .inr ⟨by trivial, q⟩
    | _ => simp [ltD] at e
  | .non, y, b, s, t, h, e => by cases y <;> simp [ltD] at e
  | .bl _, y, b, s, t, h, e => by cases y <;> simp [ltD] at e
  | .dct _ _, y, b, s, t, h, e => by cases y <;> simp [ltD] at e
  | .set _, y, b, s, t, h, e => by cases y <;> simp [ltD] at e
  | .obj _ _, y, b, s, t, h, e => by cases y <;> simp [ltD] at e
  | .exn _ _, y, b, s, t, h, e => by cases y <;> simp [ltD] at e
theorem lts_code : ∀ (xs ys : List D) (b : Bool) (s t : List Int), eqDs xs ys = false → ltDs xs ys = some b → (codeDs xs ++ s < codeDs ys ++ t ↔ b = true)
  | [], [], b, s, t, h, e => by simp [eqDs] at h
  | [], y :: ys, b, s, t, h, e => by
    simp only [ltDs, Option.some.injEq] at e
    subst e
    simp only [codeDs, List.cons_append, List.nil_append, List.cons_lt_cons_iff, iff_true]
    left; omega
  | x :: xs, [], b, s, t, h, e => by
    simp only [ltDs, Option.some.injEq] at e
    subst e
    simp only [codeDs, List.cons_append, List.nil_append, List.cons_lt_cons_iff, Bool.false_eq_true, iff_false]
    rintro (q | ⟨q, _⟩) <;> omega
  | x :: xs, y :: ys, b, s, t, h, e => by
    simp only [ltDs] at e
    simp only [codeDs, List.cons_append, List.append_assoc, List.cons_lt_cons_iff]
    by_cases q : eqD x y = true
    · rw [if_pos q] at e
      have h' : eqDs xs ys = false := by simpa [eqDs, q] using h
      have := lts_code xs ys b s t h' e
      rw [code_eq x y q]
      constructor
      · rintro (q | ⟨_, q⟩)
        · omega
        · exact this.mp (by
            have : ∀ l : List Int, l ++ (codeDs xs ++ s) < l ++ (codeDs ys ++ t) → codeDs xs ++ s < codeDs ys ++ t := by
              intro l
              induction l with
              | nil => exact id
              | cons a l ih =>
                intro z
                simp only [List.cons_append, List.cons_lt_cons_iff] at z
                rcases z with z | ⟨_, z⟩
                · omega
                · exact ih z
            exact this _ q)
      · intro q
        refine .inr ⟨by trivial, ?_⟩
        have hh := this.mpr q
        generalize codeD y = l
        induction l with
        | nil => exact hh
        | cons a l ih => simp only [List.cons_append, List.cons_lt_cons_iff]; exact .inr ⟨by trivial, ih⟩
    · rw [if_neg q] at e
      have := lt_code x y b (codeDs xs ++ s) (codeDs ys ++ t) (by simpa using q) e
      rw [this]
      constructor
      · rintro (q | ⟨_, q⟩)
        · omega
        · exact q
      · intro q; exact .inr ⟨by trivial, q⟩
end
mutual
theorem lt_irr : ∀ (x y : D) (b : Bool), eqD x y = true → ltD x y = some b → b = false
  | .int i, y, b, h, e => by
    cases y <;> simp [ltD] at e
    simp [eqD] at h; subst h; simpa using e.symm
  | .str x, y, b, h, e => by
    cases y <;> simp [ltD] at e
    simp [eqD] at h; subst h; rw [← e]; exact decide_eq_false (List.lt_irrefl x)
  | .tup xs, y, b, h, e => by
    cases y with
    | tup ys => exact lts_irr xs ys b (by simpa [eqD] using h) (by simpa [ltD] using e)
    | _ => simp [ltD] at e
  | .lst xs, y, b, h, e => by
    cases y with
    | lst ys => exact lts_irr xs ys b (by simpa [eqD] using h) (by simpa [ltD] using e)
    | _ => simp [ltD] at e
  | .non, y, b, h, e => by cases y <;> simp [ltD] at e
  | .bl _, y, b, h, e => by cases y <;> simp [ltD] at e
  | .dct _ _, y, b, h, e => by cases y <;> simp [ltD] at e
  | .set _, y, b, h, e => by cases y <;> simp [ltD] at e
  | .obj _ _, y, b, h, e => by cases y <;> simp [ltD] at e
  | .exn _ _, y, b, h, e => by cases y <;> simp [ltD] at e
theorem lts_irr : ∀ (xs ys : List D) (b : Bool), eqDs xs ys = true → ltDs xs ys = some b → b = false
  | [], [], b, h, e => by simp [ltDs] at e; exact e
  | [], y :: ys, b, h, e => by simp [eqDs] at h
  | x :: xs, [], b, h, e => by simp [eqDs] at h
  | x :: xs, y :: ys, b, h, e => by
    simp only [eqDs, Bool.and_eq_true] at h
    simp only [ltDs, if_pos h.1] at e
    exact lts_irr xs ys b h.2 e
end
/-- what < tells is what the codes tell -/
theorem ltD_code {x y : D} {b : Bool} (h : ltD x y = some b) : ltC x y = b := by
  unfold ltC
  by_cases q : eqD x y = true
  · rw [lt_irr x y b q h, code_eq x y q]
    exact decide_eq_false (List.lt_irrefl _)
  · have := lt_code x y b [] [] (by simpa using q) h
    simp only [List.append_nil] at this
    rw [Bool.eq_iff_iff, decide_eq_true_eq]
    exact this
theorem ltC_asym {x y : D} (h : ltC x y = true) : ltC y x = false := by
  unfold ltC at h ⊢
  exact decide_eq_false (fun q => List.lt_asymm (of_decide_eq_true h) q)
theorem ltC_tr {x y z : D} (h1 : ltC y x = false) (h2 : ltC z y = false) : ltC z x = false := by
  unfold ltC at *
  have a := of_decide_eq_false h1
  have b := of_decide_eq_false h2
  exact decide_eq_false (List.not_lt.mpr (List.le_trans (List.not_lt.mp a) (List.not_lt.mp b)))
theorem sortD_perm (xs : List D) : (sortD xs).Perm xs := List.mergeSort_perm _ _
theorem sortD_sorted (xs : List D) : (sortD xs).Pairwise fun x y => ltC y x = false := by
  have := List.pairwise_mergeSort (le := fun x y : D => !ltC y x) (fun a b c h1 h2 => by
    simp only [Bool.not_eq_true'] at *; exact ltC_tr h1 h2) (fun a b => by
    cases h : ltC a b
    · simp
    · simp [ltC_asym h]) xs
  exact this.imp fun h => by simpa using h
end Cr


/-! Cr3: how data and cells stand in the abstract heap of HandS. -/
namespace Cr
open PySem PySem.Spec PyProof.Rows L2
abbrev strOk (z : Str) : Bool := PyData.strOk z

/-- the names behind the numbers -/
structure Nm where
  attr : List Str
  cls : List Str
  exn : List Str

section
variable (K : PySem.W.Frag) (G : Prog) (nm : Nm)
/-- the class's address -/
def ca (c : Nat) : Addr := He.ga K (nm.cls.getD c Str.empty)
def ea (c : Nat) : Addr := He.ga K (nm.exn.getD c Str.empty)
/-- the names of a class's fields -/
def fns (c : Nat) : List Str := ((G.cls.getD c ⟨[], [], [], none⟩).fields.map fun f => nm.attr.getD f Str.empty)
/-- the fields of an instance -/
structure FldsAt (ns : List Str) (fs : List (Str × V)) (ws : List (Option V)) : Prop where
  kn : (fs.map (·.1)).Nodup ∧ (∀ x ∈ fs.map (·.1), x ∈ ns) ∧ ns.length ≤ 900
  nd : ns.Nodup
  eq : ws.length = ns.length
  get : ∀ (i : Nat) (x : Str), ns[i]? = some x → fs.lookup x = (ws[i]?).join
  out : ∀ (x : Str), x ∉ ns → fs.lookup x = none
theorem nodup_le {α : Type} [DecidableEq α] : ∀ {l m : List α}, l.Nodup → (∀ x ∈ l, x ∈ m) → l.length ≤ m.length
  | [], _, _, _ => Nat.zero_le _
  | a :: l, m, h, s => by
    obtain ⟨h1, h2⟩ := List.nodup_cons.mp h
    have ha : a ∈ m := s a (by simp)
    have := nodup_le (l := l) (m := m.erase a) h2 fun x hx => (List.mem_erase_of_ne (fun e : x = a => h1 (by rw [← e]; exact hx))).mpr (s x (by simp [hx]))
    rw [List.length_erase_of_mem ha] at this
    have := List.length_pos_of_mem ha
    simp
    omega
theorem FldsAt.len {ns : List Str} {fs : List (Str × V)} {ws : List (Option V)} (h : FldsAt ns fs ws) : fs.length ≤ 900 := by
  have := nodup_le h.kn.1 h.kn.2.1
  have := h.kn.2.2
  simp at *
  omega
/-- a list that is read: tracked, locked, or of the module's top -/
def LstAt (Z : Hp) (a : Addr) (vs : List V) : Prop := Rd Z a (.lst vs) ∨ ∃ its : List Value, K.lookup a = some { cls := .type "list", data := .seq its.toArray } ∧ Vals vs its ∧ vs.length ≤ sizeLine
def keyD : Key → D
  | .inl i => .int i
  | .inr z => .str z.cps.toList
def keyT (k : List Key) : D := .tup (k.map keyD)
/-- keys that differ, texts that may be shown -/
def KeysOk (kvs : List (Key × V)) : Prop := (kvs.map (·.1)).Nodup ∧ ∀ p ∈ kvs, ∀ z, p.1 = Sum.inr z → strOk z = true
mutual
inductive Rep (Z : Hp) : V → D → Prop
  | non : Rep Z .non .non
  | bl (b : Bool) : Rep Z (.bl b) (.bl b)
  | int (i : Int) : Rep Z (.int i) (.int i)
  | str (z : Str) : strOk z = true → Rep Z (.str z) (.str z.cps.toList)
  | tup {a : Addr} {vs : List V} {xs : List D} : SqT K Z a vs → Reps Z vs xs → Rep Z (.ref a) (.tup xs)
  | lst {a : Addr} {vs : List V} {xs : List D} : LstAt K Z a vs → Reps Z vs xs → Rep Z (.ref a) (.lst xs)
  | dct {a : Addr} {kvs : List (Key × V)} {ks vs : List D} : Rd Z a (.dK kvs) → ks = kvs.map (fun p => keyD p.1) → KeysOk kvs → Reps Z (kvs.map (·.2)) vs → Rep Z (.ref a) (.dct ks vs)
  | obj {a c : Nat} {dx : Addr} {fs : List (Str × V)} {ws : List V} {vs : List D} : Z a = some (.ins (ca K nm c) dx fs) → FldsAt (fns G nm c) fs (ws.map some) → Reps Z ws vs → Rep Z (.ref a) (.obj c vs)
inductive Reps (Z : Hp) : List V → List D → Prop
  | nil : Reps Z [] []
  | cons {v : V} {vs : List V} {x : D} {xs : List D} : Rep Z v x → Reps Z vs xs → Reps Z (v :: vs) (x :: xs)
end
inductive ARep (Z : Hp) : V → A → Prop
  | d {v : V} {x : D} : Rep K G nm Z v x → ARep Z v (.d x)
  | ptr (a : Addr) : ARep Z (.ref a) (.ptr a)
abbrev AReps (Z : Hp) : List V → List A → Prop := Paired (ARep K G nm Z)
def OptRep (Z : Hp) : Option V → Option A → Prop
  | some v, some a => ARep K G nm Z v a
  | none, none => True
  | _, _ => False
/-- a cell -/
def CellRep (Z H : Hp) (a : Addr) : Cell → Prop
  | .lst xs => ∃ vs, H a = some (.lst vs) ∧ Reps K G nm Z vs xs
  | .dct ks vs => ∃ kvs, H a = some (.dK kvs) ∧ ks = kvs.map (fun p => keyD p.1) ∧ KeysOk kvs ∧ Reps K G nm Z (kvs.map (·.2)) vs
  | .dcT ks vs => ∃ kvs : List (List Key × V), H a = some (.dT kvs) ∧ ks = kvs.map (fun p => keyT p.1) ∧ (kvs.map (·.1)).Nodup ∧ Reps K G nm Z (kvs.map (·.2)) vs
  | .lok od kvs ks vs => H a = some (.frz od (.dK kvs)) ∧ ks = kvs.map (fun p => keyD p.1) ∧ KeysOk kvs ∧ Reps K G nm Z (kvs.map (·.2)) vs
  | .obj c fs => ∃ dx l ws, H a = some (.ins (ca K nm c) dx l) ∧ FldsAt (fns G nm c) l ws ∧ Paired (OptRep K G nm Z) ws fs
  | .lsA xs => ∃ vs, H a = some (.lst vs) ∧ AReps K G nm Z vs xs
structure HSim (Z : Hp) (μ : Store) (H : Hp) : Prop where
  z : Same Z H
  cells : ∀ a c, μ a = some c → CellRep K G nm Z H a c
  ap : ∀ a c, μ a = some c → Z a = none
def SSim (Z : Hp) (ρ : Env) (σ : L2.St) : Prop := ρ.length ≤ σ.length ∧ ∀ (i : Nat) (a : A), ρ[i]? = some (some a) → ∃ v, σ[i]? = some (some v) ∧ ARep K G nm Z v a
end

section
variable {K : PySem.W.Frag} {G : Prog} {nm : Nm} {Z Z' H H' : Hp} {μ μ' : Store}
theorem SqL.same {a : Addr} {xs : List V} (s : Same Z Z') (h : SqL K Z a xs) : SqL K Z' a xs := by
  rcases h with (h | ⟨o, h⟩) | h
  · exact .inl (.inl (s _ _ h))
  · exact .inl (.inr ⟨o, s _ _ h⟩)
  · exact .inr h
theorem SqT.same {a : Addr} {xs : List V} (s : Same Z Z') (h : SqT K Z a xs) : SqT K Z' a xs := by
  rcases h with (h | ⟨o, h⟩) | h
  · exact .inl (.inl (s _ _ h))
  · exact .inl (.inr ⟨o, s _ _ h⟩)
  · exact .inr h
theorem LstAt.same {a : Addr} {xs : List V} (s : Same Z Z') (h : LstAt K Z a xs) : LstAt K Z' a xs := by
  rcases h with (h | ⟨o, h⟩) | h
  · exact .inl (.inl (s _ _ h))
  · exact .inl (.inr ⟨o, s _ _ h⟩)
  · exact .inr h
theorem LstAt.of {a : Addr} {xs : List V} (h : Z a = some (.lst xs)) : LstAt K Z a xs := .inl (.inl h)
theorem LstAt.sq {a : Addr} {xs : List V} (h : LstAt K Z a xs) : SqL K Z a xs := by
  rcases h with h | ⟨its, h, r, l⟩
  · exact .inl h
  · have e := r.length
    exact .inr ⟨_, its.toArray, 0, h, rfl, rfl, rfl, by simpa [← e] using l, by simpa using r⟩
mutual
theorem Rep.same (s : Same Z Z') : ∀ {v : V} {x : D}, Rep K G nm Z v x → Rep K G nm Z' v x
  | _, _, .non => .non
  | _, _, .bl b => .bl b
  | _, _, .int i => .int i
  | _, _, .str z h => .str z h
  | _, _, .tup h r => .tup (SqT.same s h) (Reps.same s r)
  | _, _, .lst h r => .lst (LstAt.same s h) (Reps.same s r)
  | _, _, .dct h e n r => .dct (by rcases h with h | ⟨o, h⟩; exact .inl (s _ _ h); exact .inr ⟨o, s _ _ h⟩) e n (Reps.same s r)
  | _, _, .obj h f r => .obj (s _ _ h) f (Reps.same s r)
theorem Reps.same (s : Same Z Z') : ∀ {v : List V} {x : List D}, Reps K G nm Z v x → Reps K G nm Z' v x
  | _, _, .nil => .nil
  | _, _, .cons h t => .cons (Rep.same s h) (Reps.same s t)
end
theorem ARep.same (s : Same Z Z') {v : V} {a : A} (h : ARep K G nm Z v a) : ARep K G nm Z' v a := by
  cases h with
  | d h => exact .d (h.same s)
  | ptr a => exact .ptr a
theorem AReps.same (s : Same Z Z') : ∀ {vs : List V} {as : List A}, AReps K G nm Z vs as → AReps K G nm Z' vs as
  | _, _, .nil => .nil
  | _, _, .cons h t => .cons (h.same s) (AReps.same s t)
theorem OptRep.same (s : Same Z Z') {v : Option V} {a : Option A} (h : OptRep K G nm Z v a) : OptRep K G nm Z' v a := by
  cases v <;> cases a <;> first | exact h | exact ARep.same s h
theorem OptReps.same (s : Same Z Z') : ∀ {vs : List (Option V)} {as : List (Option A)}, Paired (OptRep K G nm Z) vs as → Paired (OptRep K G nm Z') vs as
  | _, _, .nil => .nil
  | _, _, .cons h t => .cons (OptRep.same s h) (OptReps.same s t)
theorem SSim.same (s : Same Z Z') {ρ : Env} {σ : L2.St} (h : SSim K G nm Z ρ σ) : SSim K G nm Z' ρ σ := ⟨h.1, fun i a e => let ⟨v, e1, r⟩ := h.2 i a e; ⟨v, e1, r.same s⟩⟩
theorem CellRep.same {a : Addr} {c : Cell} (s : Same Z Z') (e : H' a = H a) (h : CellRep K G nm Z H a c) : CellRep K G nm Z' H' a c := by
  cases c with
  | lst xs => obtain ⟨vs, h, r⟩ := h; exact ⟨vs, e.trans h, r.same s⟩
  | dct ks vs => obtain ⟨kvs, h, e1, n, r⟩ := h; exact ⟨kvs, e.trans h, e1, n, r.same s⟩
  | dcT ks vs => obtain ⟨kvs, h, e1, n, r⟩ := h; exact ⟨kvs, e.trans h, e1, n, r.same s⟩
  | lok o0 kvs0 ks vs => obtain ⟨h, e1, n, r⟩ := h; exact ⟨e.trans h, e1, n, r.same s⟩
  | obj c fs => obtain ⟨dx, l, ws, h, f, r⟩ := h; exact ⟨dx, l, ws, e.trans h, f, OptReps.same s r⟩
  | lsA xs => obtain ⟨vs, h, r⟩ := h; exact ⟨vs, e.trans h, AReps.same s r⟩
theorem CellRep.there {a : Addr} {c : Cell} (h : CellRep K G nm Z H a c) : ∃ o, H a = some o := by
  cases c with
  | lst xs => obtain ⟨vs, h, r⟩ := h; exact ⟨_, h⟩
  | dct ks vs => obtain ⟨kvs, h, e1, r⟩ := h; exact ⟨_, h⟩
  | dcT ks vs => obtain ⟨kvs, h, e1, r⟩ := h; exact ⟨_, h⟩
  | lok o0 kvs0 ks vs => obtain ⟨h, e1, r⟩ := h; exact ⟨_, h⟩
  | obj c fs => obtain ⟨dx, l, ws, h, f, r⟩ := h; exact ⟨_, h⟩
  | lsA xs => obtain ⟨vs, h, r⟩ := h; exact ⟨_, h⟩
theorem same_refl : Same Z Z := fun _ _ h => h
theorem same_upd {a : Addr} {o : HO} (h : Z a = none) : Same Z (upd Z a o) := fun b u e => by rw [upd_ne (ne_of_none e h)]; exact e
theorem Same.tr {A B C : Hp} (s : Same A B) (t : Same B C) : Same A C := fun _ _ e => t _ _ (s _ _ e)
theorem put_same {a : Nat} {c : Cell} : put μ a c a = some c := by simp [put]
theorem put_ne {a b : Nat} {c : Cell} (h : b ≠ a) : put μ a c b = μ b := by simp [put, h]
theorem del_same' {a : Nat} : Cr.del μ a a = none := by simp [Cr.del]
theorem del_ne' {a b : Nat} (h : b ≠ a) : Cr.del μ a b = μ b := by simp [Cr.del, h]

theorem HSim.sub (s : HSim K G nm Z μ H) (u : Sub μ' μ) : HSim K G nm Z μ' H := ⟨s.z, fun a c e => s.cells a c (u a c e), fun a c e => s.ap a c (u a c e)⟩
theorem HSim.free (s : HSim K G nm Z μ H) {a : Addr} (h : H a = none) : Z a = none ∧ μ a = none := by
  refine ⟨?_, ?_⟩
  · cases e : Z a with
    | none => rfl
    | some o => rw [s.z a o e] at h; cases h
  · cases e : μ a with
    | none => rfl
    | some c => obtain ⟨o, q⟩ := (s.cells a c e).there; rw [q] at h; cases h
/-- a new thing that is not told of -/
theorem HSim.laid (s : HSim K G nm Z μ H) {a : Addr} {o : HO} (h : H a = none) : HSim K G nm Z μ (upd H a o) := by
  obtain ⟨hz, hm⟩ := s.free h
  refine ⟨fun b u e => ?_, fun b c e => (s.cells b c e).same same_refl ?_, s.ap⟩
  · rw [upd_ne (ne_of_none e hz)]; exact s.z b u e
  · exact upd_ne fun q => by subst q; rw [hm] at e; cases e
/-- a new thing, as data -/
theorem HSim.frozen (s : HSim K G nm Z μ H) {a : Addr} {o : HO} (h : H a = none) : HSim K G nm (upd Z a o) μ (upd H a o) ∧ Same Z (upd Z a o) := by
  obtain ⟨hz, hm⟩ := s.free h
  have st : Same Z (upd Z a o) := same_upd hz
  refine ⟨⟨fun b u e => ?_, fun b c e => (s.cells b c e).same st ?_, fun b c e => ?_⟩, st⟩
  · by_cases q : b = a
    · subst q; rw [upd_same] at e ⊢; exact e
    · rw [upd_ne q] at e ⊢; exact s.z b u e
  · exact upd_ne fun q => by subst q; rw [hm] at e; cases e
  · rw [upd_ne fun q => by subst q; rw [hm] at e; cases e]; exact s.ap b c e
/-- a new cell -/
theorem HSim.cell (s : HSim K G nm Z μ H) {a : Addr} {o : HO} {c : Cell} (h : H a = none) (r : CellRep K G nm Z (upd H a o) a c) : HSim K G nm Z (put μ a c) (upd H a o) := by
  obtain ⟨hz, hm⟩ := s.free h
  refine ⟨(s.laid h).z, fun b c' e => ?_, fun b c' e => ?_⟩
  · by_cases q : b = a
    · subst q; rw [put_same] at e; cases e; exact r
    · rw [put_ne q] at e; exact (s.cells b c' e).same same_refl (upd_ne q)
  · by_cases q : b = a
    · subst q; exact hz
    · rw [put_ne q] at e; exact s.ap b c' e
/-- a cell is written -/
theorem HSim.wrote (s : HSim K G nm Z μ H) {a : Addr} {o : HO} {c c0 : Cell} (h : μ a = some c0) (r : CellRep K G nm Z (upd H a o) a c) : HSim K G nm Z (put μ a c) (upd H a o) := by
  have hz := s.ap a c0 h
  refine ⟨fun b u e => ?_, fun b c' e => ?_, fun b c' e => ?_⟩
  · rw [upd_ne (ne_of_none e hz)]; exact s.z b u e
  · by_cases q : b = a
    · subst q; rw [put_same] at e; cases e; exact r
    · rw [put_ne q] at e; exact (s.cells b c' e).same same_refl (upd_ne q)
  · by_cases q : b = a
    · subst q; exact hz
    · rw [put_ne q] at e; exact s.ap b c' e
/-- a cell is given up -/
theorem HSim.froze (s : HSim K G nm Z μ H) {a : Addr} {o : HO} {c0 : Cell} (h : μ a = some c0) (e : H a = some o) : HSim K G nm (upd Z a o) (Cr.del μ a) H ∧ Same Z (upd Z a o) := by
  have hz := s.ap a c0 h
  have st : Same Z (upd Z a o) := same_upd hz
  refine ⟨⟨fun b u e' => ?_, fun b c e' => ?_, fun b c e' => ?_⟩, st⟩
  · by_cases q : b = a
    · subst q; rw [upd_same] at e'; rw [← e']; exact e
    · rw [upd_ne q] at e'; exact s.z b u e'
  · by_cases q : b = a
    · subst q; rw [del_same'] at e'; cases e'
    · rw [del_ne' q] at e'; exact (s.cells b c e').same st rfl
  · by_cases q : b = a
    · subst q; rw [del_same'] at e'; cases e'
    · rw [del_ne' q] at e'; rw [upd_ne q]; exact s.ap b c e'
end
end Cr


/-! Cr4: the rules: what Core asks is enough for HandS's judgements. Operators. -/
namespace Cr
open PySem PySem.Spec PyProof.Rows L2

/-- an exception as it lies: its class, its value -/
def ExRep (K : PySem.W.Frag) (G : Prog) (nm : Nm) (Z H : Hp) (cls : Value) (d : Option Addr) (c : Nat) (v : D) : Prop :=
  cls = .ref (ea K nm c) ∧ ∃ dx y, d = some dx ∧ H dx = some (.xd [(("value" : Str), y)]) ∧ Rep K G nm Z y v

section
variable (K : PySem.W.Frag) (G : Prog) (nm : Nm)
/-- what reads as data now: data, or a cell of such -/
inductive RdR (Z H : Hp) : V → D → Prop
  | z {v : V} {x : D} : Rep K G nm Z v x → RdR Z H v x
  | lst {a : Addr} {vs : List V} {xs : List D} : H a = some (.lst vs) → Reps K G nm Z vs xs → RdR Z H (.ref a) (.lst xs)
  | dct {a : Addr} {kvs : List (Key × V)} {ks vs : List D} : Rd H a (.dK kvs) → ks = kvs.map (fun p => keyD p.1) → KeysOk kvs → Reps K G nm Z (kvs.map (·.2)) vs → RdR Z H (.ref a) (.dct ks vs)
  | dcT {a : Addr} {kvs : List (List Key × V)} {ks vs : List D} : H a = some (.dT kvs) → ks = kvs.map (fun p => keyT p.1) → (kvs.map (·.1)).Nodup → Reps K G nm Z (kvs.map (·.2)) vs → RdR Z H (.ref a) (.set [.lst ks, .lst vs])
/-- the end of an expression that gives data -/
def Fin (Z : Hp) (μ : Store) (Q : VK) (r : D) : Prop := ∀ w H' Z', Same Z Z' → HSim K G nm Z' μ H' → Rep K G nm Z' w r → Q w H'
def FinA (Z : Hp) (Q : VK) (a : A) (μ : Store) : Prop := ∀ w H' Z', Same Z Z' → HSim K G nm Z' μ H' → ARep K G nm Z' w a → Q w H'
/-- the slots, and what is wanted of an exception -/
structure Bun (W : WX) (σ : L2.St) (Z : Hp) (ρ : Env) (E : KX) : Prop where
  ss : SSim K G nm Z ρ σ
  ex : ∀ c v μ', E c v μ' → ∀ H' Z' cls d, Same Z Z' → HSim K G nm Z' μ' H' → ExRep K G nm Z' H' cls d c v → W cls d σ H'
/-- the reading of an expression of Core -/
def TD (W : WX) (f : Env → Store → KA → KX → Prop) : TE := fun σ H Q => ∃ Z μ ρ Kp E, HSim K G nm Z μ H ∧ Bun K G nm W σ Z ρ E ∧ f ρ μ Kp E ∧ ∀ a μ', Kp a μ' → FinA K G nm Z Q a μ'
/-- of a test -/
def TDT (W : WX) (f : Env → Store → (Bool → Store → Prop) → KX → Prop) : TT := fun σ H Q => ∃ Z μ ρ Kp E, HSim K G nm Z μ H ∧ Bun K G nm W σ Z ρ E ∧ f ρ μ Kp E ∧ ∀ b μ', Kp b μ' → ∀ H' Z', Same Z Z' → HSim K G nm Z' μ' H' → Q b H'
/-- of arguments -/
def TDA (W : WX) (f : Env → Store → (List A → Store → Prop) → KX → Prop) : L2.TA := fun σ H Q => ∃ Z μ ρ Kp E, HSim K G nm Z μ H ∧ Bun K G nm W σ Z ρ E ∧ f ρ μ Kp E ∧ ∀ as μ', Kp as μ' → ∀ vs H' Z', Same Z Z' → HSim K G nm Z' μ' H' → AReps K G nm Z' vs as → Q vs H'
end
section
variable {K : PySem.W.Frag} {G : Prog} {nm : Nm} {Z Z' H H' : Hp} {μ μ' : Store} {W : WX} {σ : L2.St} {ρ : Env} {E : KX}
theorem Bun.same (st : Same Z Z') (b : Bun K G nm W σ Z ρ E) : Bun K G nm W σ Z' ρ E := ⟨b.ss.same st, fun c v μ' e H' Z'' cls d s => b.ex c v μ' e H' Z'' cls d (Cr.Same.tr st s)⟩
theorem FinA.same (st : Same Z Z') {Q : VK} {a : A} {μ : Store} (h : FinA K G nm Z Q a μ) : FinA K G nm Z' Q a μ := fun w H' Z'' s => h w H' Z'' (Cr.Same.tr st s)
theorem FinA.fin {Q : VK} {r : D} {μ : Store} (h : FinA K G nm Z Q (.d r) μ) : Fin K G nm Z μ Q r := fun w H' Z' st hs rr => h w H' Z' st hs (.d rr)
theorem td_to {f : Env → Store → KA → KX → Prop} {Kp : KA} {Q : VK} (hs : HSim K G nm Z μ H) (b : Bun K G nm W σ Z ρ E) (w : f ρ μ Kp E)
    (k : ∀ a μ1, Kp a μ1 → ∀ v H1 Z1, Same Z Z1 → HSim K G nm Z1 μ1 H1 → Bun K G nm W σ Z1 ρ E → ARep K G nm Z1 v a → Q v H1) : TD K G nm W f σ H Q :=
  ⟨Z, μ, ρ, Kp, E, hs, b, w, fun a μ1 w1 v H1 Z1 st h1 r => k a μ1 w1 v H1 Z1 st h1 (b.same st) r⟩
theorem tdt_to {f : Env → Store → (Bool → Store → Prop) → KX → Prop} {Kp : Bool → Store → Prop} {Q : Bool → Hp → Prop} (hs : HSim K G nm Z μ H) (b : Bun K G nm W σ Z ρ E) (w : f ρ μ Kp E)
    (k : ∀ t μ1, Kp t μ1 → ∀ H1 Z1, Same Z Z1 → HSim K G nm Z1 μ1 H1 → Bun K G nm W σ Z1 ρ E → Q t H1) : TDT K G nm W f σ H Q :=
  ⟨Z, μ, ρ, Kp, E, hs, b, w, fun a μ1 w1 H1 Z1 st h1 => k a μ1 w1 H1 Z1 st h1 (b.same st)⟩
theorem tda_to {f : Env → Store → (List A → Store → Prop) → KX → Prop} {Kp : List A → Store → Prop} {Q : List V → Hp → Prop} (hs : HSim K G nm Z μ H) (b : Bun K G nm W σ Z ρ E) (w : f ρ μ Kp E)
    (k : ∀ as μ1, Kp as μ1 → ∀ vs H1 Z1, Same Z Z1 → HSim K G nm Z1 μ1 H1 → Bun K G nm W σ Z1 ρ E → AReps K G nm Z1 vs as → Q vs H1) : TDA K G nm W f σ H Q :=
  ⟨Z, μ, ρ, Kp, E, hs, b, w, fun a μ1 w1 v H1 Z1 st h1 r => k a μ1 w1 v H1 Z1 st h1 (b.same st) r⟩
end
theorem PE.of {X : Cx} {e : Expr} {t t' : TE} (p : PE X e t) (h : ∀ σ H Q, t' σ H Q → t σ H Q) : PE X e t' := ⟨fun pins s σ H Q I q => p.run pins s σ H Q I (h σ H Q q)⟩
theorem PT.of {X : Cx} {e : Expr} {t t' : TT} (p : PT X e t) (h : ∀ σ H Q, t' σ H Q → t σ H Q) : PT X e t' := ⟨fun pins s σ H Q I q => p.run pins s σ H Q I (h σ H Q q)⟩
theorem PA.of {X : Cx} {e : List Expr} {t t' : L2.TA} (p : PA X e t) (h : ∀ σ H Q, t' σ H Q → t σ H Q) : PA X e t' := ⟨fun pos pins s σ H Q I q => p.run pos pins s σ H Q I (h σ H Q q)⟩

section
variable {K : PySem.W.Frag} {G : Prog} {nm : Nm} {Z Z' H H' : Hp} {μ μ' : Store}
theorem Reps.length : ∀ {vs : List V} {xs : List D}, Reps K G nm Z vs xs → vs.length = xs.length
  | _, _, .nil => rfl
  | _, _, .cons _ t => by simp [Reps.length t]
theorem Reps.append : ∀ {vs ws : List V} {xs ys : List D}, Reps K G nm Z vs xs → Reps K G nm Z ws ys → Reps K G nm Z (vs ++ ws) (xs ++ ys)
  | _, _, _, _, .nil, h => h
  | _, _, _, _, .cons h t, h' => .cons h (Reps.append t h')
theorem Reps.get : ∀ {vs : List V} {xs : List D} {i : Nat} {x : D}, Reps K G nm Z vs xs → xs[i]? = some x → ∃ v, vs[i]? = some v ∧ Rep K G nm Z v x
  | _, _, _, _, .nil, h => by simp at h
  | _, _, 0, _, .cons r _, h => by simp at h; subst h; exact ⟨_, rfl, r⟩
  | _, _, i + 1, _, .cons _ t, h => by
    obtain ⟨v, h1, h2⟩ := Reps.get (i := i) t (by simpa using h)
    exact ⟨v, by simpa using h1, h2⟩
theorem Reps.drop : ∀ {vs : List V} {xs : List D} (n : Nat), Reps K G nm Z vs xs → Reps K G nm Z (vs.drop n) (xs.drop n)
  | _, _, 0, h => h
  | _, _, _ + 1, .nil => .nil
  | _, _, n + 1, .cons _ t => Reps.drop n t
theorem Reps.take : ∀ {vs : List V} {xs : List D} (n : Nat), Reps K G nm Z vs xs → Reps K G nm Z (vs.take n) (xs.take n)
  | _, _, 0, _ => .nil
  | _, _, _ + 1, .nil => .nil
  | _, _, n + 1, .cons h t => .cons h (Reps.take n t)
theorem Reps.set : ∀ {vs : List V} {xs : List D} (n : Nat) {v : V} {x : D}, Rep K G nm Z v x → Reps K G nm Z vs xs → Reps K G nm Z (vs.set n v) (xs.set n x)
  | _, _, _, _, _, _, .nil => .nil
  | _, _, 0, _, _, r, .cons _ t => .cons r t
  | _, _, n + 1, _, _, r, .cons h t => .cons h (Reps.set n r t)
theorem Reps.eraseIdx : ∀ {vs : List V} {xs : List D} (n : Nat), Reps K G nm Z vs xs → Reps K G nm Z (vs.eraseIdx n) (xs.eraseIdx n)
  | _, _, _, .nil => .nil
  | _, _, 0, .cons _ t => t
  | _, _, n + 1, .cons h t => .cons h (Reps.eraseIdx n t)
theorem Reps.reverse : ∀ {vs : List V} {xs : List D}, Reps K G nm Z vs xs → Reps K G nm Z vs.reverse xs.reverse
  | _, _, .nil => .nil
  | _, _, .cons h t => by
    rw [List.reverse_cons, List.reverse_cons]
    exact (Reps.reverse t).append (.cons h .nil)
theorem Reps.dropLast {vs : List V} {xs : List D} (h : Reps K G nm Z vs xs) : Reps K G nm Z vs.dropLast xs.dropLast := by
  rw [List.dropLast_eq_take, List.dropLast_eq_take, h.length]
  exact h.take _
theorem RdR.list {v : V} {xs : List D} (h : RdR K G nm Z H v (.lst xs)) (z : Same Z H) : ∃ a vs, v = .ref a ∧ LstAt K H a vs ∧ Reps K G nm Z vs xs := by
  cases h with
  | z h => cases h with | lst q r => exact ⟨_, _, rfl, LstAt.same z q, r⟩
  | lst q r => exact ⟨_, _, rfl, LstAt.of q, r⟩
theorem RdR.tuple {v : V} {xs : List D} (h : RdR K G nm Z H v (.tup xs)) (z : Same Z H) : ∃ a vs, v = .ref a ∧ SqT K H a vs ∧ Reps K G nm Z vs xs := by
  cases h with
  | z h => cases h with | tup q r => exact ⟨_, _, rfl, SqT.same z q, r⟩
theorem RdR.int {v : V} {i : Int} (h : RdR K G nm Z H v (.int i)) : v = .int i := by
  cases h with | z h => cases h; rfl
theorem RdR.bl {v : V} {i : Bool} (h : RdR K G nm Z H v (.bl i)) : v = .bl i := by
  cases h with | z h => cases h; rfl
theorem RdR.non {v : V} (h : RdR K G nm Z H v .non) : v = .non := by
  cases h with | z h => cases h; rfl
theorem RdR.str {v : V} {s : List Nat} (h : RdR K G nm Z H v (.str s)) : ∃ z : Str, v = .str z ∧ z.cps.toList = s ∧ strOk z = true := by
  cases h with | z h => cases h with | str z o => exact ⟨_, rfl, rfl, o⟩
theorem RdR.dict {v : V} {ks vs : List D} (h : RdR K G nm Z H v (.dct ks vs)) (z : Same Z H) : ∃ a kvs, v = .ref a ∧ Rd H a (.dK kvs) ∧ ks = kvs.map (fun p => keyD p.1) ∧ KeysOk kvs ∧ Reps K G nm Z (kvs.map (·.2)) vs := by
  cases h with
  | z h => cases h with | dct q e n r => exact ⟨_, _, rfl, by rcases q with q | ⟨o, q⟩; exact .inl (z _ _ q); exact .inr ⟨o, z _ _ q⟩, e, n, r⟩
  | dct q e n r => exact ⟨_, _, rfl, q, e, n, r⟩
theorem RdR.dictT {v : V} {ys : List D} (h : RdR K G nm Z H v (.set ys)) : ∃ a kvs ks vs, v = .ref a ∧ ys = [.lst ks, .lst vs] ∧ H a = some (.dT kvs) ∧ ks = kvs.map (fun p => keyT p.1) ∧ (kvs.map (·.1)).Nodup ∧ Reps K G nm Z (kvs.map (·.2)) vs := by
  cases h with
  | z h => cases h
  | dcT q e n r => exact ⟨_, _, _, _, rfl, rfl, q, e, n, r⟩
theorem RdR.of (s : HSim K G nm Z μ H) {v : V} {a : A} {x : D} (r : ARep K G nm Z v a) (h : vw μ a = some x) : RdR K G nm Z H v x := by
  cases r with
  | d r => cases h; exact .z r
  | ptr n =>
    unfold vw at h
    cases e : μ n with
    | none => simp [e] at h
    | some c =>
      have q := s.cells n c e
      cases c with
      | lst xs => simp [e] at h; subst h; obtain ⟨vs, q1, q2⟩ := q; exact .lst q1 q2
      | dct ks vs => simp [e] at h; subst h; obtain ⟨kvs, q1, q2, q3, q4⟩ := q; exact .dct (.inl q1) q2 q3 q4
      | dcT ks vs => simp [e] at h; subst h; obtain ⟨kvs, q1, q2, q3, q4⟩ := q; exact .dcT q1 q2 q3 q4
      | lok o0 kvs0 ks vs => simp [e] at h; subst h; obtain ⟨q1, q2, q3, q4⟩ := q; exact .dct (.inr ⟨_, q1⟩) q2 q3 q4
      | obj c fs => simp [e] at h
      | lsA xs => simp [e] at h
theorem rd_of (s : HSim K G nm Z μ H) {v : V} {a : A} {Kd : D → Prop} (r : ARep K G nm Z v a) (h : rd μ a Kd) : ∃ x, RdR K G nm Z H v x ∧ Kd x := by
  unfold rd at h
  cases e : vw μ a with
  | none => rw [e] at h; exact h.elim
  | some x => rw [e] at h; exact ⟨x, RdR.of s r e, h⟩
theorem rds_of (s : HSim K G nm Z μ H) : ∀ {vs : List V} {as : List A} {Kd : List D → Prop}, AReps K G nm Z vs as → rds μ as Kd → ∃ xs, Paired (RdR K G nm Z H) vs xs ∧ Kd xs
  | _, _, _, .nil, h => ⟨[], .nil, h⟩
  | _, _, _, .cons r t, h => by
    obtain ⟨x, r1, h1⟩ := rd_of s r h
    obtain ⟨xs, r2, h2⟩ := rds_of s t h1
    exact ⟨x :: xs, .cons r1 r2, h2⟩
theorem frz_of (s : HSim K G nm Z μ H) {v : V} {a : A} {x : D} {μ' : Store} (r : ARep K G nm Z v a) (h : frz μ a = some (x, μ')) : ∃ Z', Same Z Z' ∧ HSim K G nm Z' μ' H ∧ Rep K G nm Z' v x := by
  cases r with
  | d r => cases h; exact ⟨Z, same_refl, s, r⟩
  | ptr n =>
    unfold frz at h
    cases e : μ n with
    | none => simp [e] at h
    | some c =>
      have q := s.cells n c e
      cases c with
      | lst xs =>
        simp [e] at h; obtain ⟨rfl, rfl⟩ := h
        obtain ⟨vs, q1, q2⟩ := q
        obtain ⟨s', st⟩ := s.froze e q1
        exact ⟨_, st, s', .lst (LstAt.of upd_same) (q2.same st)⟩
      | dct ks vs =>
        simp [e] at h; obtain ⟨rfl, rfl⟩ := h
        obtain ⟨kvs, q1, q2, q3, q4⟩ := q
        obtain ⟨s', st⟩ := s.froze e q1
        exact ⟨_, st, s', .dct (.inl upd_same) q2 q3 (q4.same st)⟩
      | obj c fs =>
        simp [e] at h
        obtain ⟨vs, h1, rfl, rfl⟩ := h
        obtain ⟨dx, l, ws, q1, q2, q3⟩ := q
        obtain ⟨s', st⟩ := s.froze e q1
        have all : ∀ (ws : List (Option V)) (fs : List (Option A)) (vs : List D), Paired (OptRep K G nm Z) ws fs → allD fs = some vs → ∃ us : List V, ws = us.map some ∧ Reps K G nm Z us vs := by
          intro ws fs vs p
          induction p generalizing vs with
          | nil => intro z; cases z; exact ⟨[], rfl, .nil⟩
          | @cons w f ws fs r t ih =>
            intro z
            cases f with
            | none => simp [allD] at z
            | some a =>
              cases a with
              | ptr n => simp [allD] at z
              | d x =>
                simp [allD] at z
                obtain ⟨vs', z1, rfl⟩ := z
                obtain ⟨us, e1, e2⟩ := ih vs' z1
                cases w with
                | none => exact r.elim
                | some w =>
                  cases r with
                  | d r => exact ⟨w :: us, by rw [e1]; rfl, .cons r e2⟩
        obtain ⟨us, e1, e2⟩ := all ws fs vs q3 h1
        subst e1
        exact ⟨_, st, s', .obj upd_same q2 (e2.same st)⟩
      | dcT ks vs => simp [e] at h
      | lok o0 kvs0 ks vs => simp [e] at h
      | lsA xs => simp [e] at h
theorem toD_of (s : HSim K G nm Z μ H) {v : V} {a : A} {Kd : D → Store → Prop} (r : ARep K G nm Z v a) (h : toD μ a Kd) : ∃ x μ' Z', Same Z Z' ∧ HSim K G nm Z' μ' H ∧ Rep K G nm Z' v x ∧ Kd x μ' := by
  unfold toD at h
  cases e : frz μ a with
  | none => rw [e] at h; exact h.elim
  | some p =>
    obtain ⟨x, μ'⟩ := p
    rw [e] at h
    obtain ⟨Z', a1, a2, a3⟩ := frz_of s r e
    exact ⟨x, μ', Z', a1, a2, a3, h⟩
theorem toDs_of : ∀ {vs : List V} {as : List A} {Z : Hp} {μ : Store} {Kd : List D → Store → Prop}, HSim K G nm Z μ H → AReps K G nm Z vs as → toDs μ as Kd → ∃ xs μ' Z', Same Z Z' ∧ HSim K G nm Z' μ' H ∧ Reps K G nm Z' vs xs ∧ Kd xs μ'
  | _, _, _, _, _, s, .nil, h => ⟨[], _, _, same_refl, s, .nil, h⟩
  | _, _, _, _, _, s, .cons r t, h => by
    obtain ⟨x, μ1, Z1, a1, a2, a3, h1⟩ := toD_of s r h
    obtain ⟨xs, μ2, Z2, b1, b2, b3, h2⟩ := toDs_of a2 (AReps.same a1 t) h1
    exact ⟨x :: xs, μ2, Z2, Cr.Same.tr a1 b1, b2, .cons (a3.same b1) b3, h2⟩
end
end Cr


/-! Cr5: operators. -/
namespace Cr
open PySem PySem.Spec PyProof.Rows L2

section
variable {X : Cx} {G : Prog} {nm : Nm} {Z Z' H H' : Hp} {μ μ' : Store} {pins : List (Addr × Obj)} {σ : L2.St} {s : Shared} {cell : Bool}
theorem line_eq : line = sizeLine := by rw [sizeLine_eq]
theorem lstAt_get (I : Inv X pins σ H s) {a : Addr} {vs : List V} (h : LstAt X.K H a vs) : vs.length ≤ sizeLine ∧ ∃ (its : List Value) (n : Nat), Vals vs its ∧ s.heap.get? a = some { cls := .type "list", data := .seq its.toArray n } := by
  rcases h with (h | ⟨o, h⟩) | ⟨its, h, r, l⟩
  · obtain ⟨z, its, n, r, e⟩ := I.hok a _ h; exact ⟨z, its, n, r, e⟩
  · obtain ⟨q, z, its, n, r, e⟩ := I.hok a _ h; exact ⟨z, its, n, r, e⟩
  · exact ⟨l, its, 0, r, I.kIn a _ h⟩
/-- the end: data that stand in nothing new -/
theorem fin_z (hs : HSim X.K G nm Z μ H) {Q : VK} {r : D} {v : V} {u : Value} {s' : Shared} (I : Inv X pins σ H s') (q : Fin X.K G nm Z μ Q r) (rr : Rep X.K G nm Z v r) (ru : RelV v u) : EP X pins σ Q u s' :=
  ⟨v, H, I, ru, q v H Z same_refl hs rr⟩
/-- the end: a new object -/
theorem fin_new (hs : HSim X.K G nm Z μ H) {Q : VK} {r : D} {a : Addr} {o : HO} {s' : Shared} (hn : H a = none) (I : Inv X pins σ (upd H a o) s') (q : Fin X.K G nm Z μ Q r) (rr : ∀ Z', Same Z Z' → Z' a = some o → Rep X.K G nm Z' (.ref a) r) : EP X pins σ Q (.ref a) s' := by
  obtain ⟨h2, st⟩ := hs.frozen (o := o) hn
  exact ⟨.ref a, _, I, rfl, q _ _ _ st h2 (rr _ st upd_same)⟩
/-- the end of an expression that gives something new: data, or a cell -/
def FinX (K : PySem.W.Frag) (G : Prog) (nm : Nm) (cell : Bool) (Z : Hp) (μ : Store) (Q : VK) (r : D) : Prop := Cr.fin cell r μ (FinA K G nm Z Q)
theorem FinX.z {Q : VK} {r : D} (h : FinX X.K G nm cell Z μ Q r) (hl : ∀ xs, r ≠ .lst xs) (hd : ∀ ks vs, r ≠ .dct ks vs) : Fin X.K G nm Z μ Q r := by
  unfold FinX Cr.fin at h
  cases cell with
  | false => exact fun w H' Z' st hs rr => h w H' Z' st hs (.d rr)
  | true =>
    cases r with
    | lst xs => exact absurd rfl (hl xs)
    | dct ks vs => exact absurd rfl (hd ks vs)
    | _ => exact h.elim
theorem FinX.sc {Q : VK} {r : D} {v : V} (hs : HSim X.K G nm Z μ H) (h : FinX X.K G nm cell Z μ Q r) (rr : Rep X.K G nm Z v r) (hl : ∀ xs, r ≠ .lst xs := by intro _ z; cases z) (hd : ∀ ks vs, r ≠ .dct ks vs := by intro _ _ z; cases z) : Q v H :=
  (h.z hl hd) _ _ _ same_refl hs rr
/-- a new list -/
theorem FinX.list {Q : VK} {xs : List D} {vs : List V} {a : Addr} (hs : HSim X.K G nm Z μ H) (h : FinX X.K G nm cell Z μ Q (.lst xs)) (r : Reps X.K G nm Z vs xs) (hn : H a = none) : Q (.ref a) (upd H a (.lst vs)) := by
  unfold FinX Cr.fin at h
  cases cell with
  | false =>
    obtain ⟨h2, st⟩ := hs.frozen (o := .lst vs) hn
    exact h _ _ _ st h2 (.d (.lst (LstAt.of upd_same) (r.same st)))
  | true => exact h a (hs.free hn).2 _ _ _ same_refl (hs.cell (o := .lst vs) hn ⟨vs, upd_same, r⟩) (.ptr a)
/-- what an operator of two data asks -/
def rOp (op : D → D → (D → Prop) → Prop) (K : PySem.W.Frag) (G : Prog) (nm : Nm) : R2 := fun x y H Q => ∃ Z μ u v, HSim K G nm Z μ H ∧ RdR K G nm Z H x u ∧ RdR K G nm Z H y v ∧ op u v (Fin K G nm Z μ Q)
def rOpX (op : D → D → (D → Prop) → Prop) (cell : Bool) (K : PySem.W.Frag) (G : Prog) (nm : Nm) : R2 := fun x y H Q => ∃ Z μ u v, HSim K G nm Z μ H ∧ RdR K G nm Z H x u ∧ RdR K G nm Z H y v ∧ op u v (FinX K G nm cell Z μ Q)
theorem strOk_iff {z : Str} : strOk z = true ↔ ∀ c ∈ z.cps.toList, c < 1114112 := by
  unfold strOk PyData.strOk
  rw [← Array.all_toList, List.all_eq_true]
  simp
theorem mk_str {l : List Nat} (h : ∀ c ∈ l, c < 1114112) : Rep X.K G nm Z (.str ⟨l.toArray⟩) (.str l) := by
  have e := Rep.str (K := X.K) (G := G) (nm := nm) (Z := Z) ⟨l.toArray⟩ (strOk_iff.mpr (by simpa using h))
  simpa using e
theorem str_app (x y : Str) : x ++ y = (⟨(x.cps.toList ++ y.cps.toList).toArray⟩ : Str) := TL.ext_tl (by rw [TL.tl_append])

theorem cat_nil {P : Program} {w : World} {A : Around} {E : Value → Shared → Prop} {t b : Addr} {ws : List Value} {Q : Value → Shared → Prop} (ht : IsTup s.heap t ([] : List Value).toArray) (hb : IsTup s.heap b ws.toArray)
    (h : Q (.ref b) s) : wpAny (model P w) A (binaryOp .Add (.ref t) (.ref b)) Q E s := by
  obtain ⟨⟨c1, d1, t1, s1⟩, o1, q1, n, q2⟩ := ht
  obtain ⟨⟨c2, d2, t2, s2⟩, o2, q3, m, q4⟩ := hb
  simp only at q1 q2 q3 q4
  subst q1 q2 q3 q4
  exact concat_meets ⟨_, o1, rfl⟩ ⟨_, o2, rfl⟩ noFill_tuple_add seq_tuple_add PySem.F.slot_tuple_add PySem.F.entry_tuple_add (PySem.F.args_tuple_add_2 _ _) (tuple_addW0 t b _ ws.toArray n m d1 d2 s1 s2 rfl) ⟨o1, o2, h⟩
theorem or_add : OpR X (binaryOp .Add) (rOpX (opB .add) cell X.K G nm) := by
  intro pins s σ H x y vx vy Q I rx ry ⟨Z, μ, u, v, hs, ru, rv, h⟩
  cases u <;> cases v <;> try exact h.elim
  · rename_i i j
    cases ru.int; cases rv.int
    obtain ⟨t, rfl⟩ := rx; obtain ⟨t', rfl⟩ := ry
    exact add_int (fin_z hs (I.tok _) (h.z (by intro _ z; cases z) (by intro _ _ z; cases z)) (.int _) ⟨_, rfl⟩)
  · rename_i i j
    obtain ⟨z, rfl, rfl, o1⟩ := ru.str; obtain ⟨z', rfl, rfl, o2⟩ := rv.str
    obtain ⟨h1, h⟩ := h
    refine op_add_str pins s σ H _ _ _ _ Q I rx ry ⟨z, z', rfl, rfl, ?_, ?_⟩
    · rw [← line_eq]; simpa [Str.length] using h1
    · rw [str_app]
      exact (h.z (by intro _ z; cases z) (by intro _ _ z; cases z)) _ _ _ same_refl hs (mk_str fun c hc => (List.mem_append.mp hc).elim (fun q => strOk_iff.mp o1 c q) fun q => strOk_iff.mp o2 c q)
  · rename_i i j
    obtain ⟨a, vs, rfl, l1, r1⟩ := ru.tuple hs.z; obtain ⟨b, ws, rfl, l2, r2⟩ := rv.tuple hs.z
    obtain ⟨h1, h⟩ := h
    have h := h.z (by intro _ z; cases z) (by intro _ _ z; cases z)
    cases rx; cases ry
    obtain ⟨its, q1, p1, _⟩ := I.tuple l1
    obtain ⟨its2, q2, p2, _⟩ := I.tuple l2
    have len1 := r1.length
    have len2 := r2.length
    by_cases e1 : vs = []
    · subst e1
      have ei : i = [] := by cases i with | nil => rfl | cons _ _ => simp at len1
      have e2 : its = [] := by cases its with | nil => rfl | cons _ _ => have := q1.length; simp at this
      subst e2; subst ei
      rw [List.nil_append] at h
      have hrep : Rep X.K G nm Z (.ref b) (.tup j) := by cases rv with | z r => exact r
      exact cat_nil p1 p2 (fin_z hs I h hrep rfl)
    · refine HT.cat_tup p1 p2 (fun z => e1 (q1.nil_iff.mp z)) (fun z => ?_) (fun z => ?_) (by rw [← q1.length, ← q2.length, len1, len2, ← line_eq]; exact h1)
      · have ej : j = [] := by
          have e3 : ws = [] := q2.nil_iff.mp z
          subst e3
          cases j with | nil => rfl | cons _ _ => simp at len2
        subst ej
        rw [List.append_nil] at h
        have hrep : Rep X.K G nm Z (.ref a) (.tup i) := by cases ru with | z r => exact r
        exact fin_z hs I h hrep rfl
      · refine fin_new (o := .tup (vs ++ ws)) hs (I.hok.fresh (Nat.le_refl _)) (I.laid (t' := s.toks) (fun b ob q => Heap.get?_push_of_some _ q) (Nat.le_refl _) ?_) h ?_
        · exact ⟨by rw [List.length_append, len1, len2, ← line_eq]; exact h1, _, q1.append q2, IsTup.new _ _⟩
        · intro Z' st e
          exact .tup (SqT.of e) ((r1.append r2).same st)
  · rename_i i j
    obtain ⟨a, vs, rfl, l1, r1⟩ := ru.list hs.z; obtain ⟨b, ws, rfl, l2, r2⟩ := rv.list hs.z
    obtain ⟨h1, h⟩ := h
    cases rx; cases ry
    obtain ⟨z1, its, n, q1, e1⟩ := lstAt_get I l1
    obtain ⟨z2, its2, n2, q2, e2⟩ := lstAt_get I l2
    have len1 := r1.length
    have len2 := r2.length
    refine PySem.P.add_list e1 e2 ?_ (by rw [List.size_toArray, List.size_toArray, ← q1.length, ← q2.length, len1, len2, ← line_eq]; exact h1)
    have ea : its.toArray ++ its2.toArray = (its ++ its2).toArray := by simp
    rw [ea]
    exact ⟨.ref _, _, I.lnew (t' := s.toks) (q1.append q2) (by rw [List.length_append, len1, len2, ← line_eq]; exact h1), rfl, h.list hs (r1.append r2) I.fresh⟩
theorem Reps.rep {vs : List V} {xs : List D} (h : Reps X.K G nm Z vs xs) : ∀ k : Nat, Reps X.K G nm Z (List.replicate k vs).flatten (List.replicate k xs).flatten
  | 0 => .nil
  | k + 1 => by
    rw [List.replicate_succ, List.replicate_succ, List.flatten_cons, List.flatten_cons]
    exact h.append (Reps.rep h k)
theorem op_repL : OpR X (binaryOp .Mult) (fun x y H Q => ∃ l k xs, x = .ref l ∧ y = .int k ∧ LstAt X.K H l xs ∧ -(2 ^ 63) ≤ k ∧ k < 2 ^ 63 ∧ xs.length * k.toNat ≤ sizeLine ∧
    ∀ p, H p = none → Q (.ref p) (upd H p (.lst (List.replicate k.toNat xs).flatten))) := by
  intro pins s σ H x y v u Q I rx ry ⟨l, k, xs, ex, ey, hH, h1, h2, hz, q⟩
  subst ex ey
  cases rx; obtain ⟨t, rfl⟩ := ry
  obtain ⟨z, its, n, r, e⟩ := lstAt_get I hH
  have hl := r.length
  have hlen : its.toArray.size * k.toNat ≤ sizeLine := by simpa [← hl] using hz
  have c1 : ¬ its.toArray.size * k.toNat > (2 ^ 63 - 1) / 8 := by have := sizeLine_eq; omega
  have c2 : ¬ (!Builtin.List.listFitsIndex k) = true := by rw [fitsIndex_both h1 h2]; simp
  have c3 : ¬ Builtin.List.listTooLong (its.toArray.size * k.toNat) = true := by rw [notLongL hlen]; simp
  have c4 : List.foldl (fun x1 x2 => x1 ++ x2) #[] (List.replicate (if its.toArray.isEmpty = true then 0 else k.toNat) its.toArray) = (List.replicate k.toNat its).flatten.toArray := by
    have f0 := fun m : Nat => (show List.foldl (fun x1 x2 => x1 ++ x2) #[] (List.replicate m its.toArray) = (List.replicate m its).flatten.toArray by simpa using foldl_rep its m [])
    rw [f0]
    cases its <;> simp
  refine wpAny_binaryOp_repeat_ref (T := "list") (U := "int") (by decide) ⟨_, e, rfl⟩ (fun s' => typeIs_int s' k t) noFill_list_mul F.fills_int_mul F.slot_int_rmul repeat_list F.slot_int_index.lookup (call_meets F.slot_int_rmul (typeIs_int s k t) F.entry_int_rmul (F.args_int_rmul_2 _ _) (int___rmul___int_list k t l its.toArray n) ⟨e, rfl, ⟨_, e, rfl⟩, call_meets F.slot_list_mul ⟨_, e, rfl⟩ F.entry_list_mul (F.args_list_mul_2 _ _) (AutoListH.list___mul___list_int_3 l its.toArray n k t c2 c1 c3) ⟨e, ?_⟩⟩)
  rw [c4]
  exact ⟨.ref _, _, I.lnew (t' := s.toks) (r.rep k.toNat) (by rw [PyProof.Rows.lm_len_rep_flat, Nat.mul_comm]; exact hz), rfl, q _ I.fresh⟩
/-- once: the tuple itself -/
theorem tuple_mul1 (l : Addr) (items : Array Value) (n : Nat) (dd : Option Addr) (sl : Array (Option Value)) (u : Tok) :
    Meets (Builtin.«tuple.__mul__» ⟨[.ref l, .int 1 u], []⟩) (fun _ R s => s.heap.get? l = some { cls := .type "tuple", dict := dd, data := .seq items n, slots := sl } ∧ R (.ok (.ret (.ref l))) s) :=
  .of_wp fun prog w A R s h => by
    obtain ⟨hp, g, d, tk, os⟩ := s
    obtain ⟨hl, h⟩ := h
    have f1 := AutoSeq1.idx_int
    have c0 : (decide ((1 : Int) < -(2 ^ 63)) || decide ((1 : Int) ≥ 2 ^ 63)) = false := by decide
    have c1 : (items.isEmpty || (1 : Int) == 1) = true := by simp
    wp_walk using wpAny_loadPart' hl
    repeat (first
      | (refine wpAny_ite_false (decide_eq_false (by rw [c0]; exact Bool.false_ne_true)) ?_; wp_walk using wpAny_loadPart' hl)
      | (refine wpAny_ite_true (decide_eq_true c1) ?_; wp_walk using wpAny_loadPart' hl))
    exact ⟨_, rfl, h⟩
theorem op_repT1 : OpR X (binaryOp .Mult) (fun x y H Q => ∃ l xs, x = .ref l ∧ y = .int 1 ∧ SqT X.K H l xs ∧ Q (.ref l) H) := by
  intro pins s σ H x y v u Q I rx ry h
  obtain ⟨l, xs, rfl, rfl, hT, q⟩ := h
  cases rx
  obtain ⟨t, rfl⟩ := ry
  obtain ⟨its, r, ⟨⟨cls, dd, data, sl⟩, ho, hc, n, hd⟩, hs⟩ := I.tuple hT
  simp only at hc hd
  subst hc hd
  refine wpAny_binaryOp_repeat_ref (T := "tuple") (U := "int") (by decide) ⟨_, ho, rfl⟩ (fun s' => typeIs_int s' 1 t) noFill_tuple_mul F.fills_int_mul F.slot_int_rmul repeat_tuple F.slot_int_index.lookup
    (call_meets F.slot_int_rmul (typeIs_int s 1 t) F.entry_int_rmul (F.args_int_rmul_2 _ _) (int_rmul_tuple 1 t l its.toArray n dd sl)
      ⟨ho, rfl, ⟨_, ho, rfl⟩, call_meets F.slot_tuple_mul ⟨_, ho, rfl⟩ F.entry_tuple_mul (F.args_tuple_mul_2 _ _) (tuple_mul1 l its.toArray n dd sl t) ⟨ho, ?_⟩⟩)
  exact ⟨.ref l, H, I, rfl, q⟩
theorem or_sub : OpR X (binaryOp .Sub) (rOpX (opB .sub) cell X.K G nm) := by
  intro pins s σ H x y vx vy Q I rx ry ⟨Z, μ, u, v, hs, ru, rv, h⟩
  cases u <;> cases v <;> try exact h.elim
  cases ru.int; cases rv.int
  obtain ⟨t, rfl⟩ := rx; obtain ⟨t', rfl⟩ := ry
  exact sub_int (fin_z hs (I.tok _) (h.z (by intro _ z; cases z) (by intro _ _ z; cases z)) (.int _) ⟨_, rfl⟩)
theorem or_mul : OpR X (binaryOp .Mult) (rOpX (opB .mul) cell X.K G nm) := by
  intro pins s σ H x y vx vy Q I rx ry ⟨Z, μ, u, v, hs, ru, rv, h⟩
  cases u <;> cases v <;> try exact h.elim
  rotate_left
  · rename_i xs k
    obtain ⟨h1, h2, h3, h4, h5⟩ := h
    have h := h5.z (by intro _ z; cases z) (by intro _ _ z; cases z)
    obtain ⟨a, vs, rfl, l1, r1⟩ := ru.tuple hs.z
    cases rv.int
    have len1 := r1.length
    by_cases hk : k = 1
    · subst hk
      have hrep : Rep X.K G nm Z (.ref a) (.tup xs) := by cases ru with | z r => exact r
      have e1 : (List.replicate (1 : Int).toNat xs).flatten = xs := by simp
      rw [e1] at h
      have hh := h _ _ _ same_refl hs hrep
      exact op_repT1 pins s σ H _ _ _ _ Q I rx ry ⟨a, vs, rfl, rfl, l1, hh⟩
    refine op_repT pins s σ H _ _ _ _ Q I rx ry ⟨a, k, vs, rfl, rfl, l1, fun z => h1 (by subst z; simpa using len1.symm), by omega, h3, by omega, fun p hp => ?_⟩
    obtain ⟨h6, st⟩ := hs.frozen (o := .tup (List.replicate k.toNat vs).flatten) hp
    exact h _ _ _ st h6 (.tup (SqT.of upd_same) ((r1.rep _).same st))
  · rename_i xs k
    obtain ⟨h1, h2, h3, h⟩ := h
    obtain ⟨a, vs, rfl, l1, r1⟩ := ru.list hs.z
    cases rv.int
    have len1 := r1.length
    exact op_repL pins s σ H _ _ _ _ Q I rx ry ⟨a, k, vs, rfl, rfl, l1, h1, h2, by rw [len1]; exact h3, fun p hp => h.list hs (r1.rep _) hp⟩
  cases ru.int; cases rv.int
  obtain ⟨h1, h⟩ := h
  obtain ⟨t, rfl⟩ := rx; obtain ⟨t', rfl⟩ := ry
  exact PySem.P.mul_int (fin_z hs (I.tok _) (h.z (by intro _ z; cases z) (by intro _ _ z; cases z)) (.int _) ⟨_, rfl⟩) (CMulW.ok h1)
theorem or_fdiv : OpR X (binaryOp .FloorDiv) (rOpX (opB .fdiv) cell X.K G nm) := by
  intro pins s σ H x y vx vy Q I rx ry ⟨Z, μ, u, v, hs, ru, rv, h⟩
  cases u <;> cases v <;> try exact h.elim
  cases ru.int; cases rv.int
  obtain ⟨h1, h⟩ := h
  obtain ⟨t, rfl⟩ := rx; obtain ⟨t', rfl⟩ := ry
  exact floordiv_int h1.1 (fin_z hs (I.tok _) (h.z (by intro _ z; cases z) (by intro _ _ z; cases z)) (.int _) ⟨_, rfl⟩) (.inl (PyProof.noPylong_of_log2 h1.2))
theorem or_mod : OpR X (binaryOp .Mod) (rOpX (opB .mod) cell X.K G nm) := by
  intro pins s σ H x y vx vy Q I rx ry ⟨Z, μ, u, v, hs, ru, rv, h⟩
  cases u <;> cases v <;> try exact h.elim
  cases ru.int; cases rv.int
  obtain ⟨h1, h⟩ := h
  obtain ⟨t, rfl⟩ := rx; obtain ⟨t', rfl⟩ := ry
  exact mod_int' h1 (fin_z hs (I.tok _) (h.z (by intro _ z; cases z) (by intro _ _ z; cases z)) (.int _) ⟨_, rfl⟩)
theorem or_pow : OpR X (binaryOp .Pow) (rOpX (opB .pow) cell X.K G nm) := by
  intro pins s σ H x y vx vy Q I rx ry ⟨Z, μ, u, v, hs, ru, rv, h⟩
  cases u <;> cases v <;> try exact h.elim
  cases ru.int; cases rv.int
  obtain ⟨h1, h⟩ := h
  obtain ⟨t, rfl⟩ := rx; obtain ⟨t', rfl⟩ := ry
  have hb : ∀ a n : Int, PowOk a n → (Builtin.Int.intBits a : Int) * n ≤ 2 ^ 27 := fun a n h1 => Int.le_trans (Int.mul_le_mul_of_nonneg_right (by unfold Builtin.Int.intBits; split <;> omega) h1.1) h1.2
  exact pow_int h1.1 (hb _ _ h1) (fin_z hs (I.tok _) (h.z (by intro _ z; cases z) (by intro _ _ z; cases z)) (.int _) ⟨_, rfl⟩)
theorem or_shl : OpR X (binaryOp .LShift) (rOpX (opB .shl) cell X.K G nm) := by
  intro pins s σ H x y vx vy Q I rx ry ⟨Z, μ, u, v, hs, ru, rv, h⟩
  cases u <;> cases v <;> try exact h.elim
  cases ru.int; cases rv.int
  obtain ⟨h1, h2, h3, h⟩ := h
  obtain ⟨t, rfl⟩ := rx; obtain ⟨t', rfl⟩ := ry
  exact lshift_int_small h1 h2 h3 (fin_z hs (I.tok _) (h.z (by intro _ z; cases z) (by intro _ _ z; cases z)) (.int _) ⟨_, rfl⟩)
end
end Cr


/-! CrLt: < and > of sequences, only the first unlike place asked. -/
namespace PySem.SeqAt
open AutoSeq1 (wpAny_loadPart')
open MeetsSeq MeetsSeq2 MeetsSeq3 SeqRoads2

/-- what decides: at place i the first unlike items, or none; op between them gives k -/
structure Decides (op : CmpOp) (fin : Bool) (A : Around) (s : Shared) (xs ys : Array Value) (i : Nat) (k : Bool) : Prop where
  le : i ≤ min xs.size ys.size
  same : ∀ j (h1 : j < xs.size) (h2 : j < ys.size), j < i → EqAt A s xs[j] ys[j] true
  end_ : i = min xs.size ys.size → k = fin
  here : ∀ (h1 : i < xs.size) (h2 : i < ys.size), EqAt A s xs[i] ys[i] false ∧ RcOp op A s xs[i] ys[i] k


theorem cr_tup_lt (l b : Addr) (xs ys : Array Value) (n m : Nat) (d1 d2 : Option Addr) (s1 s2 : Array (Option Value)) (i : Nat) (k : Bool) :
    Meets (Builtin.«tuple.__lt__» ⟨[.ref l, .ref b], []⟩) fun A R s =>
      s.heap.get? l = some { cls := .type "tuple", dict := d1, data := .seq xs n, slots := s1 } ∧
      s.heap.get? b = some { cls := .type "tuple", dict := d2, data := .seq ys m, slots := s2 } ∧
      Decides .Lt (decide (xs.size < ys.size)) A.in1 s xs ys i k ∧ R (.ok (.ret (.bool k))) s :=
  .of_wp fun prog w A R s h => by
    obtain ⟨hp, g, d, tk, os⟩ := s
    obtain ⟨q1, q2, D, h⟩ := h
    have f2 := AutoSeq1.sub_tuple_tuple
    have hZ : (xs.toList.zip ys.toList).length = min xs.size ys.size := by simp
    have hle := D.le
    wp_walk using wpAny_loadPart' q1, wpAny_loadPart' q2, wpAny_forIn_list _ (fun rest b s' => b.1 = none ∧ s' = ⟨hp, g, d, tk, os⟩ ∧ ∃ a, a ≤ i ∧ rest = (xs.toList.zip ys.toList).drop a) _
    case turn =>
      rintro ⟨y, x⟩ rest b s' ⟨_, rfl, a, ha, hz⟩
      have hlt : a < (xs.toList.zip ys.toList).length := by
        apply Nat.lt_of_not_le
        intro q
        rw [List.drop_of_length_le q] at hz
        cases hz
      have hm : a < min xs.size ys.size := hZ ▸ hlt
      have h1 : a < xs.size := by omega
      have h2 : a < ys.size := by omega
      rw [List.drop_eq_getElem_cons hlt] at hz
      injection hz with e1 e2
      obtain rfl : y = xs[a] := by simpa using congrArg Prod.fst e1
      obtain rfl : x = ys[a] := by simpa using congrArg Prod.snd e1
      by_cases hai : a < i
      · refine wpAny_bind (D.same a h1 h2 hai prog w _ _ ?_)
        wp_walk
        exact ⟨rfl, rfl, a + 1, hai, e2⟩
      · obtain rfl : a = i := by omega
        obtain ⟨u, v⟩ := D.here h1 h2
        refine wpAny_bind (u prog w _ _ ?_)
        dsimp only
        rw [if_pos (show (!false) = true from rfl)]
        refine wpAny_bind (wpAny_rule ?_)
        refine wpAny_bind (v prog w _ _ ?_)
        wp_walk
        exact ⟨_, rfl, h⟩
    case fin =>
      rintro ⟨b1, b2⟩ s' ⟨hb', rfl, a, ha, hz⟩
      simp only at hb'
      subst hb'
      have hge : min xs.size ys.size ≤ a := by
        apply Nat.le_of_not_lt
        intro q
        rw [List.drop_eq_getElem_cons (by rw [hZ]; exact q)] at hz
        cases hz
      have ek := D.end_ (by omega)
      subst ek
      wp_walk
      exact ⟨_, rfl, by simpa [Builtin.Tuple.tupleCompareSizes] using h⟩
    case h =>
      exact ⟨rfl, rfl, 0, Nat.zero_le _, rfl⟩
theorem cr_tup_gt (l b : Addr) (xs ys : Array Value) (n m : Nat) (d1 d2 : Option Addr) (s1 s2 : Array (Option Value)) (i : Nat) (k : Bool) :
    Meets (Builtin.«tuple.__gt__» ⟨[.ref l, .ref b], []⟩) fun A R s =>
      s.heap.get? l = some { cls := .type "tuple", dict := d1, data := .seq xs n, slots := s1 } ∧
      s.heap.get? b = some { cls := .type "tuple", dict := d2, data := .seq ys m, slots := s2 } ∧
      Decides .Gt (decide (xs.size > ys.size)) A.in1 s xs ys i k ∧ R (.ok (.ret (.bool k))) s :=
  .of_wp fun prog w A R s h => by
    obtain ⟨hp, g, d, tk, os⟩ := s
    obtain ⟨q1, q2, D, h⟩ := h
    have f2 := AutoSeq1.sub_tuple_tuple
    have hZ : (xs.toList.zip ys.toList).length = min xs.size ys.size := by simp
    have hle := D.le
    wp_walk using wpAny_loadPart' q1, wpAny_loadPart' q2, wpAny_forIn_list _ (fun rest b s' => b.1 = none ∧ s' = ⟨hp, g, d, tk, os⟩ ∧ ∃ a, a ≤ i ∧ rest = (xs.toList.zip ys.toList).drop a) _
    case turn =>
      rintro ⟨y, x⟩ rest b s' ⟨_, rfl, a, ha, hz⟩
      have hlt : a < (xs.toList.zip ys.toList).length := by
        apply Nat.lt_of_not_le
        intro q
        rw [List.drop_of_length_le q] at hz
        cases hz
      have hm : a < min xs.size ys.size := hZ ▸ hlt
      have h1 : a < xs.size := by omega
      have h2 : a < ys.size := by omega
      rw [List.drop_eq_getElem_cons hlt] at hz
      injection hz with e1 e2
      obtain rfl : y = xs[a] := by simpa using congrArg Prod.fst e1
      obtain rfl : x = ys[a] := by simpa using congrArg Prod.snd e1
      by_cases hai : a < i
      · refine wpAny_bind (D.same a h1 h2 hai prog w _ _ ?_)
        wp_walk
        exact ⟨rfl, rfl, a + 1, hai, e2⟩
      · obtain rfl : a = i := by omega
        obtain ⟨u, v⟩ := D.here h1 h2
        refine wpAny_bind (u prog w _ _ ?_)
        dsimp only
        rw [if_pos (show (!false) = true from rfl)]
        refine wpAny_bind (wpAny_rule ?_)
        refine wpAny_bind (v prog w _ _ ?_)
        wp_walk
        exact ⟨_, rfl, h⟩
    case fin =>
      rintro ⟨b1, b2⟩ s' ⟨hb', rfl, a, ha, hz⟩
      simp only at hb'
      subst hb'
      have hge : min xs.size ys.size ≤ a := by
        apply Nat.le_of_not_lt
        intro q
        rw [List.drop_eq_getElem_cons (by rw [hZ]; exact q)] at hz
        cases hz
      have ek := D.end_ (by omega)
      subst ek
      wp_walk
      exact ⟨_, rfl, by simpa [Builtin.Tuple.tupleCompareSizes] using h⟩
    case h =>
      exact ⟨rfl, rfl, 0, Nat.zero_le _, rfl⟩
theorem cr_tups_lt {A : Around} {s : Shared} {l b : Addr} {xs ys : Array Value} {i : Nat} {k : Bool} (hl : s.heap.IsTuple l xs) (hb : s.heap.IsTuple b ys) (hu : A.units < cLine)
    (D : Decides .Lt (decide (xs.size < ys.size)) A.in1 s xs ys i k) : RcLt A s (.ref l) (.ref b) k := fun prog w E Q h => by
  obtain ⟨⟨c1, d1, t1, s1⟩, o1, rfl, n, rfl⟩ := hl
  obtain ⟨⟨c2, d2, t2, s2⟩, o2, rfl, m, rfl⟩ := hb
  exact richCompare_meets_room (op := .Lt) ⟨_, o1, rfl⟩ ⟨_, o2, rfl⟩ F.slot_tuple_lt F.entry_tuple_lt (F.args_tuple_lt_2 _ _) (cr_tup_lt l b xs ys n m d1 d2 s1 s2 i k)
    ⟨o1, o2, D, show Value.bool k ≠ Value.notImplemented ∧ Q (.bool k) s from ⟨(fun x => nomatch x), h⟩⟩ hu
theorem cr_tups_gt {A : Around} {s : Shared} {l b : Addr} {xs ys : Array Value} {i : Nat} {k : Bool} (hl : s.heap.IsTuple l xs) (hb : s.heap.IsTuple b ys) (hu : A.units < cLine)
    (D : Decides .Gt (decide (xs.size > ys.size)) A.in1 s xs ys i k) : RcOp .Gt A s (.ref l) (.ref b) k := fun prog w E Q h => by
  obtain ⟨⟨c1, d1, t1, s1⟩, o1, rfl, n, rfl⟩ := hl
  obtain ⟨⟨c2, d2, t2, s2⟩, o2, rfl, m, rfl⟩ := hb
  exact richCompare_meets_room (op := .Gt) ⟨_, o1, rfl⟩ ⟨_, o2, rfl⟩ F.slot_tuple_gt F.entry_tuple_gt (F.args_tuple_gt_2 _ _) (cr_tup_gt l b xs ys n m d1 d2 s1 s2 i k)
    ⟨o1, o2, D, show Value.bool k ≠ Value.notImplemented ∧ Q (.bool k) s from ⟨(fun x => nomatch x), h⟩⟩ hu
theorem cr_loop_lt (l b : Addr) (xs ys : Array Value) (n m : Nat) (d1 d2 : Option Addr) (s1 s2 : Array (Option Value)) (i : Nat) (k : Bool) (c : Nat) :
    ∀ a : Nat, a ≤ i → i - a = c → Meets (Builtin.«list.__eq__.loop» ⟨[.ref l, .ref b, rawInt a, rawInt 0], []⟩) fun A R s =>
      s.heap.get? l = some { cls := .type "list", dict := d1, data := .seq xs n, slots := s1 } ∧
      s.heap.get? b = some { cls := .type "list", dict := d2, data := .seq ys m, slots := s2 } ∧
      Decides .Lt (decide (xs.size < ys.size)) A.in1 s xs ys i k ∧ R (.ok (.ret (.bool k))) s := by
  induction c with
  | zero =>
    intro a ha hc prog w A R s h
    obtain rfl : a = i := by omega
    obtain ⟨hp, g, d, tk, os⟩ := s
    obtain ⟨q1, q2, D, h⟩ := h
    have hle := D.le
    wp_walk using wpAny_loadPart' q1, wpAny_loadPart' q2
    by_cases h1 : a < xs.size
    · by_cases h2 : a < ys.size
      · rw [show xs[((a : Nat) : Int).toNat]? = some xs[a] by simp [h1], show ys[((a : Nat) : Int).toNat]? = some ys[a] by simp [h2]]
        obtain ⟨u, v⟩ := D.here h1 h2
        refine wpAny_bind (u prog w _ _ ?_)
        wp_walk using wpAny_loadPart' q1, wpAny_loadPart' q2
        rw [show xs[((a : Nat) : Int).toNat]? = some xs[a] by simp [h1], show ys[((a : Nat) : Int).toNat]? = some ys[a] by simp [h2]]
        dsimp only
        refine wpAny_bind (v prog w _ _ ?_)
        wp_walk
        exact h
      · have ek := D.end_ (by omega)
        rw [show xs[((a : Nat) : Int).toNat]? = some xs[a] by simp [h1], show ys[((a : Nat) : Int).toNat]? = none by simp; omega]
        subst ek
        wp_walk using wpAny_loadPart' q1, wpAny_loadPart' q2
        exact h
    · have ek := D.end_ (by omega)
      rw [show xs[((a : Nat) : Int).toNat]? = none by simp; omega]
      subst ek
      wp_walk using wpAny_loadPart' q1, wpAny_loadPart' q2
      exact h
  | succ c ih =>
    intro a ha hc prog w A R s h
    obtain ⟨hp, g, d, tk, os⟩ := s
    obtain ⟨q1, q2, D, h⟩ := h
    have hle := D.le
    have h1 : a < xs.size := by omega
    have h2 : a < ys.size := by omega
    wp_walk using wpAny_loadPart' q1, wpAny_loadPart' q2
    rw [show xs[((a : Nat) : Int).toNat]? = some xs[a] by simp [h1], show ys[((a : Nat) : Int).toNat]? = some ys[a] by simp [h2]]
    refine wpAny_bind (D.same a h1 h2 (by omega) prog w _ _ ?_)
    wp_walk
    rw [show ((a : Int) + 1) = ((a + 1 : Nat) : Int) by push_cast; rfl]
    exact ⟨plainId_quiet plain_eq_loop _, codeAny_builtin entry_eq_loop (by
      rw [Around.under_plainId plain_eq_loop _]
      exact ih (a + 1) (by omega) (by omega) prog w A R _ ⟨q1, q2, D, h⟩)⟩
theorem cr_list_lt (l b : Addr) (xs ys : Array Value) (n m : Nat) (d1 d2 : Option Addr) (s1 s2 : Array (Option Value)) (i : Nat) (k : Bool) :
    Meets (Builtin.«list.__lt__» ⟨[.ref l, .ref b], []⟩) fun A R s =>
      s.heap.get? l = some { cls := .type "list", dict := d1, data := .seq xs n, slots := s1 } ∧
      s.heap.get? b = some { cls := .type "list", dict := d2, data := .seq ys m, slots := s2 } ∧
      Decides .Lt (decide (xs.size < ys.size)) A.in1 s xs ys i k ∧ R (.ok (.ret (.bool k))) s := by
  intro prog w A R s h
  obtain ⟨hp, g, d, tk, os⟩ := s
  obtain ⟨q1, q2, D, h⟩ := h
  have f3 := AutoSeq1.sub_list_list
  wp_walk using wpAny_loadPart' q1, wpAny_loadPart' q2
  exact ⟨plainId_quiet plain_eq_loop _, codeAny_builtin entry_eq_loop (by
    rw [Around.under_plainId plain_eq_loop _]
    exact cr_loop_lt l b xs ys n m d1 d2 s1 s2 i k i 0 (Nat.zero_le _) rfl prog w A R _ ⟨q1, q2, D, h⟩)⟩
theorem cr_lists_lt {A : Around} {s : Shared} {l b : Addr} {xs ys : Array Value} {i : Nat} {k : Bool} (hl : s.heap.IsList l xs) (hb : s.heap.IsList b ys) (hu : A.units < cLine)
    (D : Decides .Lt (decide (xs.size < ys.size)) A.in1 s xs ys i k) : RcOp .Lt A s (.ref l) (.ref b) k := fun prog w E Q h => by
  obtain ⟨⟨c1, d1, t1, s1⟩, o1, rfl, n, rfl⟩ := hl
  obtain ⟨⟨c2, d2, t2, s2⟩, o2, rfl, m, rfl⟩ := hb
  exact richCompare_meets_room (op := .Lt) ⟨_, o1, rfl⟩ ⟨_, o2, rfl⟩ F.slot_list_lt F.entry_list_lt (F.args_list_lt_2 _ _) (cr_list_lt l b xs ys n m d1 d2 s1 s2 i k)
    ⟨o1, o2, D, show Value.bool k ≠ Value.notImplemented ∧ Q (.bool k) s from ⟨(fun x => nomatch x), h⟩⟩ hu
theorem cr_loop_gt (l b : Addr) (xs ys : Array Value) (n m : Nat) (d1 d2 : Option Addr) (s1 s2 : Array (Option Value)) (i : Nat) (k : Bool) (c : Nat) :
    ∀ a : Nat, a ≤ i → i - a = c → Meets (Builtin.«list.__eq__.loop» ⟨[.ref l, .ref b, rawInt a, rawInt 4], []⟩) fun A R s =>
      s.heap.get? l = some { cls := .type "list", dict := d1, data := .seq xs n, slots := s1 } ∧
      s.heap.get? b = some { cls := .type "list", dict := d2, data := .seq ys m, slots := s2 } ∧
      Decides .Gt (decide (xs.size > ys.size)) A.in1 s xs ys i k ∧ R (.ok (.ret (.bool k))) s := by
  induction c with
  | zero =>
    intro a ha hc prog w A R s h
    obtain rfl : a = i := by omega
    obtain ⟨hp, g, d, tk, os⟩ := s
    obtain ⟨q1, q2, D, h⟩ := h
    have hle := D.le
    wp_walk using wpAny_loadPart' q1, wpAny_loadPart' q2
    by_cases h1 : a < xs.size
    · by_cases h2 : a < ys.size
      · rw [show xs[((a : Nat) : Int).toNat]? = some xs[a] by simp [h1], show ys[((a : Nat) : Int).toNat]? = some ys[a] by simp [h2]]
        obtain ⟨u, v⟩ := D.here h1 h2
        refine wpAny_bind (u prog w _ _ ?_)
        wp_walk using wpAny_loadPart' q1, wpAny_loadPart' q2
        rw [show xs[((a : Nat) : Int).toNat]? = some xs[a] by simp [h1], show ys[((a : Nat) : Int).toNat]? = some ys[a] by simp [h2]]
        dsimp only
        refine wpAny_bind (v prog w _ _ ?_)
        wp_walk
        exact h
      · have ek := D.end_ (by omega)
        rw [show xs[((a : Nat) : Int).toNat]? = some xs[a] by simp [h1], show ys[((a : Nat) : Int).toNat]? = none by simp; omega]
        subst ek
        wp_walk using wpAny_loadPart' q1, wpAny_loadPart' q2
        exact h
    · have ek := D.end_ (by omega)
      rw [show xs[((a : Nat) : Int).toNat]? = none by simp; omega]
      subst ek
      wp_walk using wpAny_loadPart' q1, wpAny_loadPart' q2
      exact h
  | succ c ih =>
    intro a ha hc prog w A R s h
    obtain ⟨hp, g, d, tk, os⟩ := s
    obtain ⟨q1, q2, D, h⟩ := h
    have hle := D.le
    have h1 : a < xs.size := by omega
    have h2 : a < ys.size := by omega
    wp_walk using wpAny_loadPart' q1, wpAny_loadPart' q2
    rw [show xs[((a : Nat) : Int).toNat]? = some xs[a] by simp [h1], show ys[((a : Nat) : Int).toNat]? = some ys[a] by simp [h2]]
    refine wpAny_bind (D.same a h1 h2 (by omega) prog w _ _ ?_)
    wp_walk
    rw [show ((a : Int) + 1) = ((a + 1 : Nat) : Int) by push_cast; rfl]
    exact ⟨plainId_quiet plain_eq_loop _, codeAny_builtin entry_eq_loop (by
      rw [Around.under_plainId plain_eq_loop _]
      exact ih (a + 1) (by omega) (by omega) prog w A R _ ⟨q1, q2, D, h⟩)⟩
theorem cr_list_gt (l b : Addr) (xs ys : Array Value) (n m : Nat) (d1 d2 : Option Addr) (s1 s2 : Array (Option Value)) (i : Nat) (k : Bool) :
    Meets (Builtin.«list.__gt__» ⟨[.ref l, .ref b], []⟩) fun A R s =>
      s.heap.get? l = some { cls := .type "list", dict := d1, data := .seq xs n, slots := s1 } ∧
      s.heap.get? b = some { cls := .type "list", dict := d2, data := .seq ys m, slots := s2 } ∧
      Decides .Gt (decide (xs.size > ys.size)) A.in1 s xs ys i k ∧ R (.ok (.ret (.bool k))) s := by
  intro prog w A R s h
  obtain ⟨hp, g, d, tk, os⟩ := s
  obtain ⟨q1, q2, D, h⟩ := h
  have f3 := AutoSeq1.sub_list_list
  wp_walk using wpAny_loadPart' q1, wpAny_loadPart' q2
  exact ⟨plainId_quiet plain_eq_loop _, codeAny_builtin entry_eq_loop (by
    rw [Around.under_plainId plain_eq_loop _]
    exact cr_loop_gt l b xs ys n m d1 d2 s1 s2 i k i 0 (Nat.zero_le _) rfl prog w A R _ ⟨q1, q2, D, h⟩)⟩
theorem cr_lists_gt {A : Around} {s : Shared} {l b : Addr} {xs ys : Array Value} {i : Nat} {k : Bool} (hl : s.heap.IsList l xs) (hb : s.heap.IsList b ys) (hu : A.units < cLine)
    (D : Decides .Gt (decide (xs.size > ys.size)) A.in1 s xs ys i k) : RcOp .Gt A s (.ref l) (.ref b) k := fun prog w E Q h => by
  obtain ⟨⟨c1, d1, t1, s1⟩, o1, rfl, n, rfl⟩ := hl
  obtain ⟨⟨c2, d2, t2, s2⟩, o2, rfl, m, rfl⟩ := hb
  exact richCompare_meets_room (op := .Gt) ⟨_, o1, rfl⟩ ⟨_, o2, rfl⟩ F.slot_list_gt F.entry_list_gt (F.args_list_gt_2 _ _) (cr_list_gt l b xs ys n m d1 d2 s1 s2 i k)
    ⟨o1, o2, D, show Value.bool k ≠ Value.notImplemented ∧ Q (.bool k) s from ⟨(fun x => nomatch x), h⟩⟩ hu
end PySem.SeqAt


/-! CrCmp: ==, < of data. -/
namespace Cr
open PySem PySem.Spec PyProof.Rows L2 PySem.SeqAt
theorem toPys_len : ∀ xs : List D, (toPys xs).length = xs.length
  | [] => rfl
  | _ :: xs => by simp [toPys, toPys_len xs]
mutual
theorem flat_depth : ∀ (k : Nat) (x : D), flatD k x = true → (toPy x).depth ≤ k
  | _, .non, _ => by simp [toPy, PyData.depth]
  | _, .bl _, _ => by simp [toPy, PyData.depth]
  | _, .int _, _ => by simp [toPy, PyData.depth]
  | _, .str _, _ => by simp [toPy, PyData.depth]
  | 0, .tup _, h => by simp [flatD] at h
  | k + 1, .tup xs, h => by simp only [toPy, PyData.depth]; have := flats_depth k xs (by simpa [flatD] using h); omega
  | 0, .lst _, h => by simp [flatD] at h
  | k + 1, .lst xs, h => by simp only [toPy, PyData.depth]; have := flats_depth k xs (by simpa [flatD] using h); omega
  | _, .dct _ _, h => by simp [flatD] at h
  | _, .set _, h => by simp [flatD] at h
  | _, .obj _ _, h => by simp [flatD] at h
  | _, .exn _ _, h => by simp [flatD] at h
theorem flats_depth : ∀ (k : Nat) (xs : List D), flatDs k xs = true → PyData.depthAll (toPys xs) ≤ k
  | _, [], _ => by simp [toPys, PyData.depthAll]
  | k, x :: xs, h => by
    simp only [flatDs, Bool.and_eq_true] at h
    have h1 := flat_depth k x h.1
    have h2 := flats_depth k xs h.2
    simp only [toPys, PyData.depthAll]; omega
end
section
variable {K : PySem.W.Frag} {G : Prog} {nm : Nm} {Z H : Hp}
theorem strOk_mk {z : Str} : (⟨z.cps.toList.toArray⟩ : Str) = z := by cases z; simp
mutual
theorem dp_of (st : Same Z H) : ∀ (k : Nat) (x : D) (v : V), flatD k x = true → Rep K G nm Z v x → Dp K H v (toPy x) ∧ (toPy x).canLay0 = true
  | _, .non, _, _, r => by cases r; exact ⟨.non, by simp [toPy, PyData.canLay0]⟩
  | _, .bl _, _, _, r => by cases r; exact ⟨.bl _, by simp [toPy, PyData.canLay0]⟩
  | _, .int _, _, _, r => by cases r; exact ⟨.int _, by simp [toPy, PyData.canLay0]⟩
  | _, .str _, _, _, r => by
    cases r with
    | str z o => simp only [toPy, strOk_mk]; exact ⟨.str z, by simpa [PyData.canLay0] using o⟩
  | 0, .tup _, _, h, _ => by simp [flatD] at h
  | k + 1, .tup xs, _, h, r => by
    cases r with
    | tup q r =>
      obtain ⟨a, b⟩ := dps_of st k xs _ (by simpa [flatD] using h) r
      exact ⟨.tup (SqT.same st q) a, by simpa [toPy, PyData.canLay0] using b⟩
  | 0, .lst _, _, h, _ => by simp [flatD] at h
  | k + 1, .lst xs, _, h, r => by
    cases r with
    | lst q r =>
      obtain ⟨a, b⟩ := dps_of st k xs _ (by simpa [flatD] using h) r
      exact ⟨.lst (LstAt.same st q).sq a, by simpa [toPy, PyData.canLay0] using b⟩
  | _, .dct _ _, _, h, _ => by simp [flatD] at h
  | _, .set _, _, h, _ => by simp [flatD] at h
  | _, .obj _ _, _, h, _ => by simp [flatD] at h
  | _, .exn _ _, _, h, _ => by simp [flatD] at h
theorem dps_of (st : Same Z H) : ∀ (k : Nat) (xs : List D) (vs : List V), flatDs k xs = true → Reps K G nm Z vs xs → DpAll K H vs (toPys xs) ∧ PyData.canLayAll0 (toPys xs) = true
  | _, [], _, _, r => by cases r; exact ⟨.nil, by simp [toPys, PyData.canLayAll0]⟩
  | k, x :: xs, _, h, r => by
    cases r with
    | cons r t =>
      simp only [flatDs, Bool.and_eq_true] at h
      obtain ⟨a, b⟩ := dp_of st k x _ h.1 r
      obtain ⟨c, d⟩ := dps_of st k xs _ h.2 t
      exact ⟨.cons a c, by simp [toPys, PyData.canLayAll0, b, d]⟩
end
theorem dp_rd (st : Same Z H) {x : D} {v : V} (h : flatD dep x = true) (r : RdR K G nm Z H v x) : Dp K H v (toPy x) ∧ SeqAt.shaped (toPy x) = true := by
  have d := flat_depth dep x h
  suffices q : Dp K H v (toPy x) ∧ (toPy x).canLay0 = true from ⟨q.1, by simp only [SeqAt.shaped, q.2, Bool.true_and, decide_eq_true_eq]; simp only [dep] at d; omega⟩
  cases r with
  | z r => exact dp_of st dep x v h r
  | @lst a vs xs q r =>
    obtain ⟨a1, b1⟩ := dps_of st 39 xs _ (by simpa [flatD, dep] using h) r
    exact ⟨.lst (SqL.of q) a1, by simpa [toPy, PyData.canLay0] using b1⟩
  | dct _ _ _ _ => simp [flatD] at h
  | dcT _ _ _ _ => simp [flatD] at h
end
theorem str_beq (x y : List Nat) : ((⟨x.toArray⟩ : Str) == ⟨y.toArray⟩) = (x == y) := by
  by_cases e : x = y
  · subst e; simp
  · have h : ¬ (⟨x.toArray⟩ : Str) = ⟨y.toArray⟩ := fun z => e (by injection z with z; simpa using z)
    rw [beq_eq_false_iff_ne.mpr e, beq_eq_false_iff_ne.mpr h]
mutual
theorem eq_py : ∀ (k : Nat) (x y : D), flatD k x = true → flatD k y = true → PyData.eqv (toPy x) (toPy y) = eqD x y
  | k, .non, y, _, h => by cases y <;> simp_all [toPy, PyData.eqv, eqD, flatD]
  | k, .bl a, y, _, h => by cases y <;> simp_all [toPy, PyData.eqv, eqD, flatD]
  | k, .int a, y, _, h => by cases y <;> simp_all [toPy, PyData.eqv, eqD, flatD]
  | k, .str a, y, _, h => by
    cases y <;> simp_all [toPy, PyData.eqv, eqD, flatD]
    exact str_beq _ _
  | 0, .tup _, _, h, _ => by simp [flatD] at h
  | k + 1, .tup xs, y, h, h' => by
    cases y with
    | tup ys => simp only [toPy, PyData.eqv, eqD]; exact eqs_py k xs ys (by simpa [flatD] using h) (by simpa [flatD] using h')
    | _ => simp_all [toPy, PyData.eqv, eqD, flatD]
  | 0, .lst _, _, h, _ => by simp [flatD] at h
  | k + 1, .lst xs, y, h, h' => by
    cases y with
    | lst ys => simp only [toPy, PyData.eqv, eqD]; exact eqs_py k xs ys (by simpa [flatD] using h) (by simpa [flatD] using h')
    | _ => simp_all [toPy, PyData.eqv, eqD, flatD]
  | _, .dct _ _, _, h, _ => by simp [flatD] at h
  | _, .set _, _, h, _ => by simp [flatD] at h
  | _, .obj _ _, _, h, _ => by simp [flatD] at h
  | _, .exn _ _, _, h, _ => by simp [flatD] at h
theorem eqs_py : ∀ (k : Nat) (xs ys : List D), flatDs k xs = true → flatDs k ys = true → PyData.eqvAll (toPys xs) (toPys ys) = eqDs xs ys
  | k, [], [], _, _ => by simp [toPys, PyData.eqvAll, eqDs]
  | k, [], y :: ys, _, _ => by simp [toPys, PyData.eqvAll, eqDs]
  | k, x :: xs, [], _, _ => by simp [toPys, PyData.eqvAll, eqDs]
  | k, x :: xs, y :: ys, h, h' => by
    simp only [flatDs, Bool.and_eq_true] at h h'
    simp only [toPys, PyData.eqvAll, eqDs]
    rw [eq_py k x y h.1 h'.1, eqs_py k xs ys h.2 h'.2]
end
section
variable {X : Cx} {G : Prog} {nm : Nm} {Z Z' H H' : Hp} {μ μ' : Store} {pins : List (Addr × Obj)} {σ : L2.St} {s : Shared}
def bop (op : COp) : D → D → (D → Prop) → Prop := fun x y K => opC op x y fun b => K (.bl b)
theorem opC_eq {x y : D} {K : Bool → Prop} (h : opC .eq x y K) : flatD dep x = true ∧ flatD dep y = true ∧ K (eqD x y) := by
  have e1 : ∀ i j : Int, decide (i = j) = eqD (.int i) (.int j) := fun i j => by simp only [eqD]; rw [Bool.eq_iff_iff]; simp
  have e2 : ∀ i j : List Nat, decide (i = j) = eqD (.str i) (.str j) := fun i j => by simp only [eqD]; rw [Bool.eq_iff_iff]; simp
  unfold opC at h
  cases x <;> cases y <;> first | exact h | exact ⟨rfl, rfl, by rw [← e1]; exact h⟩ | exact ⟨rfl, rfl, by rw [← e2]; exact h⟩
theorem opC_ne {x y : D} {K : Bool → Prop} (h : opC .ne x y K) : flatD dep x = true ∧ flatD dep y = true ∧ K (!eqD x y) := by
  have e1 : ∀ i j : Int, decide (i = j) = eqD (.int i) (.int j) := fun i j => by simp only [eqD]; rw [Bool.eq_iff_iff]; simp
  have e2 : ∀ i j : List Nat, decide (i = j) = eqD (.str i) (.str j) := fun i j => by simp only [eqD]; rw [Bool.eq_iff_iff]; simp
  unfold opC at h
  cases x <;> cases y <;> first | exact h | exact ⟨rfl, rfl, by rw [← e1]; exact h⟩ | exact ⟨rfl, rfl, by rw [← e2]; exact h⟩
theorem oc_eq (hu : X.A.units + 64 < cLine) : OpR X (compareOp .Eq) (rOp (bop .eq) X.K G nm) := by
  intro pins s σ H x y vx vy Q I rx ry ⟨Z, μ, u, v, hs, ru, rv, hh⟩
  obtain ⟨h1, h2, h⟩ := opC_eq hh
  obtain ⟨d1, s1⟩ := dp_rd hs.z h1 ru
  obtain ⟨d2, s2⟩ := dp_rd hs.z h2 rv
  refine op_eqD hu pins s σ H x y vx vy Q I rx ry ⟨_, _, d1, d2, s1, s2, ?_⟩
  rw [eq_py dep u v h1 h2]
  exact h _ _ _ same_refl hs (.bl _)
theorem oc_ne (hu : X.A.units + 64 < cLine) : OpR X (compareOp .NotEq) (rOp (bop .ne) X.K G nm) := by
  intro pins s σ H x y vx vy Q I rx ry ⟨Z, μ, u, v, hs, ru, rv, hh⟩
  obtain ⟨h1, h2, h⟩ := opC_ne hh
  obtain ⟨d1, s1⟩ := dp_rd hs.z h1 ru
  obtain ⟨d2, s2⟩ := dp_rd hs.z h2 rv
  refine op_neD hu pins s σ H x y vx vy Q I rx ry ⟨_, _, d1, d2, s1, s2, ?_⟩
  rw [eq_py dep u v h1 h2]
  exact h _ _ _ same_refl hs (.bl _)
end
end Cr


/-! CrCmp2: < of data, nested, of mixed kinds. -/
namespace Cr
open PySem PySem.Spec PyProof.Rows L2 PySem.SeqAt
mutual
theorem eqD_comm : ∀ (x y : D), eqD x y = eqD y x
  | .non, y => by cases y <;> simp [eqD]
  | .bl a, y => by cases y <;> first | rfl | exact BEq.comm | simp [eqD]
  | .int a, y => by cases y <;> first | rfl | exact BEq.comm | simp [eqD]
  | .str a, y => by cases y <;> first | rfl | exact BEq.comm | simp [eqD]
  | .tup xs, y => by
    cases y with
    | tup ys => simp only [eqD]; exact eqDs_comm xs ys
    | _ => simp [eqD]
  | .lst xs, y => by
    cases y with
    | lst ys => simp only [eqD]; exact eqDs_comm xs ys
    | _ => simp [eqD]
  | .dct _ _, y => by cases y <;> simp [eqD]
  | .set _, y => by cases y <;> simp [eqD]
  | .obj _ _, y => by cases y <;> simp [eqD]
  | .exn _ _, y => by cases y <;> simp [eqD]
theorem eqDs_comm : ∀ (xs ys : List D), eqDs xs ys = eqDs ys xs
  | [], [] => rfl
  | [], _ :: _ => by simp [eqDs]
  | _ :: _, [] => by simp [eqDs]
  | x :: xs, y :: ys => by simp only [eqDs]; rw [eqD_comm x y, eqDs_comm xs ys]
end
/-- where two rows of data part -/
theorem ltDs_at : ∀ (xs ys : List D) (r : Bool), ltDs xs ys = some r → ∃ i, i ≤ min xs.length ys.length ∧ (∀ j, j < i → ∀ u w, xs[j]? = some u → ys[j]? = some w → eqD u w = true) ∧
    (i = min xs.length ys.length → r = decide (xs.length < ys.length)) ∧ ∀ u w, xs[i]? = some u → ys[i]? = some w → eqD u w = false ∧ ltD u w = some r
  | [], [], r, h => ⟨0, by simp, by simp, fun _ => by simp [ltDs] at h; simp [h], by simp⟩
  | [], _ :: _, r, h => ⟨0, by simp, by simp, fun _ => by simp [ltDs] at h; simp [h], by simp⟩
  | _ :: _, [], r, h => ⟨0, by simp, by simp, fun _ => by simp [ltDs] at h; simp [h], by simp⟩
  | x :: xs, y :: ys, r, h => by
    unfold ltDs at h
    by_cases e : eqD x y = true
    · rw [if_pos e] at h
      obtain ⟨i, h1, h2, h3, h4⟩ := ltDs_at xs ys r h
      refine ⟨i + 1, by simp only [List.length_cons]; omega, fun j hj u w => ?_, fun q => ?_, fun u w => by simpa using h4 u w⟩
      · cases j with
        | zero => intro a b; simp at a b; subst a; subst b; exact e
        | succ j => simpa using h2 j (by omega) u w
      · rw [h3 (by simp only [List.length_cons] at q; omega)]; simp
    · rw [if_neg e] at h
      exact ⟨0, by simp, by simp, fun q => by simp at q, fun u w a b => by simp at a b; subst a; subst b; exact ⟨by simpa using e, h⟩⟩
theorem flats_mem {k : Nat} : ∀ {xs : List D}, flatDs k xs = true → ∀ x ∈ xs, flatD k x = true
  | [], _, _, hm => by cases hm
  | y :: ys, h, x, hm => by
    simp only [flatDs, Bool.and_eq_true] at h
    rcases List.mem_cons.mp hm with e | hm
    · rw [e]; exact h.1
    · exact flats_mem h.2 x hm
/-- what reads as a data -/
def RdD (h : Heap) (v : Value) (x : D) : Prop := (∃ as, Reads h v (toPy x) as) ∧ (toPy x).canLay0 = true
theorem reads_at {h : Heap} : ∀ {xs : List D} {vs : List Value} {as : List Addr} {j : Nat} {x : D}, ReadsAll h vs (toPys xs) as → PyData.canLayAll0 (toPys xs) = true → xs[j]? = some x → ∃ v, vs[j]? = some v ∧ RdD h v x
  | [], _, _, _, _, _, _, e => by simp at e
  | x :: xs, _, _, 0, _, r, c, e => by
    simp at e; subst e
    cases r with
    | cons r t =>
      simp only [toPys, PyData.canLayAll0, Bool.and_eq_true] at c
      exact ⟨_, rfl, ⟨_, r⟩, c.1⟩
  | x :: xs, _, _, j + 1, _, r, c, e => by
    cases r with
    | cons r t =>
      simp only [toPys, PyData.canLayAll0, Bool.and_eq_true] at c
      obtain ⟨v, h1, h2⟩ := reads_at (j := j) t c.2 (by simpa using e)
      exact ⟨v, by simpa using h1, h2⟩
theorem eqAt_D {A : Around} {s : Shared} {a b : Value} {x y : D} {k : Nat} (hx : flatD k x = true) (hy : flatD k y = true) (ra : RdD s.heap a x) (rb : RdD s.heap b y) (hu : A.units + k < cLine) : EqAt A s a b (eqD x y) := by
  obtain ⟨⟨as, ra⟩, ca⟩ := ra
  obtain ⟨⟨bs, rb⟩, cb⟩ := rb
  have q := eqAt_reads _ _ A s a b as bs ra rb ca cb (by have := flat_depth k x hx; omega)
  rw [eq_py k x y hx hy] at q
  exact q
theorem readsAll_len {h : Heap} {xs : List D} {vs : List Value} {as : List Addr} (r : ReadsAll h vs (toPys xs) as) : vs.length = xs.length := by
  rw [← toPys_len xs]; exact ReadsAll.length _ _ _ r
theorem units_in {A : Around} : A.in1.units = A.units + 1 := rfl
def LtAtK (k : Nat) : Prop := ∀ (x y : D) (A : Around) (s : Shared) (a b : Value) (r : Bool), flatD k x = true → flatD k y = true → RdD s.heap a x → RdD s.heap b y → ltD x y = some r → A.units + 2 * k + 1 < cLine → RcOp .Lt A s a b r ∧ RcOp .Gt A s b a r
theorem lt_Ds {k : Nat} (ih : LtAtK k) {xs ys : List D} {A : Around} {s : Shared} {vs ws : Array Value} {as bs : List Addr} {r : Bool} (hx : flatDs k xs = true) (hy : flatDs k ys = true) (ra : ReadsAll s.heap vs.toList (toPys xs) as) (rb : ReadsAll s.heap ws.toList (toPys ys) bs)
    (ca : PyData.canLayAll0 (toPys xs) = true) (cb : PyData.canLayAll0 (toPys ys) = true) (h : ltDs xs ys = some r) (hu : A.units + 2 * k + 1 < cLine) :
    ∃ i, Decides .Lt (decide (vs.size < ws.size)) A s vs ws i r ∧ Decides .Gt (decide (ws.size > vs.size)) A s ws vs i r := by
  obtain ⟨i, h1, h2, h3, h4⟩ := ltDs_at xs ys r h
  have l1 : vs.size = xs.length := by simpa using readsAll_len ra
  have l2 : ws.size = ys.length := by simpa using readsAll_len rb
  have at1 : ∀ j (q : j < vs.size), ∃ x, xs[j]? = some x ∧ flatD k x = true ∧ RdD s.heap vs[j] x := fun j q => by
    have q' : j < xs.length := by omega
    obtain ⟨v, e, rr⟩ := reads_at (j := j) ra ca (List.getElem?_eq_getElem q')
    refine ⟨xs[j], List.getElem?_eq_getElem q', flats_mem hx _ (List.getElem_mem q'), ?_⟩
    have : vs[j] = v := by simpa [q] using e
    rw [this]; exact rr
  have at2 : ∀ j (q : j < ws.size), ∃ x, ys[j]? = some x ∧ flatD k x = true ∧ RdD s.heap ws[j] x := fun j q => by
    have q' : j < ys.length := by omega
    obtain ⟨v, e, rr⟩ := reads_at (j := j) rb cb (List.getElem?_eq_getElem q')
    refine ⟨ys[j], List.getElem?_eq_getElem q', flats_mem hy _ (List.getElem_mem q'), ?_⟩
    have : ws[j] = v := by simpa [q] using e
    rw [this]; exact rr
  refine ⟨i, ⟨by rw [l1, l2]; exact h1, fun j j1 j2 hj => ?_, fun e => ?_, fun j1 j2 => ?_⟩, ⟨by rw [l1, l2]; omega, fun j j1 j2 hj => ?_, fun e => ?_, fun j1 j2 => ?_⟩⟩
  · obtain ⟨x, ex, fx, rx⟩ := at1 j j1; obtain ⟨y, ey, fy, ry⟩ := at2 j j2
    have q := eqAt_D fx fy rx ry (A := A) (by omega)
    rwa [h2 j hj x y ex ey] at q
  · rw [h3 (by rw [l1, l2] at e; exact e), l1, l2]
  · obtain ⟨x, ex, fx, rx⟩ := at1 i j1; obtain ⟨y, ey, fy, ry⟩ := at2 i j2
    obtain ⟨e1, e2⟩ := h4 x y ex ey
    have q := eqAt_D fx fy rx ry (A := A) (by omega)
    rw [e1] at q
    exact ⟨q, (ih x y A s _ _ r fx fy rx ry e2 hu).1⟩
  · obtain ⟨x, ex, fx, rx⟩ := at1 j j2; obtain ⟨y, ey, fy, ry⟩ := at2 j j1
    have q := eqAt_D fy fx ry rx (A := A) (by omega)
    rwa [eqD_comm, h2 j hj x y ex ey] at q
  · rw [h3 (by rw [l1, l2] at e; omega), l1, l2]
  · obtain ⟨x, ex, fx, rx⟩ := at1 i j2; obtain ⟨y, ey, fy, ry⟩ := at2 i j1
    obtain ⟨e1, e2⟩ := h4 x y ex ey
    have q := eqAt_D fy fx ry rx (A := A) (by omega)
    rw [eqD_comm, e1] at q
    exact ⟨q, (ih x y A s _ _ r fx fy rx ry e2 hu).2⟩
theorem lt_D : ∀ k, LtAtK k := by
  intro k
  induction k with
  | zero =>
    intro x y A s a b r hx hy ra rb h hu
    cases x <;> cases y <;> first | (exfalso; simp [ltD] at h; done) | (exfalso; simp [flatD] at hx; done) | skip
    · simp [ltD] at h; subst h
      obtain ⟨⟨_, ra⟩, _⟩ := ra; obtain ⟨⟨_, rb⟩, _⟩ := rb
      cases ra; cases rb
      exact ⟨fun prog w E Q q => PySem.P.lt_int q, fun prog w E Q q => PySem.P.gt_int q⟩
    · simp [ltD] at h; subst h
      obtain ⟨⟨_, ra⟩, _⟩ := ra; obtain ⟨⟨_, rb⟩, _⟩ := rb
      cases ra; cases rb
      exact ⟨fun prog w E Q q => PySem.P.lt_str (by simpa using q), fun prog w E Q q => PySem.P.gt_str (by simpa using q)⟩
  | succ k ih =>
    intro x y A s a b r hx hy ra rb h hu
    cases x <;> cases y <;> first | (exfalso; simp [ltD] at h; done) | skip
    · simp [ltD] at h; subst h
      obtain ⟨⟨_, ra⟩, _⟩ := ra; obtain ⟨⟨_, rb⟩, _⟩ := rb
      cases ra; cases rb
      exact ⟨fun prog w E Q q => PySem.P.lt_int q, fun prog w E Q q => PySem.P.gt_int q⟩
    · simp [ltD] at h; subst h
      obtain ⟨⟨_, ra⟩, _⟩ := ra; obtain ⟨⟨_, rb⟩, _⟩ := rb
      cases ra; cases rb
      exact ⟨fun prog w E Q q => PySem.P.lt_str (by simpa using q), fun prog w E Q q => PySem.P.gt_str (by simpa using q)⟩
    · obtain ⟨⟨_, ra⟩, ca⟩ := ra; obtain ⟨⟨_, rb⟩, cb⟩ := rb
      simp only [flatD] at hx hy
      simp only [toPy, PyData.canLay0] at ca cb
      simp only [ltD] at h
      cases ra with
      | tuple a1 a2 a3 a4 =>
      cases rb with
      | tuple b1 b2 b3 b4 =>
      obtain ⟨i, D⟩ := lt_Ds ih (A := A.in1) hx hy a4 b4 ca cb h (by rw [units_in]; omega)
      exact ⟨cr_tups_lt ⟨_, a1, a2, _, a3⟩ ⟨_, b1, b2, _, b3⟩ (by omega) D.1, cr_tups_gt ⟨_, b1, b2, _, b3⟩ ⟨_, a1, a2, _, a3⟩ (by omega) D.2⟩
    · obtain ⟨⟨_, ra⟩, ca⟩ := ra; obtain ⟨⟨_, rb⟩, cb⟩ := rb
      simp only [flatD] at hx hy
      simp only [toPy, PyData.canLay0] at ca cb
      simp only [ltD] at h
      cases ra with
      | list a1 a2 a3 a4 =>
      cases rb with
      | list b1 b2 b3 b4 =>
      obtain ⟨i, D⟩ := lt_Ds ih (A := A.in1) hx hy a4 b4 ca cb h (by rw [units_in]; omega)
      exact ⟨cr_lists_lt ⟨_, a1, a2, _, a3⟩ ⟨_, b1, b2, _, b3⟩ (by omega) D.1, cr_lists_gt ⟨_, b1, b2, _, b3⟩ ⟨_, a1, a2, _, a3⟩ (by omega) D.2⟩
section
variable {X : Cx} {G : Prog} {nm : Nm} {Z Z' H H' : Hp} {μ μ' : Store} {pins : List (Addr × Obj)} {σ : L2.St} {s : Shared}
theorem rdD_of (I : Inv X pins σ H s) (st : Same Z H) {x : D} {v : V} {u : Value} (h : flatD dep x = true) (r : RdR X.K G nm Z H v x) (ru : RelV v u) : RdD s.heap u x := by
  obtain ⟨d, q⟩ := dp_rd st h r
  obtain ⟨as, ra⟩ := Dp.reads I _ v u d ru
  exact ⟨⟨as, ra⟩, SeqAt.canLay_of_shaped q⟩
theorem opC_lt {x y : D} {K : Bool → Prop} (h : opC .lt x y K) : flatD dep x = true ∧ flatD dep y = true ∧ ∃ b, ltD x y = some b ∧ K b := by
  unfold opC at h
  cases x <;> cases y <;> first | exact h | exact ⟨rfl, rfl, _, rfl, h⟩
theorem opC_gt {x y : D} {K : Bool → Prop} (h : opC .gt x y K) : flatD dep x = true ∧ flatD dep y = true ∧ ∃ b, ltD y x = some b ∧ K b := by
  unfold opC at h
  cases x <;> cases y <;> first | exact h | exact ⟨rfl, rfl, _, rfl, h⟩
theorem oc_lt (hu : X.A.units + 100 < cLine) : OpR X (compareOp .Lt) (rOp (bop .lt) X.K G nm) := by
  intro pins s σ H x y vx vy Q I rx ry ⟨Z, μ, u, v, hs, ru, rv, hh⟩
  obtain ⟨h1, h2, k, e, h⟩ := opC_lt hh
  have ra := rdD_of I hs.z h1 ru rx
  have rb := rdD_of I hs.z h2 rv ry
  exact (lt_D dep u v X.A s vx vy k h1 h2 ra rb e (by simp only [dep]; omega)).1 _ _ _ _ (fin_z hs I h (.bl _) rfl)
theorem oc_gt (hu : X.A.units + 100 < cLine) : OpR X (compareOp .Gt) (rOp (bop .gt) X.K G nm) := by
  intro pins s σ H x y vx vy Q I rx ry ⟨Z, μ, u, v, hs, ru, rv, hh⟩
  obtain ⟨h1, h2, k, e, h⟩ := opC_gt hh
  have ra := rdD_of I hs.z h1 ru rx
  have rb := rdD_of I hs.z h2 rv ry
  exact (lt_D dep v u X.A s vy vx k h2 h1 rb ra e (by simp only [dep]; omega)).2 _ _ _ _ (fin_z hs I h (.bl _) rfl)
theorem oc_le : OpR X (compareOp .LtE) (rOp (bop .le) X.K G nm) := by
  intro pins s σ H x y vx vy Q I rx ry ⟨Z, μ, u, v, hs, ru, rv, h⟩
  unfold bop opC at h
  cases u <;> cases v <;> try exact h.elim
  · cases ru.int; cases rv.int
    exact op_le pins s σ H _ _ _ _ Q I rx ry ⟨_, _, rfl, rfl, h _ _ _ same_refl hs (.bl _)⟩
  · obtain ⟨z, rfl, rfl, _⟩ := ru.str; obtain ⟨z', rfl, rfl, _⟩ := rv.str
    exact op_le_str pins s σ H _ _ _ _ Q I rx ry ⟨_, _, rfl, rfl, h _ _ _ same_refl hs (.bl _)⟩
theorem oc_ge : OpR X (compareOp .GtE) (rOp (bop .ge) X.K G nm) := by
  intro pins s σ H x y vx vy Q I rx ry ⟨Z, μ, u, v, hs, ru, rv, h⟩
  unfold bop opC at h
  cases u <;> cases v <;> try exact h.elim
  · cases ru.int; cases rv.int
    exact op_ge pins s σ H _ _ _ _ Q I rx ry ⟨_, _, rfl, rfl, h _ _ _ same_refl hs (.bl _)⟩
  · obtain ⟨z, rfl, rfl, _⟩ := ru.str; obtain ⟨z', rfl, rfl, _⟩ := rv.str
    exact op_ge_str pins s σ H _ _ _ _ Q I rx ry ⟨_, _, rfl, rfl, h _ _ _ same_refl hs (.bl _)⟩
end
end Cr


/-! Cr6: is, in, items, slices. -/
namespace Cr
open PySem PySem.Spec PyProof.Rows L2

theorem keyD_key (k : Key) : isKey (keyD k) = true := by cases k <;> rfl
theorem str_of_toList {z z' : Str} (h : z.cps.toList = z'.cps.toList) : z = z' := TL.ext_tl h
theorem eqD_key (a b : Key) : eqD (keyD a) (keyD b) = decide (a = b) := by
  cases a <;> cases b <;> simp only [keyD, eqD]
  · rw [Bool.eq_iff_iff]; simp
  · simp
  · simp
  · rw [Bool.eq_iff_iff]; simp only [beq_iff_eq, decide_eq_true_eq]
    exact ⟨fun h => by rw [str_of_toList h], fun h => by injection h with h; rw [h]⟩
section
variable {K : PySem.W.Frag} {G : Prog} {nm : Nm} {Z H : Hp}
/-- a value that is a key -/
theorem key_of_rep {v : V} {x : D} (h : isKey x = true) (r : RdR K G nm Z H v x) : ∃ k : Key, v = kV k ∧ x = keyD k := by
  cases x <;> simp [isKey] at h
  · cases r.int; exact ⟨.inl _, rfl, rfl⟩
  · obtain ⟨z, rfl, rfl, _⟩ := r.str; exact ⟨.inr z, rfl, rfl⟩
theorem look_rep : ∀ {kvs : List (Key × V)} {vs : List D} (k : Key), Reps K G nm Z (kvs.map (·.2)) vs →
    (match valV kvs k, lookD (keyD k) (kvs.map fun p => keyD p.1) vs with
      | some v, some x => Rep K G nm Z v x
      | none, none => True
      | _, _ => False)
  | [], _, k, r => by cases r; simp [valV, lookD]
  | (a, w) :: kvs, _, k, r => by
    cases r with
    | @cons _ _ x xs h t =>
      have ih := look_rep (kvs := kvs) k t
      simp only [List.map_cons, lookD, eqD_key]
      unfold valV
      by_cases e : a = k
      · subst e; simp [List.find?]; exact h
      · have e1 : decide (a = k) = false := decide_eq_false e
        simp only [e1, Bool.false_eq_true, if_false]
        unfold valV at ih
        simpa [List.find?, e] using ih
theorem eqDs_keys : ∀ (a b : List Key), eqDs (a.map keyD) (b.map keyD) = decide (a = b)
  | [], [] => by simp [eqDs]
  | [], b :: bs => by simp [eqDs]
  | a :: as, [] => by simp [eqDs]
  | a :: as, b :: bs => by
    simp only [List.map_cons, eqDs, eqD_key, eqDs_keys as bs]
    by_cases h1 : a = b
    · by_cases h2 : as = bs
      · simp [h1, h2]
      · simp [h1, h2]
    · simp [h1]
theorem eqD_keyT (a b : List Key) : eqD (keyT a) (keyT b) = decide (a = b) := by
  simp only [keyT, eqD]
  exact eqDs_keys a b
/-- a value that is a key of a dict with tuples for keys -/
theorem keys_of_reps : ∀ {xs : List D} {vs : List V}, xs.all isKey = true → Reps K G nm Z vs xs → ∃ k : List Key, vs = k.map kV ∧ xs = k.map keyD
  | [], _, _, r => by cases r; exact ⟨[], rfl, rfl⟩
  | x :: xs, _, h, r => by
    cases r with
    | cons r t =>
      simp only [List.all_cons, Bool.and_eq_true] at h
      obtain ⟨a, e1, e2⟩ := key_of_rep (H := Z) h.1 (.z r)
      obtain ⟨k, e3, e4⟩ := keys_of_reps h.2 t
      exact ⟨a :: k, by rw [e1, e3]; rfl, by rw [e2, e4]; rfl⟩
theorem keyT_of_rep {v : V} {x : D} (h : isKeyT x = true) (r : RdR K G nm Z H v x) (z : Same Z H) : ∃ (b : Addr) (k : List Key), v = .ref b ∧ x = keyT k ∧ SqT K H b (k.map kV) := by
  cases x <;> simp only [isKeyT] at h <;> try cases h
  rename_i xs
  obtain ⟨a, vs, rfl, q, rr⟩ := r.tuple z
  obtain ⟨k, rfl, rfl⟩ := keys_of_reps h rr
  exact ⟨a, k, rfl, rfl, q⟩
theorem look_repT : ∀ {kvs : List (List Key × V)} {vs : List D} (k : List Key), Reps K G nm Z (kvs.map (·.2)) vs →
    (match valV kvs k, lookD (keyT k) (kvs.map fun p => keyT p.1) vs with
      | some v, some x => Rep K G nm Z v x
      | none, none => True
      | _, _ => False)
  | [], _, k, r => by cases r; simp [valV, lookD]
  | (a, w) :: kvs, _, k, r => by
    cases r with
    | @cons _ _ x xs h t =>
      have ih := look_repT (kvs := kvs) k t
      simp only [List.map_cons, lookD, eqD_keyT]
      unfold valV
      by_cases e : a = k
      · subst e; simp [List.find?]; exact h
      · have e1 : decide (a = k) = false := decide_eq_false e
        simp only [e1, Bool.false_eq_true, if_false]
        unfold valV at ih
        simpa [List.find?, e] using ih
end
section
variable {X : Cx} {pins : List (Addr × Obj)} {σ : L2.St} {H : Hp} {s : Shared} {a b : Addr} {kvs : List (List Key × V)} {k : List Key}
theorem tk_at (I : Inv X pins σ H s) (h : SqT X.K H b (k.map kV)) : (tupleKind (mixKind X.prog X.w)).is s.heap k b := by
  obtain ⟨us, r, ⟨ob, p1, p2, m, p3⟩, _⟩ := I.tuple h
  exact ⟨ob, us.toArray, m, p1, p2, p3, by simpa using items_are r⟩
theorem tk_val (I : Inv X pins σ H s) (e : H a = some (.dT kvs)) : (a == sysModules) = false ∧ ∃ xs, s.heap.DictOfH (tupleKind (mixKind X.prog X.w)) a xs ∧ RelO (valV kvs k) ((atKey xs k).map (·.2)) := by
  obtain ⟨_, p, xs, rel, dd⟩ := dt_of I.hok e
  exact ⟨p, xs, dd, rel.val k⟩
theorem tk_get {A : Around} {E : Value → Shared → Prop} {v : V} {Q : Value → Shared → Prop} (hu : A.units + 1 < cLine) (I : Inv X pins σ H s) (e : H a = some (.dT kvs)) (hb : SqT X.K H b (k.map kV)) (l : valV kvs k = some v)
    (q : ∀ w' s', Inv X pins σ H s' → RelV v w' → Q w' s') : wpAny (model X.prog X.w) A (getItem (.ref a) (.ref b)) Q E s := by
  obtain ⟨_, xs, dd, rel⟩ := tk_val (k := k) I e
  rw [l] at rel
  obtain ⟨u, hw, ru⟩ := RelO.some_of (v := v) rel
  obtain ⟨p, hp, rfl⟩ := Option.map_eq_some_iff.mp hw
  exact wpAny_getItem_heap (tupleKind_room_in1 hu) (tk_at I hb) dd hp (q _ _ (I.tok _) ru)
theorem tk_in {A : Around} {E : Value → Shared → Prop} {Q : Value → Shared → Prop} (hu : A.units + 1 < cLine) (I : Inv X pins σ H s) (e : H a = some (.dT kvs)) (hb : SqT X.K H b (k.map kV))
    (q : ∀ s', Inv X pins σ H s' → Q (.bool (valV kvs k).isSome) s') : wpAny (model X.prog X.w) A (compareOp .In (.ref b) (.ref a)) Q E s := by
  obtain ⟨p, xs, dd, rel⟩ := tk_val (k := k) I e
  refine wpAny_in_heap (tupleKind_room_in1 hu) (tk_at I hb) p dd ?_
  have z := rel.isSome_eq
  rw [Option.isSome_map] at z
  rw [← z]
  exact q _ (I.tok _)
theorem tk_nin {A : Around} {E : Value → Shared → Prop} {Q : Value → Shared → Prop} (hu : A.units + 1 < cLine) (I : Inv X pins σ H s) (e : H a = some (.dT kvs)) (hb : SqT X.K H b (k.map kV))
    (q : ∀ s', Inv X pins σ H s' → Q (.bool (!(valV kvs k).isSome)) s') : wpAny (model X.prog X.w) A (compareOp .NotIn (.ref b) (.ref a)) Q E s := by
  obtain ⟨p, xs, dd, rel⟩ := tk_val (k := k) I e
  refine wpAny_notIn_heap (tupleKind_room_in1 hu) (tk_at I hb) p dd ?_
  have z := rel.isSome_eq
  rw [Option.isSome_map] at z
  rw [← z]
  exact q _ (I.tok _)
theorem tk_typ (I : Inv X pins σ H s) (e : H a = some (.dT kvs)) : s.TypeIs (.ref a) "dict" := by
  obtain ⟨_, _, dd, _⟩ := tk_val (k := []) I e
  obtain ⟨ob, _, _, p1, p2, _⟩ := id dd
  exact ⟨ob, p1, p2.1⟩
end
section
variable {X : Cx} {G : Prog} {nm : Nm} {Z Z' H H' : Hp} {μ μ' : Store} {pins : List (Addr × Obj)} {σ : L2.St} {s : Shared}
theorem non_of {v : V} {x : D} (r : RdR X.K G nm Z H v x) : decide (v = .non) = isNon x := by
  cases r with
  | z r => cases r <;> simp [isNon]
  | lst _ _ => simp [isNon]
  | dct _ _ _ _ => simp [isNon]
  | dcT _ _ _ _ => simp [isNon]
theorem oc_is : OpR X (compareOp .Is) (rOp (bop .is) X.K G nm) := by
  intro pins s σ H x y vx vy Q I rx ry ⟨Z, μ, u, v, hs, ru, rv, h⟩
  unfold bop opC at h
  cases v with
  | non =>
    cases rv.non
    refine op_isN pins s σ H x _ vx vy Q I rx ry ⟨rfl, ?_⟩
    rw [non_of ru]
    have h' : Fin X.K G nm Z μ Q (.bl (isNon u)) := by cases u <;> exact h
    exact h' _ _ _ same_refl hs (.bl _)
  | bl b =>
    cases u <;> try exact h.elim
    cases ru.bl; cases rv.bl; cases rx; cases ry
    exact is_bool (fin_z hs I h (.bl _) rfl)
  | _ => cases u <;> exact h.elim
theorem oc_isn : OpR X (compareOp .IsNot) (rOp (bop .isn) X.K G nm) := by
  intro pins s σ H x y vx vy Q I rx ry ⟨Z, μ, u, v, hs, ru, rv, h⟩
  unfold bop opC at h
  cases v with
  | non =>
    cases rv.non
    refine op_notN pins s σ H x _ vx vy Q I rx ry ⟨rfl, ?_⟩
    rw [non_of ru]
    have h' : Fin X.K G nm Z μ Q (.bl (!isNon u)) := by cases u <;> exact h
    exact h' _ _ _ same_refl hs (.bl _)
  | bl b =>
    cases u <;> try exact h.elim
    cases ru.bl; cases rv.bl; cases rx; cases ry
    exact isnot_bool (fin_z hs I h (.bl _) rfl)
  | _ => cases u <;> exact h.elim
theorem anyPy (k : Nat) (x : D) (hx : flatD k x = true) : ∀ ys : List D, flatDs k ys = true → (toPys ys).any (fun y => PyData.eqv y (toPy x)) = ys.any fun y => eqD y x
  | [], _ => rfl
  | y :: ys, h => by
    simp only [flatDs, Bool.and_eq_true] at h
    simp only [toPys, List.any_cons, eq_py k y x h.1 hx, anyPy k x hx ys h.2]
theorem seq_shape {ys : List D} (h : flatDs dep ys = true) : PyData.depthAll (toPys ys) ≤ dep := flats_depth dep ys h
theorem in_room {ys : List D} {x : D} {n : Nat} (h : flatD dep x = true) (hu : n + 100 < cLine) : n + 1 + min (PyData.depthAll (toPys ys)) (toPy x).depth < cLine := by
  have := flat_depth dep x h
  simp only [dep] at this
  omega
theorem rdD_list (I : Inv X pins σ H s) (st : Same Z H) {ys : List D} {v : V} {u : Value} (h : flatDs dep ys = true) (r : RdR X.K G nm Z H v (.lst ys)) (ru : RelV v u) : ∃ as, Reads s.heap u (.list (toPys ys)) as ∧ PyData.canLayAll0 (toPys ys) = true := by
  obtain ⟨a, vs, rfl, l, r⟩ := r.list st
  obtain ⟨d, c⟩ := dps_of st dep ys vs h r
  obtain ⟨as, q⟩ := Dp.reads I _ _ u (.lst l.sq d) ru
  exact ⟨as, q, c⟩
theorem rdD_tup (I : Inv X pins σ H s) (st : Same Z H) {ys : List D} {v : V} {u : Value} (h : flatDs dep ys = true) (r : RdR X.K G nm Z H v (.tup ys)) (ru : RelV v u) : ∃ as, Reads s.heap u (.tuple (toPys ys)) as ∧ PyData.canLayAll0 (toPys ys) = true := by
  obtain ⟨a, vs, rfl, l, r⟩ := r.tuple st
  obtain ⟨d, c⟩ := dps_of st dep ys vs h r
  obtain ⟨as, q⟩ := Dp.reads I _ _ u (.tup l d) ru
  exact ⟨as, q, c⟩
theorem oc_in (hu : X.A.units + 100 < cLine) : OpR X (compareOp .In) (rOp (bop .inn) X.K G nm) := by
  intro pins s σ H x y vx vy Q I rx ry ⟨Z, μ, u, v, hs, ru, rv, h⟩
  cases v with
  | lst ys =>
    obtain ⟨h1, h2, h⟩ : flatD dep u = true ∧ flatDs dep ys = true ∧ Fin X.K G nm Z μ Q (.bl (inD u ys)) := by unfold bop opC at h; cases u <;> exact h
    obtain ⟨as, q, c⟩ := rdD_list I hs.z h2 rv ry
    obtain ⟨⟨bs, q'⟩, c'⟩ := rdD_of I hs.z h1 ru rx
    exact SeqAt.in_list_reads q q' (by simpa [PyData.canLay0] using c) c' (in_room h1 hu) (by rw [anyPy dep u h1 ys h2]; exact fin_z hs I h (.bl _) rfl)
  | tup ys =>
    obtain ⟨h1, h2, h⟩ : flatD dep u = true ∧ flatDs dep ys = true ∧ Fin X.K G nm Z μ Q (.bl (inD u ys)) := by unfold bop opC at h; cases u <;> exact h
    obtain ⟨as, q, c⟩ := rdD_tup I hs.z h2 rv ry
    obtain ⟨⟨bs, q'⟩, c'⟩ := rdD_of I hs.z h1 ru rx
    exact SeqAt.in_tuple_reads q q' (by simpa [PyData.canLay0] using c) c' (in_room h1 hu) (by rw [anyPy dep u h1 ys h2]; exact fin_z hs I h (.bl _) rfl)
  | str t =>
    cases u <;> try exact h.elim
    rename_i c
    match c, h with
    | [c], h =>
      obtain ⟨z, rfl, e1, _⟩ := ru.str; obtain ⟨z', rfl, e2, _⟩ := rv.str
      obtain rfl : z = ⟨#[c]⟩ := str_of_toList (by rw [e1])
      exact op_in_sign pins s σ H _ _ vx vy Q I rx ry ⟨c, z', rfl, rfl, by rw [e2]; exact h _ _ _ same_refl hs (.bl _)⟩
  | dct ks vs =>
    obtain ⟨h1, h⟩ : isKey u = true ∧ Fin X.K G nm Z μ Q (.bl (lookD u ks vs).isSome) := by unfold bop opC at h; cases u <;> exact h
    obtain ⟨k, rfl, rfl⟩ := key_of_rep h1 ru
    obtain ⟨a, kvs, rfl, r1, rfl, nd, r2⟩ := rv.dict hs.z
    cases ry
    refine d_in (o := valV kvs k) (by omega) I (.inl ⟨kvs, k, r1, rfl, rfl⟩) rx fun s3 I3 => ?_
    have q := look_rep k r2
    have e : (valV kvs k).isSome = (lookD (keyD k) (kvs.map fun p => keyD p.1) vs).isSome := by
      revert q; cases valV kvs k <;> cases lookD (keyD k) (kvs.map fun p => keyD p.1) vs <;> simp
    rw [e]
    exact fin_z hs I3 h (.bl _) rfl
  | set ys =>
    obtain ⟨a, kvs, ks, vs, rfl, rfl, r1, rfl, nd, r2⟩ := rv.dictT
    obtain ⟨h1, h⟩ : isKeyT u = true ∧ Fin X.K G nm Z μ Q (.bl (lookD u (kvs.map fun p => keyT p.1) vs).isSome) := by unfold bop opC at h; cases u <;> exact h
    obtain ⟨b, k, rfl, rfl, kb⟩ := keyT_of_rep h1 ru hs.z
    cases rx; cases ry
    refine tk_in (by omega) I r1 kb fun s3 I3 => ?_
    have q := look_repT k r2
    have e : (valV kvs k).isSome = (lookD (keyT k) (kvs.map fun p => keyT p.1) vs).isSome := by
      revert q; cases valV kvs k <;> cases lookD (keyT k) (kvs.map fun p => keyT p.1) vs <;> simp
    rw [e]
    exact fin_z hs I3 h (.bl _) rfl
  | _ => cases u <;> exact h.elim
theorem oc_nin (hu : X.A.units + 100 < cLine) : OpR X (compareOp .NotIn) (rOp (bop .nin) X.K G nm) := by
  intro pins s σ H x y vx vy Q I rx ry ⟨Z, μ, u, v, hs, ru, rv, h⟩
  cases v with
  | lst ys =>
    obtain ⟨h1, h2, h⟩ : flatD dep u = true ∧ flatDs dep ys = true ∧ Fin X.K G nm Z μ Q (.bl (!inD u ys)) := by unfold bop opC at h; cases u <;> exact h
    obtain ⟨as, q, c⟩ := rdD_list I hs.z h2 rv ry
    obtain ⟨⟨bs, q'⟩, c'⟩ := rdD_of I hs.z h1 ru rx
    exact SeqAt.notIn_list_reads q q' (by simpa [PyData.canLay0] using c) c' (in_room h1 hu) (by rw [anyPy dep u h1 ys h2]; exact fin_z hs I h (.bl _) rfl)
  | tup ys =>
    obtain ⟨h1, h2, h⟩ : flatD dep u = true ∧ flatDs dep ys = true ∧ Fin X.K G nm Z μ Q (.bl (!inD u ys)) := by unfold bop opC at h; cases u <;> exact h
    obtain ⟨as, q, c⟩ := rdD_tup I hs.z h2 rv ry
    obtain ⟨⟨bs, q'⟩, c'⟩ := rdD_of I hs.z h1 ru rx
    exact SeqAt.notIn_tuple_reads q q' (by simpa [PyData.canLay0] using c) c' (in_room h1 hu) (by rw [anyPy dep u h1 ys h2]; exact fin_z hs I h (.bl _) rfl)
  | str t =>
    cases u <;> try exact h.elim
    rename_i c
    match c, h with
    | [c], h =>
      obtain ⟨z, rfl, e1, _⟩ := ru.str; obtain ⟨z', rfl, e2, _⟩ := rv.str
      obtain rfl : z = ⟨#[c]⟩ := str_of_toList (by rw [e1])
      exact op_notIn_sign pins s σ H _ _ vx vy Q I rx ry ⟨c, z', rfl, rfl, by rw [e2]; exact h _ _ _ same_refl hs (.bl _)⟩
  | dct ks vs =>
    obtain ⟨h1, h⟩ : isKey u = true ∧ Fin X.K G nm Z μ Q (.bl (!(lookD u ks vs).isSome)) := by unfold bop opC at h; cases u <;> exact h
    obtain ⟨k, rfl, rfl⟩ := key_of_rep h1 ru
    obtain ⟨a, kvs, rfl, r1, rfl, nd, r2⟩ := rv.dict hs.z
    cases ry
    refine d_notIn (o := valV kvs k) (by omega) I (.inl ⟨kvs, k, r1, rfl, rfl⟩) rx fun s3 I3 => ?_
    have q := look_rep k r2
    have e : (valV kvs k).isSome = (lookD (keyD k) (kvs.map fun p => keyD p.1) vs).isSome := by
      revert q; cases valV kvs k <;> cases lookD (keyD k) (kvs.map fun p => keyD p.1) vs <;> simp
    rw [e]
    exact fin_z hs I3 h (.bl _) rfl
  | set ys =>
    obtain ⟨a, kvs, ks, vs, rfl, rfl, r1, rfl, nd, r2⟩ := rv.dictT
    obtain ⟨h1, h⟩ : isKeyT u = true ∧ Fin X.K G nm Z μ Q (.bl (!(lookD u (kvs.map fun p => keyT p.1) vs).isSome)) := by unfold bop opC at h; cases u <;> exact h
    obtain ⟨b, k, rfl, rfl, kb⟩ := keyT_of_rep h1 ru hs.z
    cases rx; cases ry
    refine tk_nin (by omega) I r1 kb fun s3 I3 => ?_
    have q := look_repT k r2
    have e : (valV kvs k).isSome = (lookD (keyT k) (kvs.map fun p => keyT p.1) vs).isSome := by
      revert q; cases valV kvs k <;> cases lookD (keyT k) (kvs.map fun p => keyT p.1) vs <;> simp
    rw [e]
    exact fin_z hs I3 h (.bl _) rfl
  | _ => cases u <;> exact h.elim
/-- a list beside the empty one -/
theorem two_lists (I : Inv X pins σ H s) (hs : HSim X.K G nm Z μ H) {x y : V} {xs : List D} {vx vy : Value} (ru : RdR X.K G nm Z H x (.lst xs)) (rv : RdR X.K G nm Z H y (.lst [])) (rx : RelV x vx) (ry : RelV y vy) :
    ∃ a b, ∃ its : List Value, vx = .ref a ∧ vy = .ref b ∧ s.heap.IsList a its.toArray ∧ s.heap.IsList b #[] ∧ its.length = xs.length := by
  obtain ⟨a, vs, rfl, l, r⟩ := ru.list hs.z
  obtain ⟨b, ws, rfl, l2, r2⟩ := rv.list hs.z
  cases r2
  obtain ⟨its, rv1, pl, _⟩ := I.list l.sq
  obtain ⟨its2, rv2, pl2, _⟩ := I.list l2.sq
  cases rv2
  cases rx; cases ry
  exact ⟨a, b, its, rfl, rfl, pl.isList, pl2.isList, by rw [← rv1.length, r.length]⟩
theorem oc_neE (hu : X.A.units + 100 < cLine) : OpR X (compareOp .NotEq) (rOp (bop .neE) X.K G nm) := by
  intro pins s σ H x y vx vy Q I rx ry ⟨Z, μ, u, v, hs, ru, rv, h⟩
  cases u <;> cases v <;> try exact h.elim
  rename_i xs ys
  cases ys with
  | cons _ _ => exact h.elim
  | nil =>
    obtain ⟨a, b, its, rfl, rfl, l1, l2, e⟩ := two_lists I hs ru rv rx ry
    cases xs with
    | nil =>
      have e0 : its = [] := List.eq_nil_of_length_eq_zero (by simpa using e)
      subst e0
      exact PySem.EqBoolInt.of_rcne (SeqAt.RcNeAt.lists (e := fun _ => true) l1 l2 rfl (by omega) fun j h1 => absurd h1 (by simp)) (fin_z hs I h (.bl _) rfl)
    | cons d ds =>
      exact PySem.EqBoolInt.of_rcne (SeqAt.RcNeAt.lists_lengths l1 l2 (by simp at e ⊢; intro z; subst z; simp at e) (by omega)) (fin_z hs I h (.bl _) rfl)
theorem oc_eqE (hu : X.A.units + 100 < cLine) : OpR X (compareOp .Eq) (rOp (bop .eqE) X.K G nm) := by
  intro pins s σ H x y vx vy Q I rx ry ⟨Z, μ, u, v, hs, ru, rv, h⟩
  cases u <;> cases v <;> try exact h.elim
  rename_i xs ys
  cases ys with
  | cons _ _ => exact h.elim
  | nil =>
    obtain ⟨a, b, its, rfl, rfl, l1, l2, e⟩ := two_lists I hs ru rv rx ry
    cases xs with
    | nil =>
      have e0 : its = [] := List.eq_nil_of_length_eq_zero (by simpa using e)
      subst e0
      exact PySem.EqBoolInt.of_rc (SeqAt.RcAt.lists (e := fun _ => true) l1 l2 rfl (by omega) fun j h1 => absurd h1 (by simp)) (fin_z hs I h (.bl _) rfl)
    | cons d ds =>
      exact PySem.EqBoolInt.of_rc (SeqAt.RcAt.lists_lengths l1 l2 (by simp at e ⊢; intro z; subst z; simp at e) (by omega)) (fin_z hs I h (.bl _) rfl)
theorem atI_eq {α : Type} (xs : List α) (i : Int) : Cr.atI xs i = L2.atI xs i := rfl
theorem atI_mem {α : Type} {xs : List α} {i : Int} {x : α} (h : Cr.atI xs i = some x) : ∃ j : Nat, Cr.ixN xs.length i = some j ∧ xs[j]? = some x := by
  unfold Cr.atI at h
  cases e : Cr.ixN xs.length i with
  | none => rw [e] at h; cases h
  | some j => rw [e] at h; exact ⟨j, rfl, h⟩
theorem atI_rep {vs : List V} {xs : List D} {i : Int} {x : D} (r : Reps X.K G nm Z vs xs) (h : Cr.atI xs i = some x) : ∃ v, L2.atI vs i = some v ∧ Rep X.K G nm Z v x := by
  obtain ⟨j, e1, e2⟩ := atI_mem h
  obtain ⟨v, e3, rv⟩ := r.get e2
  refine ⟨v, ?_, rv⟩
  rw [← atI_eq]
  unfold Cr.atI
  rw [r.length, e1]
  exact e3
theorem ix_dict (hu : X.A.units + 100 < cLine) (I : Inv X pins σ H s) {a : Addr} {kvs : List (Key × V)} {k : Key} {v : V} {u : Value} {value slice : Expr} {Q : VK} (hd : Rd H a (.dK kvs)) (e : valV kvs k = some v) (ru : RelV (kV k) u) (q : Q v H)
    (hs : subscripted slice false (.ref a) u = operate [.ref a, u] (getItem (.ref a) u)) : wpAny (model X.prog X.w) X.A (subscriptTail value slice (.ref a) u) (EP X pins σ Q) X.xe s :=
  have g : DGet H a (kV k) (some v) := .inl ⟨kvs, k, hd, rfl, e.symm⟩
  tail_any (dict_typeIs I g) PySem.F.slot_dict_getitem.lookup (d_getItem (by omega) I g ru fun w' s3 I3 rw' => ⟨v, H, I3, rw', q⟩) hs
theorem oi_ix (hu : X.A.units + 100 < cLine) : IxR X (rOp opIx X.K G nm) := by
  intro value slice pins s σ H x y vx vy Q I rx ry ⟨Z, μ, u, v, hs, ru, rv, h⟩ hsub
  cases u <;> try exact h.elim
  case lst xs =>
    cases v <;> try exact h.elim
    cases rv.int
    obtain ⟨d, e, h⟩ := h
    obtain ⟨a, vs, rfl, l, r⟩ := ru.list hs.z
    obtain ⟨w, e1, rw'⟩ := atI_rep r e
    exact ix_list value slice pins s σ H _ _ vx vy Q I rx ry ⟨a, vs, _, w, rfl, rfl, l.sq, e1, h _ _ _ same_refl hs rw'⟩ hsub
  case tup xs =>
    cases v <;> try exact h.elim
    cases rv.int
    obtain ⟨d, e, h⟩ := h
    obtain ⟨a, vs, rfl, l, r⟩ := ru.tuple hs.z
    obtain ⟨w, e1, rw'⟩ := atI_rep r e
    exact ix_tup value slice pins s σ H _ _ vx vy Q I rx ry ⟨a, vs, _, w, rfl, rfl, l, e1, h _ _ _ same_refl hs rw'⟩ hsub
  case str t =>
    cases v <;> try exact h.elim
    cases rv.int
    obtain ⟨l, c, e, h⟩ := h
    obtain ⟨z, rfl, rfl, o⟩ := ru.str
    refine ix_str value slice pins s σ H _ _ vx vy Q I rx ry ⟨z, _, c, rfl, rfl, by rw [← line_eq]; simpa [Str.length] using l, e, h _ _ _ same_refl hs ?_⟩ hsub
    obtain ⟨j, _, e2⟩ := atI_mem e
    have := mk_str (X := X) (G := G) (nm := nm) (Z := Z) (l := [c]) (fun c' hc => by
      simp at hc; subst hc
      exact strOk_iff.mp o _ (List.mem_of_getElem? e2))
    exact this
  case dct ks vs =>
    obtain ⟨h1, d, e, h'⟩ : isKey v = true ∧ ∃ d, lookD v ks vs = some d ∧ Fin X.K G nm Z μ Q d := by unfold opIx at h; cases v <;> exact h
    obtain ⟨k, rfl, rfl⟩ := key_of_rep h1 rv
    obtain ⟨a, kvs, rfl, r1, rfl, nd, r2⟩ := ru.dict hs.z
    cases rx
    have q := look_rep k r2
    rw [e] at q
    cases ev : valV kvs k with
    | none => rw [ev] at q; exact q.elim
    | some w =>
      rw [ev] at q
      exact ix_dict hu I r1 ev ry (h' _ _ _ same_refl hs q) hsub
  case set ys =>
    obtain ⟨a, kvs, ks, vs, rfl, rfl, r1, rfl, nd, r2⟩ := ru.dictT
    obtain ⟨h1, d, e, h'⟩ : isKeyT v = true ∧ ∃ d, lookD v (kvs.map fun p => keyT p.1) vs = some d ∧ Fin X.K G nm Z μ Q d := by unfold opIx at h; cases v <;> exact h
    obtain ⟨b, k, rfl, rfl, kb⟩ := keyT_of_rep h1 rv hs.z
    cases rx; cases ry
    have q := look_repT k r2
    rw [e] at q
    cases ev : valV kvs k with
    | none => rw [ev] at q; exact q.elim
    | some w =>
      rw [ev] at q
      exact tail_any (tk_typ I r1) PySem.F.slot_dict_getitem.lookup (tk_get (by omega) I r1 kb ev fun w' s3 I3 rw' => ⟨w, H, I3, rw', h' _ _ _ same_refl hs q⟩) hsub
/-- what a slice of a data asks -/
def rSl (op : D → Option Int → Option Int → (D → Prop) → Prop) (K : PySem.W.Frag) (G : Prog) (nm : Nm) : V → Option Int → Option Int → Hp → VK → Prop := fun x lo hi H Q => ∃ Z μ u, HSim K G nm Z μ H ∧ RdR K G nm Z H x u ∧ op u lo hi (Fin K G nm Z μ Q)
theorem sIx_eq (n d : Nat) (o : Option Int) : Cr.sIx n d o = HT.sIx n d o := by cases o <;> rfl
theorem cut_rep {vs : List V} {xs : List D} (r : Reps X.K G nm Z vs xs) (lo hi : Option Int) : Reps X.K G nm Z (cutV vs lo hi) (cut xs lo hi) := by
  unfold cut cutV
  rw [sIx_eq, sIx_eq, r.length]
  exact (r.drop _).take _
theorem slice_tup_all {P : Program} {w : World} {A : Around} {E : Value → Shared → Prop} {t : Addr} {its : Array Value} {sl : Addr} {vl vu : Value} {lo hi : Option Int} {Q : Value → Shared → Prop} (ht : IsTup s.heap t its) (hs : s.heap.IsSliceOf sl vl vu .none) (pl : IsPart vl lo) (pu : IsPart vu hi)
    (h0 : HT.sIx its.size 0 lo = 0 ∧ HT.sIx its.size its.size hi = its.size) (h : Q (.ref t) s) : wpAny (model P w) A (getItem (.ref t) (.ref sl)) Q E s := by
  obtain ⟨o, ho, hc, hd⟩ := id hs
  have ty : s.TypeIs (.ref sl) "slice" := ⟨o, ho, hc⟩
  unfold getItem
  try with_reducible refine wpAny_holding ?_
  first | refine wpAny_bind (wpAny_pure ?_) | skip
  refine wpAny_bind (wpAny_sequenceKey ht.typeIs (by decide) ?_)
  refine (fun r => ?h2 : wpAny (model P w) A (call (.builtin "tuple.__getitem__") [.ref t, .ref sl]) (fun v s' => wpAny (model P w) A (pure v) Q E s') E s → _) (wpAny_call_entry (A := A) (E := E) PyProof.Rows.slot_tuple_getitem ht.typeIs entry_tuple_getitem (Q := fun v s' => wpAny (model P w) A (pure v) Q E s') (prog := P) (w := w) (rest := [.ref sl]) ?h1 (args_tuple_getitem _ _))
  case h2 => exact wpAny_bind (wpAny_callSpecial?_slot (name := Str.ofString "__getitem__") ht.typeIs PyProof.Rows.slot_tuple_getitem r)
  show wpAny _ _ (Builtin.Tuple.tupleItemsOf (.ref t) >>= _) _ _ s
  refine wpAny_bind (tupleItemsOf_ ht ?_)
  refine wpAny_bind (wpAny_typeOf ty ?_)
  rw [if_pos (by decide)]
  refine wpAny_bind (HT.sliceApplied_gen hs pl pu ?_)
  have yes : ((((HT.sIx its.size 0 lo : Nat) : Int) == 0 && (1 : Int) == 1 && (HT.sIx its.size its.size hi - HT.sIx its.size 0 lo) == its.size) = true) := by
    rw [h0.1, h0.2]; simp
  show wpAny _ _ (if ((((HT.sIx its.size 0 lo : Nat) : Int) == 0 && (1 : Int) == 1 && (HT.sIx its.size its.size hi - HT.sIx its.size 0 lo) == its.size) = true) then _ else _) _ _ s
  rw [if_pos yes]
  obtain ⟨⟨c1, d1, t1, s1⟩, o1, q1, n, q2⟩ := ht
  simp only at q1 q2
  subst q1 q2
  have ex : wpAny (model P w) A.in1 (Builtin.Tuple.tupleIsExact (.ref t)) (fun b s' => b = true ∧ s' = s) E s := by
    unfold Builtin.Tuple.tupleIsExact
    refine wpAny_bind (wpAny_typeOf ⟨_, o1, rfl⟩ ?_)
    exact wpAny_pure ⟨by decide, rfl⟩
  refine wpAny_bind (thn ex fun b s' e => ?_)
  obtain ⟨rfl, rfl⟩ := e
  rw [if_pos rfl]
  exact wpAny_bind (wpAny_rule (wpAny_pure ⟨_, rfl, wpAny_pure h⟩))
theorem os_sl : SlR X (rSl opSl X.K G nm) := by
  intro pins s σ H x v vl vu lo hi sl Q I rx hsl pl pu ⟨Z, μ, u, hs, ru, h⟩
  cases u <;> try exact h.elim
  case str t =>
    obtain ⟨l, h⟩ := h
    obtain ⟨z, rfl, rfl, o⟩ := ru.str
    refine sl_str pins s σ H _ v vl vu lo hi sl Q I rx hsl pl pu ⟨z, rfl, by rw [← line_eq]; simpa [Str.length] using l, ?_⟩
    have e : (cutS z lo hi) = ⟨(cut z.cps.toList lo hi).toArray⟩ := by
      apply str_of_toList
      unfold cutS cut
      simp [sIx_eq, Str.length]
    rw [e]
    refine h _ _ _ same_refl hs (mk_str fun c hc => strOk_iff.mp o c ?_)
    exact List.mem_of_mem_drop (List.mem_of_mem_take hc)
  case tup xs =>
    obtain ⟨a, vs, rfl, l, r⟩ := ru.tuple hs.z
    by_cases hw : HT.sIx vs.length 0 lo = 0 ∧ HT.sIx vs.length vs.length hi = vs.length
    · obtain ⟨its, rv, ht, hz⟩ := I.tuple l
      cases rx
      have hlen : its.toArray.size = vs.length := by rw [List.size_toArray]; exact rv.length.symm
      refine ⟨"tuple", _, PyProof.Rows.slot_tuple_getitem.lookup, ht.typeIs, slice_tup_all ht hsl pl pu (by rw [hlen]; exact hw) ?_⟩
      have e : cut xs lo hi = xs := by
        unfold cut
        rw [sIx_eq, sIx_eq, ← r.length, hw.1, hw.2]
        simp [r.length]
      have h' : Fin X.K G nm Z μ Q (.tup (cut xs lo hi)) := h
      rw [e] at h'
      have rr : Rep X.K G nm Z (.ref a) (.tup xs) := by cases ru with | z r => exact r
      exact fin_z hs I h' rr rfl
    · refine sl_tup pins s σ H _ v vl vu lo hi sl Q I rx hsl pl pu ⟨a, vs, rfl, l, hw, fun p hp => ?_⟩
      obtain ⟨h2, st⟩ := hs.frozen (o := .tup (cutV vs lo hi)) hp
      exact h _ _ _ st h2 (.tup (SqT.of upd_same) ((cut_rep r lo hi).same st))
  case lst xs =>
    obtain ⟨a, vs, rfl, l, r⟩ := ru.list hs.z
    refine sl_list pins s σ H _ v vl vu lo hi sl Q I rx hsl pl pu ⟨a, vs, rfl, l.sq, fun p hp => ?_⟩
    obtain ⟨h2, st⟩ := hs.frozen (o := .lst (cutV vs lo hi)) hp
    exact h _ _ _ st h2 (.lst (LstAt.of upd_same) ((cut_rep r lo hi).same st))
end
end Cr


/-! Cr7: built-in functions and types that are called. -/
namespace Cr
open PySem PySem.Spec PyProof.Rows L2

section
variable {X : Cx} {G : Prog} {nm : Nm} {Z Z' H H' : Hp} {μ μ' : Store} {pins : List (Addr × Obj)} {σ : L2.St} {s : Shared}
/-- what a call of a built-in asks -/
def rBi (op : List D → (D → Prop) → Prop) (cell : Bool) (K : PySem.W.Frag) (G : Prog) (nm : Nm) : List V → Hp → VK → Prop := fun xs H Q => ∃ Z μ ds, HSim K G nm Z μ H ∧ Paired (RdR K G nm Z H) xs ds ∧ op ds (FinX K G nm cell Z μ Q)
theorem pair1 {R : V → D → Prop} {vs : List V} {x : D} (h : Paired R vs [x]) : ∃ v, vs = [v] ∧ R v x := by
  cases h with | cons a t => cases t; exact ⟨_, rfl, a⟩
theorem pair2 {R : V → D → Prop} {vs : List V} {x y : D} (h : Paired R vs [x, y]) : ∃ v w, vs = [v, w] ∧ R v x ∧ R w y := by
  cases h with | cons a t => cases t with | cons b t => cases t; exact ⟨_, _, rfl, a, b⟩
theorem reps_ints : ∀ {vs : List V} {xs : List D} {ns : List Int}, Reps X.K G nm Z vs xs → intsOf xs = some ns → vs = ns.map V.int
  | _, _, _, .nil, h => by cases h; rfl
  | _, _, _, .cons r t, h => by
    cases r <;> simp [intsOf] at h
    obtain ⟨a, h1, h2⟩ := h
    subst h2
    rw [reps_ints t h1]; rfl
theorem reps_bools : ∀ {vs : List V} {xs : List D} {ns : List Bool}, Reps X.K G nm Z vs xs → boolsOf xs = some ns → vs = ns.map V.bl
  | _, _, _, .nil, h => by cases h; rfl
  | _, _, _, .cons r t, h => by
    cases r <;> simp [boolsOf] at h
    obtain ⟨a, h1, h2⟩ := h
    subst h2
    rw [reps_bools t h1]; rfl
theorem cb_len : CallR X (.builtin "len") (rBi (opBi .len) cell X.K G nm) := by
  intro pins s σ H xs us Q I r ⟨Z, μ, ds, hs, rd, h⟩
  match ds, rd, h with
  | [.str t], rd, ⟨l, h⟩ =>
    obtain ⟨v, rfl, rv⟩ := pair1 rd
    obtain ⟨z, rfl, rfl, _⟩ := rv.str
    refine call_len pins s σ H _ us Q I r ⟨_, z.length, rfl, ⟨by rw [← line_eq]; simpa [Str.length] using l, rfl⟩, ?_⟩
    have := h.sc hs (.int _)
    simpa [Str.length] using this
  | [.lst xs], rd, h =>
    obtain ⟨v, rfl, rv⟩ := pair1 rd
    obtain ⟨a, vs, rfl, l, rr⟩ := rv.list hs.z
    exact call_len pins s σ H _ us Q I r ⟨_, vs.length, rfl, .inl ⟨vs, l.sq, rfl⟩, by rw [rr.length]; exact h.sc hs (.int _)⟩
  | [.tup xs], rd, h =>
    obtain ⟨v, rfl, rv⟩ := pair1 rd
    obtain ⟨a, vs, rfl, l, rr⟩ := rv.tuple hs.z
    exact call_len pins s σ H _ us Q I r ⟨_, vs.length, rfl, .inr ⟨vs, l, rfl⟩, by rw [rr.length]; exact h.sc hs (.int _)⟩
  | [.dct ks ws], rd, h =>
    obtain ⟨v, rfl, rv⟩ := pair1 rd
    obtain ⟨a, kvs, rfl, r1, rfl, nd, r2⟩ := rv.dict hs.z
    obtain ⟨u, rfl, ru⟩ := vals1 r
    cases ru
    have q := h.sc hs (.int _)
    exact d_len I r1 fun t s' I' => ⟨.int kvs.length, H, I', ⟨t, rfl⟩, by simpa using q⟩
theorem dig_all {s : List Nat} (h : s.all isDig = true) : NumText.AllDigits s := fun c hc => by
  have := List.all_eq_true.mp h c hc
  simpa [isDig] using this
theorem int_of {z : Str} {n : Int} (h : intD z.cps.toList = some n) (l : z.length ≤ 640) : PySem.intText? z = some n := by
  have two : ∀ l : List Nat, intD l = some n → (l = z.cps.toList) → PySem.intText? z = some n := by
    intro l0 h e
    match l0, h, e with
    | [], h, _ => simp [intD] at h
    | 45 :: r, h, e =>
      simp only [intD] at h
      split at h
      · rename_i q
        simp only [Bool.and_eq_true] at q
        cases h
        exact PySem.intText_neg e.symm (dig_all q.2) (by intro z; rw [z] at q; simp at q) (by omega)
      · cases h
    | c :: r, h, e =>
      by_cases hc : c = 45
      · subst hc
        simp only [intD] at h
        split at h
        · rename_i q
          simp only [Bool.and_eq_true] at q
          cases h
          exact PySem.intText_neg e.symm (dig_all q.2) (by intro z; rw [z] at q; simp at q) (by omega)
        · cases h
      · have h' : (if (c :: r).all isDig = true then some (numVal (c :: r) : Int) else none) = some n := by
          unfold intD at h
          split at h
          · rename_i q; cases q
          · rename_i q; injection q with q _; exact absurd q hc
          · exact h
        split at h'
        · rename_i q
          cases h'
          have := PySem.intText_digits (x := z) (by rw [← e]; exact dig_all q) (by rw [← e]; simp) (by omega)
          rw [this, ← e]; rfl
        · cases h'
  exact two _ h rfl
theorem cb_int : CallR X (.type "int") (rBi (opBi .int) cell X.K G nm) := by
  intro pins s σ H xs us Q I r ⟨Z, μ, ds, hs, rd, h⟩
  match ds, rd, h with
  | [.int i], rd, h =>
    obtain ⟨v, rfl, rv⟩ := pair1 rd
    cases rv.int
    exact call_int1 pins s σ H _ us Q I r (.inl ⟨i, rfl, h.sc hs (.int _)⟩)
  | [.bl b], rd, h =>
    obtain ⟨v, rfl, rv⟩ := pair1 rd
    cases rv.bl
    exact call_int1 pins s σ H _ us Q I r (.inr ⟨b, rfl, h.sc hs (.int _)⟩)
  | [.str t], rd, ⟨l, n, e, h⟩ =>
    obtain ⟨v, rfl, rv⟩ := pair1 rd
    obtain ⟨z, rfl, rfl, _⟩ := rv.str
    have l' : z.length ≤ 640 := by simpa [Str.length] using l
    exact call_int_str pins s σ H _ us Q I r ⟨z, n, rfl, int_of e l', l', h.sc hs (.int _)⟩
theorem strI_eq (i : Int) : (PySem.Str.ofString (toString i)).cps.toList = strI i := by
  unfold strI
  by_cases h : i < 0
  · rw [if_pos h]
    obtain ⟨n, rfl⟩ : ∃ n : Nat, i = -((n : Nat) : Int) - 1 := ⟨i.natAbs - 1, by omega⟩
    have e : (-((n : Nat) : Int) - 1) = Int.negSucc n := by omega
    rw [e]
    show TL.tl _ = _
    rw [TL.tl_ofString]
    show (("-" ++ Nat.repr (n + 1)) : String).toList.map Char.toNat = _
    rw [String.toList_append]
    have e2 : (Int.negSucc n).natAbs = n + 1 := rfl
    rw [e2, show numL (n + 1) = TL.tl (PySem.Str.ofString (toString (((n + 1 : Nat)) : Int))) from (TL.tl_num _).symm, TL.tl_ofString]
    rfl
  · rw [if_neg h]
    obtain ⟨n, rfl⟩ : ∃ n : Nat, i = (n : Int) := ⟨i.natAbs, by omega⟩
    rw [Int.natAbs_natCast]
    exact TL.tl_num n
theorem numL_ok (n : Nat) : ∀ c ∈ TL.numL n, c < 1114112 := fun c hc => by have := TL.numL_digits n c hc; omega
theorem strI_ok (i : Int) : ∀ c ∈ strI i, c < 1114112 := fun c hc => by
  unfold strI at hc
  split at hc
  · rcases List.mem_cons.mp hc with e | hc
    · omega
    · exact numL_ok _ c hc
  · exact numL_ok _ c hc
theorem cb_str : CallR X (.type "str") (rBi (opBi .str) cell X.K G nm) := by
  intro pins s σ H xs us Q I r ⟨Z, μ, ds, hs, rd, h⟩
  match ds, rd, h with
  | [.int i], rd, ⟨l, h⟩ =>
    obtain ⟨v, rfl, rv⟩ := pair1 rd
    cases rv.int
    refine call_str_int pins s σ H _ us Q I r ⟨i, rfl, l, ?_⟩
    have e : PySem.Str.ofString (toString i) = ⟨(strI i).toArray⟩ := str_of_toList (by rw [strI_eq])
    have q := h.sc hs (mk_str (strI_ok i))
    rw [← e] at q
    exact q
theorem cb_tuple : CallR X (.type "tuple") (rBi (opBi .tuple) cell X.K G nm) := by
  intro pins s σ H xs us Q I r ⟨Z, μ, ds, hs, rd, h⟩
  match ds, rd, h with
  | [.lst xs], rd, h =>
    obtain ⟨v, rfl, rv⟩ := pair1 rd
    obtain ⟨a, vs, rfl, l, rr⟩ := rv.list hs.z
    refine call_tuple_of pins s σ H _ us Q I r ⟨a, vs, rfl, .inl ⟨l.sq, fun p hp => ?_⟩⟩
    obtain ⟨h2, st⟩ := hs.frozen (o := .tup vs) hp
    exact h.z (by intro _ z; cases z) (by intro _ _ z; cases z) _ _ _ st h2 (.tup (SqT.of upd_same) (rr.same st))
  | [.tup xs], rd, h =>
    obtain ⟨v, rfl, rv⟩ := pair1 rd
    obtain ⟨a, vs, rfl, l, rr⟩ := rv.tuple hs.z
    have rr' : Rep X.K G nm Z (.ref a) (.tup xs) := by cases rv with | z r => exact r
    exact call_tuple_of pins s σ H _ us Q I r ⟨a, vs, rfl, .inr ⟨l, h.sc hs rr'⟩⟩
theorem keys_rep : ∀ (kvs : List (Key × V)), (∀ p ∈ kvs, ∀ z, p.1 = Sum.inr z → strOk z = true) → Reps X.K G nm Z (kvs.map fun kv => kV kv.1) (kvs.map fun p => keyD p.1)
  | [], _ => .nil
  | (.inl i, _) :: r, h => .cons (.int i) (keys_rep r fun p hp => h p (List.mem_cons_of_mem _ hp))
  | (.inr z, w) :: r, h => .cons (.str z (h (.inr z, w) (by simp) z rfl)) (keys_rep r fun p hp => h p (List.mem_cons_of_mem _ hp))
theorem cb_list (hc : X.calm = true) : CallR X (.type "list") (rBi (opBi .list) cell X.K G nm) := by
  intro pins s σ H xs us Q I r ⟨Z, μ, ds, hs, rd, h⟩
  match ds, rd, h with
  | [.lst xs], rd, h =>
    obtain ⟨v, rfl, rv⟩ := pair1 rd
    obtain ⟨a, vs, rfl, l, rr⟩ := rv.list hs.z
    exact call_list_of pins s σ H _ us Q I r ⟨a, vs, rfl, .inl l.sq, fun p hp => h.list hs rr hp⟩
  | [.tup xs], rd, h =>
    obtain ⟨v, rfl, rv⟩ := pair1 rd
    obtain ⟨a, vs, rfl, l, rr⟩ := rv.tuple hs.z
    exact call_list_of pins s σ H _ us Q I r ⟨a, vs, rfl, .inr l, fun p hp => h.list hs rr hp⟩
  | [.dct ks ws], rd, h =>
    obtain ⟨v, rfl, rv⟩ := pair1 rd
    obtain ⟨a, kvs, rfl, r1, rfl, nd, r2⟩ := rv.dict hs.z
    exact call_listD hc pins s σ H _ us Q I r ⟨a, kvs, rfl, r1, fun p hp => h.list hs (keys_rep kvs nd.2) hp⟩
theorem cb_all (hc : X.calm = true) : CallR X (.builtin "all") (rBi (opBi .all) cell X.K G nm) := by
  intro pins s σ H xs us Q I r ⟨Z, μ, ds, hs, rd, h⟩
  match ds, rd, h with
  | [.lst xs], rd, ⟨bs, e, h⟩ =>
    obtain ⟨v, rfl, rv⟩ := pair1 rd
    obtain ⟨a, vs, rfl, l, rr⟩ := rv.list hs.z
    exact cr_all hc pins s σ H _ us Q I r ⟨a, bs, rfl, by rw [← reps_bools rr e]; exact l.sq, h.sc hs (.bl _)⟩
theorem cb_any (hc : X.calm = true) : CallR X (.builtin "any") (rBi (opBi .any) cell X.K G nm) := by
  intro pins s σ H xs us Q I r ⟨Z, μ, ds, hs, rd, h⟩
  match ds, rd, h with
  | [.lst xs], rd, ⟨bs, e, h⟩ =>
    obtain ⟨v, rfl, rv⟩ := pair1 rd
    obtain ⟨a, vs, rfl, l, rr⟩ := rv.list hs.z
    exact cr_any hc pins s σ H _ us Q I r ⟨a, bs, rfl, by rw [← reps_bools rr e]; exact l.sq, h.sc hs (.bl _)⟩
theorem tup_sum (hh : X.A.handled = none) {a : Addr} {vs : List V} {ns : List Int} {us : List Value} {Q : Value → Shared → Prop} (I : Inv X pins σ H s) (l : SqT X.K H a vs) (r : Vals [V.ref a] us) (ev : vs = ns.map V.int)
    (h : ∀ t' h' tk, (∀ b o, s.heap.get? b = some o → h'.get? b = some o) → Q (.int ns.sum t') { s with heap := h', toks := tk }) : wpAny (model X.prog X.w) X.A (call (.builtin "sum") us) Q X.xe s := by
  obtain rfl := Vals.ref1 r
  subst ev
  obtain ⟨its, rv, p, _⟩ := I.tuple l
  have hi := rv.ints
  obtain ⟨xs, hx⟩ := hi.allInts.items
  have hT : s.heap.IsTuple a its.toArray := p
  have hn : numsOf its.toArray.toList = ns := by rw [show its.toArray.toList = its from rfl, hi.numsOf]
  rw [hx] at hT hn
  rw [nums_intItems] at hn
  refine PySem.W.ktm_sumG hh hT fun h' tk t' hk => ?_
  have q := h t' h' tk hk
  rw [preSum_eq, List.take_of_length_le (by simp), hn]
  exact q
theorem cb_sum (hc : X.calm = true) : CallR X (.builtin "sum") (rBi (opBi .sum) cell X.K G nm) := by
  intro pins s σ H xs us Q I r ⟨Z, μ, ds, hs, rd, h⟩
  match ds, rd, h with
  | [.lst xs], rd, ⟨bs, e, h⟩ =>
    obtain ⟨v, rfl, rv⟩ := pair1 rd
    obtain ⟨a, vs, rfl, l, rr⟩ := rv.list hs.z
    exact cr_sum hc pins s σ H _ us Q I r ⟨a, bs, rfl, by rw [← reps_ints rr e]; exact l.sq, h.sc hs (.int _)⟩
  | [.tup xs], rd, ⟨bs, e, h⟩ =>
    obtain ⟨v, rfl, rv⟩ := pair1 rd
    obtain ⟨a, vs, rfl, l, rr⟩ := rv.tuple hs.z
    exact tup_sum (I.ok.hd hc) I l r (reps_ints rr e) fun t' h' tk hk => ⟨.int _, H, I.kept hk, ⟨_, rfl⟩, h.sc hs (.int _)⟩
theorem cb_abs : CallR X (.builtin "abs") (rBi (opBi .abs) cell X.K G nm) := by
  intro pins s σ H xs us Q I r ⟨Z, μ, ds, hs, rd, h⟩
  match ds, rd, h with
  | [.int i], rd, h =>
    obtain ⟨v, rfl, rv⟩ := pair1 rd
    cases rv.int
    refine call_abs pins s σ H _ us Q I r ⟨i, rfl, ?_⟩
    have e : (if i < 0 then -i else i) = (i.natAbs : Int) := by split <;> omega
    rw [e]
    exact h.sc hs (.int _)
theorem minOf_ok (x : Int) (xs : List Int) : PySem.W.minOf x xs ∈ x :: xs ∧ ∀ y ∈ x :: xs, PySem.W.minOf x xs ≤ y := by
  unfold PySem.W.minOf
  induction xs generalizing x with
  | nil => simp
  | cons y ys ih =>
    rw [List.foldl_cons]
    have hlt : (PySem.W.DatumOrd.lt y x = true) ↔ y < x := by show decide (y < x) = true ↔ _; simp
    obtain ⟨h1, h2⟩ := ih (if PySem.W.DatumOrd.lt y x = true then y else x)
    have h3 := h2 _ List.mem_cons_self
    refine ⟨?_, fun z hz => ?_⟩
    · rcases List.mem_cons.mp h1 with e | e
      · rw [e]; split <;> simp
      · simp [e]
    · have h4 : (if PySem.W.DatumOrd.lt y x = true then y else x) ≤ x ∧ (if PySem.W.DatumOrd.lt y x = true then y else x) ≤ y := by
        split <;> rename_i q <;> rw [hlt] at q <;> omega
      rcases List.mem_cons.mp hz with e | e
      · omega
      · rcases List.mem_cons.mp e with e | e
        · omega
        · exact h2 z (List.mem_cons_of_mem _ e)
theorem maxOf_ok (x : Int) (xs : List Int) : PySem.W.maxOf x xs ∈ x :: xs ∧ ∀ y ∈ x :: xs, y ≤ PySem.W.maxOf x xs := by
  unfold PySem.W.maxOf
  induction xs generalizing x with
  | nil => simp
  | cons y ys ih =>
    rw [List.foldl_cons]
    have hlt : (PySem.W.DatumOrd.lt x y = true) ↔ x < y := by show decide (x < y) = true ↔ _; simp
    obtain ⟨h1, h2⟩ := ih (if PySem.W.DatumOrd.lt x y = true then y else x)
    have h3 := h2 _ List.mem_cons_self
    refine ⟨?_, fun z hz => ?_⟩
    · rcases List.mem_cons.mp h1 with e | e
      · rw [e]; split <;> simp
      · simp [e]
    · have h4 : x ≤ (if PySem.W.DatumOrd.lt x y = true then y else x) ∧ y ≤ (if PySem.W.DatumOrd.lt x y = true then y else x) := by
        split <;> rename_i q <;> rw [hlt] at q <;> omega
      rcases List.mem_cons.mp hz with e | e
      · omega
      · rcases List.mem_cons.mp e with e | e
        · omega
        · exact h2 z (List.mem_cons_of_mem _ e)
theorem cr_mmT (hc : X.calm = true) (hu : X.A.units + 100 < cLine) (mx : Bool) : CallR X (.builtin (if mx then "max" else "min")) (fun vs H Q => ∃ (a : Addr) (ns : List Int), vs = [V.ref a] ∧ SqT X.K H a (ns.map V.int) ∧ ns ≠ [] ∧ ∀ m, m ∈ ns → (∀ y ∈ ns, if mx then y ≤ m else m ≤ y) → Q (.int m) H) := by
  intro pins s σ H vs us Q I r h
  obtain ⟨a, ns, rfl, hs, hne, q⟩ := h
  obtain ⟨its, rv, ⟨o, ho, hcl, n, hd⟩, _⟩ := I.tuple hs
  rw [Vals.ref1 r]
  have hT : s.heap.IsTuple a its.toArray := ⟨o, ho, hcl, n, hd⟩
  cases ns with
  | nil => exact absurd rfl hne
  | cons x xs =>
    have HA : PySem.W.HoldAll s.heap its.toArray.toList (x :: xs) := PySem.W.HoldAll.of_ints rv.ints
    have hu' : X.A.units + 1 + PySem.W.Datum.depth Int < cLine := by
      have h9 : PySem.W.Datum.depth Int = 0 := rfl
      rw [h9]; omega
    cases mx with
    | false =>
      obtain ⟨m1, m2⟩ := minOf_ok x xs
      refine PySem.W.min_tuple_datum (I.ok.hd hc) hT HA hu' fun i v h' tk hi hv hk => ?_
      obtain ⟨as, hv⟩ := hv
      have : ∃ t, v = .int (PySem.W.minOf x xs) t := by
        generalize PySem.W.minOf x xs = k at hv
        cases hv with | int _ t => exact ⟨t, rfl⟩
      obtain ⟨t, rfl⟩ := this
      exact ⟨.int _, H, I.kept hk, ⟨_, rfl⟩, q _ m1 (by simpa using m2)⟩
    | true =>
      obtain ⟨m1, m2⟩ := maxOf_ok x xs
      refine PySem.W.max_tuple_datum (I.ok.hd hc) hT HA hu' fun i v h' tk hi hv hk => ?_
      obtain ⟨as, hv⟩ := hv
      have : ∃ t, v = .int (PySem.W.maxOf x xs) t := by
        generalize PySem.W.maxOf x xs = k at hv
        cases hv with | int _ t => exact ⟨t, rfl⟩
      obtain ⟨t, rfl⟩ := this
      exact ⟨.int _, H, I.kept hk, ⟨_, rfl⟩, q _ m1 (by simpa using m2)⟩
theorem cb_max (hc : X.calm = true) (hu : X.A.units + 100 < cLine) : CallR X (.builtin "max") (rBi (opBi .max) cell X.K G nm) := by
  intro pins s σ H xs us Q I r ⟨Z, μ, ds, hs, rd, h⟩
  match ds, rd, h with
  | [.int i, .int j], rd, h =>
    obtain ⟨v, w, rfl, rv, rw'⟩ := pair2 rd
    cases rv.int; cases rw'.int
    exact call_max2 hc pins s σ H _ us Q I r ⟨i, j, rfl, h.sc hs (.int _)⟩
  | [.lst xs], rd, ⟨ns, e, ne, h⟩ =>
    obtain ⟨v, rfl, rv⟩ := pair1 rd
    obtain ⟨a, vs, rfl, l, rr⟩ := rv.list hs.z
    exact cr_max hc pins s σ H _ us Q I r ⟨a, ns, rfl, by rw [← reps_ints rr e]; exact l.sq, List.length_pos_iff.mpr ne, fun m h1 h2 => (h m h1 h2).sc hs (.int _)⟩
  | [.tup xs], rd, ⟨ns, e, ne, h⟩ =>
    obtain ⟨v, rfl, rv⟩ := pair1 rd
    obtain ⟨a, vs, rfl, l, rr⟩ := rv.tuple hs.z
    exact cr_mmT hc hu true pins s σ H _ us Q I r ⟨a, ns, rfl, by rw [← reps_ints rr e]; exact l, ne, fun m h1 h2 => (h m h1 (by simpa using h2)).sc hs (.int _)⟩
theorem cb_min (hc : X.calm = true) (hu : X.A.units + 100 < cLine) : CallR X (.builtin "min") (rBi (opBi .min) cell X.K G nm) := by
  intro pins s σ H xs us Q I r ⟨Z, μ, ds, hs, rd, h⟩
  match ds, rd, h with
  | [.int i, .int j], rd, h =>
    obtain ⟨v, w, rfl, rv, rw'⟩ := pair2 rd
    cases rv.int; cases rw'.int
    exact call_min2 hc pins s σ H _ us Q I r ⟨i, j, rfl, h.sc hs (.int _)⟩
  | [.lst xs], rd, ⟨ns, e, ne, h⟩ =>
    obtain ⟨v, rfl, rv⟩ := pair1 rd
    obtain ⟨a, vs, rfl, l, rr⟩ := rv.list hs.z
    exact cr_min hc pins s σ H _ us Q I r ⟨a, ns, rfl, by rw [← reps_ints rr e]; exact l.sq, List.length_pos_iff.mpr ne, fun m h1 h2 => (h m h1 h2).sc hs (.int _)⟩
  | [.tup xs], rd, ⟨ns, e, ne, h⟩ =>
    obtain ⟨v, rfl, rv⟩ := pair1 rd
    obtain ⟨a, vs, rfl, l, rr⟩ := rv.tuple hs.z
    exact cr_mmT hc hu false pins s σ H _ us Q I r ⟨a, ns, rfl, by rw [← reps_ints rr e]; exact l, ne, fun m h1 h2 => (h m h1 (by simpa using h2)).sc hs (.int _)⟩
theorem pairsI_eq : ∀ {xs : List D} {ps : List (Int × Int)}, pairsI xs = some ps → xs = ps.map fun p => .tup [.int p.1, .int p.2]
  | [], ps, h => by simp [pairsI] at h; subst h; rfl
  | x :: xs, ps, h => by
    unfold pairsI at h
    split at h
    · rename_i e; cases e
    · rename_i a b r e
      cases e
      cases q : pairsI xs with
      | none => rw [q] at h; cases h
      | some ps' =>
        rw [q] at h
        cases h
        rw [pairsI_eq q]
        rfl
    · cases h
theorem minP_ok (x : Int × Int) (xs : List (Int × Int)) : PySem.W.minOf x xs ∈ x :: xs ∧ ∀ y ∈ x :: xs, (PySem.W.minOf x xs).1 < y.1 ∨ ((PySem.W.minOf x xs).1 = y.1 ∧ (PySem.W.minOf x xs).2 ≤ y.2) := by
  unfold PySem.W.minOf
  induction xs generalizing x with
  | nil => simp
  | cons y ys ih =>
    rw [List.foldl_cons]
    have hlt : (PySem.W.DatumOrd.lt y x = true) ↔ (y.1 < x.1 ∨ (y.1 = x.1 ∧ y.2 < x.2)) := by
      show (if y.1 = x.1 then decide (y.2 < x.2) else decide (y.1 < x.1)) = true ↔ _
      split <;> simp <;> omega
    obtain ⟨h1, h2⟩ := ih (if PySem.W.DatumOrd.lt y x = true then y else x)
    generalize List.foldl (fun a y => if PySem.W.DatumOrd.lt y a = true then y else a) (if PySem.W.DatumOrd.lt y x = true then y else x) ys = m at *
    have h3 := h2 _ List.mem_cons_self
    refine ⟨?_, fun z hz => ?_⟩
    · rcases List.mem_cons.mp h1 with e | e
      · rw [e]; split <;> simp
      · simp [e]
    · rcases List.mem_cons.mp hz with e | e
      · subst e
        split at h3
        · rename_i q; rw [hlt] at q; omega
        · exact h3
      · rcases List.mem_cons.mp e with e | e
        · subst e
          split at h3
          · exact h3
          · rename_i q; rw [hlt] at q; omega
        · exact h2 z (List.mem_cons_of_mem _ e)
theorem hold_pairs {pins : List (Addr × Obj)} {σ : L2.St} {s : Shared} (I : Inv X pins σ H s) (z : Same Z H) : ∀ {ps : List (Int × Int)} {vs : List V} {us : List Value}, Reps X.K G nm Z vs (ps.map fun p => .tup [.int p.1, .int p.2]) → Vals vs us → PySem.W.HoldAll s.heap us ps
  | [], _, _, .nil, .nil => .nil
  | p :: ps, _, _, .cons r t, .cons rv tv => by
    refine PySem.W.HoldAll.cons ?_ (hold_pairs I z t tv)
    cases r with
    | @tup a vs _ q rr =>
      cases rr with
      | cons r1 rr =>
        cases rr with
        | cons r2 rr =>
          cases rr
          cases r1; cases r2
          obtain ⟨its, rv2, hT, _⟩ := I.tuple (SqT.same z q)
          cases rv
          cases rv2 with
          | cons e1 rv2 =>
            cases rv2 with
            | cons e2 rv2 =>
              cases rv2
              obtain ⟨t1, rfl⟩ := e1
              obtain ⟨t2, rfl⟩ := e2
              exact PySem.W.holds_pair hT (PySem.W.holds_int _ t1) (PySem.W.holds_int _ t2)
theorem cb_minP (hc : X.calm = true) (hu : X.A.units + 100 < cLine) : CallR X (.builtin "min") (rBi (opBi .minP) cell X.K G nm) := by
  intro pins s σ H xs us Q I r ⟨Z, μ, ds, hs, rd, h⟩
  match ds, rd, h with
  | [.lst ys], rd, ⟨ps, e, ne, h⟩ =>
    obtain ⟨v, rfl, rv⟩ := pair1 rd
    obtain ⟨a, vs, rfl, l, rr⟩ := rv.list hs.z
    have ey := pairsI_eq e
    subst ey
    obtain ⟨its, rvv, pl, _⟩ := I.list l.sq
    rw [Vals.ref1 r]
    have HA := hold_pairs I hs.z rr rvv
    cases ps with
    | nil => exact absurd rfl ne
    | cons x xs =>
      have hu' : X.A.units + 1 + PySem.W.Datum.depth (Int × Int) < cLine := by
        have h9 : PySem.W.Datum.depth (Int × Int) ≤ 5 := by decide
        omega
      obtain ⟨m1, m2⟩ := minP_ok x xs
      have HA' : PySem.W.HoldAll s.heap its.toArray.toList (x :: xs) := HA
      refine PySem.W.min_list_datum (I.ok.hd hc) pl.isList HA' hu' fun i u h' tk hi hv hk => ?_
      have hi' : its[i]? = some u := by simpa using hi
      obtain ⟨y, hy, H1⟩ := HA.at hi'
      have ey : y = PySem.W.minOf x xs := by
        obtain ⟨as, q1⟩ := H1.keeps hk
        obtain ⟨bs, q2⟩ := hv
        have q3 := (Reads.unique q1 _ _ q2).1
        have q4 : PySem.W.Datum.toD y = PySem.W.Datum.toD (PySem.W.minOf x xs) := q3
        obtain ⟨y1, y2⟩ := y
        generalize PySem.W.minOf x xs = mm at q4
        obtain ⟨z1, z2⟩ := mm
        have q5 : PyData.tuple [.int y1, .int y2] = PyData.tuple [.int z1, .int z2] := q4
        injection q5 with q5
        simp at q5
        rw [q5.1, q5.2]
      have hd : ((x :: xs).map fun p : Int × Int => D.tup [.int p.1, .int p.2])[i]? = some (.tup [.int y.1, .int y.2]) := by rw [List.getElem?_map, hy]; rfl
      obtain ⟨w, hw, rw'⟩ := rr.get hd
      obtain ⟨u', hu2, ru'⟩ := rvv.get hw
      rw [hi'] at hu2
      cases hu2
      have fx := h y (by rw [ey]; exact m1) (by rw [ey]; exact m2)
      exact ⟨w, H, I.kept hk, ru', fx.sc hs rw'⟩
end
end Cr


/-! CrShow: repr of data: its length, its signs. -/
namespace Cr
open PySem PySem.Spec PyProof.Rows L2
mutual
theorem show_ok : ∀ (k : Nat) (x : D), flatD k x = true → szD x ≤ line → (toPy x).showable = true ∧ (toPy x).hasDict = false
  | _, .non, _, _ => by simp [toPy, PyData.showable, PyData.hasDict]
  | _, .bl _, _, _ => by simp [toPy, PyData.showable, PyData.hasDict]
  | _, .str _, _, _ => by simp [toPy, PyData.showable, PyData.hasDict]
  | _, .int i, _, h => by
    simp only [szD] at h
    by_cases q : i.natAbs.log2 < 1920
    · simp [toPy, PyData.showable, PyData.hasDict, q]
    · rw [if_neg q] at h; exact absurd h (by decide)
  | 0, .tup _, h, _ => by simp [flatD] at h
  | k + 1, .tup xs, h, z => by
    simp only [toPy, PyData.showable, PyData.hasDict]
    exact shows_ok k xs (by simpa [flatD] using h) (by simp only [szD] at z; omega)
  | 0, .lst _, h, _ => by simp [flatD] at h
  | k + 1, .lst xs, h, z => by
    simp only [toPy, PyData.showable, PyData.hasDict]
    exact shows_ok k xs (by simpa [flatD] using h) (by simp only [szD] at z; omega)
  | _, .dct _ _, h, _ => by simp [flatD] at h
  | _, .set _, h, _ => by simp [flatD] at h
  | _, .obj _ _, h, _ => by simp [flatD] at h
  | _, .exn _ _, h, _ => by simp [flatD] at h
theorem shows_ok : ∀ (k : Nat) (xs : List D), flatDs k xs = true → szDs xs ≤ line → PyData.showableAll (toPys xs) = true ∧ PyData.hasDictAll (toPys xs) = false
  | _, [], _, _ => by simp [toPys, PyData.showableAll, PyData.hasDictAll]
  | k, x :: xs, h, z => by
    simp only [flatDs, Bool.and_eq_true] at h
    simp only [szDs] at z
    obtain ⟨a, b⟩ := show_ok k x h.1 (by omega)
    obtain ⟨c, d⟩ := shows_ok k xs h.2 (by omega)
    simp [toPys, PyData.showableAll, PyData.hasDictAll, a, b, c, d]
end
/-! signs -/
def sOk (s : Str) : Prop := ∀ c ∈ s.cps.toList, c < 0x110000
theorem sOk_iff {s : Str} : strOk s = true ↔ sOk s := by
  unfold strOk PyData.strOk sOk
  rw [← Array.all_toList, List.all_eq_true]
  simp only [decide_eq_true_eq]
theorem sOk_app {a b : Str} (h : sOk a) (g : sOk b) : sOk (a ++ b) := by
  intro c hc
  have e : (a ++ b).cps.toList = a.cps.toList ++ b.cps.toList := by
    show (a.cps ++ b.cps).toList = _
    simp
  rw [e] at hc
  rcases List.mem_append.mp hc with q | q
  · exact h c q
  · exact g c q
theorem sOk_lit {s : Str} (h : strOk s = true) : sOk s := sOk_iff.mp h
theorem hexs_ok (c w : Nat) : ∀ d ∈ (let d := (Nat.toDigits 16 c).map Char.toNat; List.replicate (w - d.length) 48 ++ d), d < 0x110000 := by
  intro d hd
  rcases List.mem_append.mp hd with q | q
  · rw [List.eq_of_mem_replicate q]; decide
  · obtain ⟨e, _, rfl⟩ := List.mem_map.mp q
    have := e.valid
    show e.val.toNat < _
    rcases this with q | q
    · have : e.val.toNat < 0xd800 := q
      omega
    · have : e.val.toNat < 0x110000 := q.2
      omega
theorem reprChar_ok (q c : Nat) (hc : c < 0x110000) : ∀ d ∈ PySem.Builtin.Str.reprChar q c, d < 0x110000 := by
  intro d hd
  have h2 := hexs_ok c 2 d
  have h4 := hexs_ok c 4 d
  have h8 := hexs_ok c 8 d
  unfold PySem.Builtin.Str.reprChar at hd
  dsimp only at hd h2 h4 h8
  repeat' split at hd
  all_goals simp only [List.cons_append, List.nil_append, List.mem_cons, List.not_mem_nil, or_false] at hd
  all_goals first
    | omega
    | (rcases hd with h | h | h <;> first
      | omega
      | exact h2 h
      | exact h4 h
      | exact h8 h)
theorem fold_repr_ok (q : Nat) : ∀ (l : List Nat) (acc : Array Nat), (∀ c ∈ l, c < 0x110000) → (∀ c ∈ acc.toList, c < 0x110000) → ∀ c ∈ (l.foldl (fun out c => out ++ (PySem.Builtin.Str.reprChar q c).toArray) acc).toList, c < 0x110000
  | [], acc, _, h => h
  | c :: r, acc, hc, h => by
    refine fold_repr_ok q r _ (fun d hd => hc d (List.mem_cons_of_mem _ hd)) fun d hd => ?_
    have hd' : d ∈ acc.toList ++ PySem.Builtin.Str.reprChar q c := by simpa using hd
    rcases List.mem_append.mp hd' with z | z
    · exact h d z
    · exact reprChar_ok q c (hc c (by simp)) d z
theorem reprText_ok {x : Str} (h : sOk x) : sOk (reprText x) := by
  have hq : reprQuote x < 0x110000 := by unfold reprQuote; split <;> decide
  intro c hc
  unfold reprText at hc
  rw [← Array.foldl_toList] at hc
  have hc' : c ∈ (x.cps.toList.foldl (fun out c => out ++ (PySem.Builtin.Str.reprChar (reprQuote x) c).toArray) #[reprQuote x]).toList ++ [reprQuote x] := by simpa using hc
  rcases List.mem_append.mp hc' with z | z
  · exact fold_repr_ok _ _ _ h (by simpa using hq) c z
  · simp at z; rw [z]; exact hq
theorem textFrom_ok : ∀ (ts : List Str) (k : Nat) (acc : Str), sOk acc → (∀ t ∈ ts, sOk t) → sOk (textFrom k acc ts)
  | [], _, _, h, _ => h
  | t :: ts, k, acc, h, g => by
    refine textFrom_ok ts (k + 1) _ (sOk_app (sOk_app h ?_) (g t (by simp))) fun u hu => g u (List.mem_cons_of_mem _ hu)
    split
    · exact sOk_lit (by decide +kernel)
    · exact sOk_lit (by decide +kernel)
theorem join_ok : ∀ (ts : List Str), (∀ t ∈ ts, sOk t) → sOk (Str.join ", " ts)
  | [], _ => sOk_lit (by decide +kernel)
  | [x], g => g x (by simp)
  | x :: y :: r, g => by
    show sOk (x ++ ", " ++ Str.join ", " (y :: r))
    exact sOk_app (sOk_app (g x (by simp)) (sOk_lit (by decide +kernel))) (join_ok (y :: r) fun u hu => g u (List.mem_cons_of_mem _ hu))
theorem listText_ok {ts : List Str} (g : ∀ t ∈ ts, sOk t) : sOk (listText ts) := by
  unfold listText
  exact sOk_app (textFrom_ok ts 0 _ (sOk_lit (by decide +kernel)) g) (sOk_lit (by decide +kernel))
theorem tupleText_ok {ts : List Str} (g : ∀ t ∈ ts, sOk t) : sOk (tupleText ts) := by
  unfold tupleText
  refine sOk_app (sOk_app (sOk_lit (by decide +kernel)) (join_ok ts g)) ?_
  split
  · exact sOk_lit (by decide +kernel)
  · exact sOk_lit (by decide +kernel)
/-- the texts of data may all be laid -/
theorem toStr_ok (i : Int) : sOk (PySem.Str.ofString (toString i)) := by
  have e : PySem.Str.ofString (toString i) = ⟨(strI i).toArray⟩ := str_of_toList (by rw [strI_eq])
  rw [e]
  intro c hc
  exact strI_ok i c (by simpa using hc)
mutual
theorem shown_ok : ∀ (x : PyData), x.canLay0 = true → x.hasDict = false → sOk x.shown
  | .none, _, _ => by rw [PyData.shown]; exact sOk_lit (by decide +kernel)
  | .bool b, _, _ => by rw [PyData.shown]; cases b <;> exact sOk_lit (by decide +kernel)
  | .int i, _, _ => by rw [PyData.shown]; exact toStr_ok i
  | .str x, h, _ => by rw [PyData.shown]; exact reprText_ok (sOk_iff.mp (by simpa [PyData.canLay0] using h))
  | .list xs, h, g => by rw [PyData.shown]; exact listText_ok (showns_ok xs (by simpa [PyData.canLay0] using h) (by simpa [PyData.hasDict] using g))
  | .tuple xs, h, g => by rw [PyData.shown]; exact tupleText_ok (showns_ok xs (by simpa [PyData.canLay0] using h) (by simpa [PyData.hasDict] using g))
  | .dict _, _, g => by simp [PyData.hasDict] at g
theorem showns_ok : ∀ (xs : List PyData), PyData.canLayAll0 xs = true → PyData.hasDictAll xs = false → ∀ t ∈ PyData.shownAll xs, sOk t
  | [], _, _ => by simp [PyData.shownAll]
  | x :: xs, h, g => by
    simp only [PyData.canLayAll0, Bool.and_eq_true] at h
    simp only [PyData.hasDictAll, Bool.or_eq_false_iff] at g
    intro t ht
    simp only [PyData.shownAll, List.mem_cons] at ht
    rcases ht with rfl | ht
    · exact shown_ok x h.1 g.1
    · exact showns_ok xs h.2 g.2 t ht
end
/-! lengths -/
theorem sLen {s : Str} : s.cps.toList.length = s.length := by simp [Str.length]
theorem textFrom_sz : ∀ (ts : List Str) (k : Nat) (acc : Str), (textFrom k acc ts).length ≤ acc.length + piled ts
  | [], _, acc => by show acc.length ≤ acc.length + 0; omega
  | t :: ts, k, acc => by
    have ih := textFrom_sz ts (k + 1) (acc ++ (if k > 0 then ", " else "" : String) ++ t)
    show (textFrom (k + 1) _ ts).length ≤ _
    have e : (acc ++ (if k > 0 then ", " else "" : String) ++ t).length ≤ acc.length + 2 + t.length := by
      rw [strLen_append, strLen_append]
      split
      · have : ((", " : String) : Str).length = 2 := rfl
        omega
      · have : (("" : String) : Str).length = 0 := rfl
        omega
    rw [piled_cons]
    omega
theorem int_sz {i : Int} (h : i.natAbs.log2 < 1920) : (PySem.Str.ofString (toString i)).length ≤ 2000 := by
  have e := int_text_length_le (k := 1920) (by decide) h
  rw [PySem.ofString_length]; omega
mutual
theorem sh_len : ∀ (k : Nat) (x : D), flatD k x = true → szD x ≤ line → (toPy x).canLay0 = true → (toPy x).shown.length ≤ szD x
  | _, .non, _, _, _ => by simp only [toPy, PyData.shown, szD]; decide +kernel
  | _, .bl b, _, _, _ => by simp only [toPy, PyData.shown, szD]; cases b <;> decide +kernel
  | _, .str s, _, _, h => by
    simp only [toPy, PyData.shown, szD]
    have := StrLaws.reprText_len ⟨s.toArray⟩ fun c hc => by
      have : c < 0x110000 := sOk_iff.mp (show strOk ⟨s.toArray⟩ = true by simpa [toPy, PyData.canLay0] using h) c hc
      omega
    have e : (⟨s.toArray⟩ : Str).length = s.length := by simp [Str.length]
    rw [e] at this
    exact this
  | _, .int i, _, z, _ => by
    simp only [szD] at z ⊢
    by_cases q : i.natAbs.log2 < 1920
    · rw [if_pos q]
      simp only [toPy, PyData.shown]
      exact int_sz q
    · rw [if_neg q] at z; exact absurd z (by decide)
  | 0, .tup _, h, _, _ => by simp [flatD] at h
  | k + 1, .tup xs, h, z, l => by
    simp only [szD] at z ⊢
    have := shs_len k xs (by simpa [flatD] using h) (by omega) (by simpa [toPy, PyData.canLay0] using l)
    simp only [toPy, PyData.shown, tupleText]
    rw [strLen_append, strLen_append]
    have e1 : ((("(" : String) : Str)).length = 1 := rfl
    have e3 : (((if (PyData.shownAll (toPys xs)).length == 1 then ",)" else ")" : String) : Str)).length ≤ 2 := by split <;> decide
    by_cases q : PyData.shownAll (toPys xs) = []
    · rw [q] at e3 ⊢
      have e2 : (Str.join ", " []).length = 0 := rfl
      omega
    · have := join_length_add _ q
      omega
  | 0, .lst _, h, _, _ => by simp [flatD] at h
  | k + 1, .lst xs, h, z, l => by
    simp only [szD] at z ⊢
    have := shs_len k xs (by simpa [flatD] using h) (by omega) (by simpa [toPy, PyData.canLay0] using l)
    simp only [toPy, PyData.shown, listText]
    rw [strLen_append]
    have := textFrom_sz (PyData.shownAll (toPys xs)) 0 "["
    have e1 : ((("[" : String) : Str)).length = 1 := rfl
    have e2 : ((("]" : String) : Str)).length = 1 := rfl
    omega
  | _, .dct _ _, h, _, _ => by simp [flatD] at h
  | _, .set _, h, _, _ => by simp [flatD] at h
  | _, .obj _ _, h, _, _ => by simp [flatD] at h
  | _, .exn _ _, h, _, _ => by simp [flatD] at h
theorem shs_len : ∀ (k : Nat) (xs : List D), flatDs k xs = true → szDs xs ≤ line → PyData.canLayAll0 (toPys xs) = true → piled (PyData.shownAll (toPys xs)) ≤ szDs xs
  | _, [], _, _, _ => by simp [toPys, PyData.shownAll, piled]
  | k, x :: xs, h, z, l => by
    simp only [flatDs, Bool.and_eq_true] at h
    simp only [szDs] at z ⊢
    simp only [toPys, PyData.canLayAll0, Bool.and_eq_true] at l
    have a := sh_len k x h.1 (by omega) l.1
    have b := shs_len k xs h.2 (by omega) l.2
    simp only [toPys, PyData.shownAll, piled_cons]
    omega
end

/-! repr, called -/
section
variable {X : Cx} {G : Prog} {nm : Nm} {Z Z' H H' : Hp} {μ μ' : Store}
theorem opBi_reprI {ds : List D} {K : D → Prop} (h : opBi .repr ds K) : (ds = [.dct [] []] ∧ K (.str [123, 125])) ∨ ∃ x, ds = [x] ∧ szD x ≤ line ∧ flatD dep x = true ∧ K (.str (shD x)) := by
  match ds, h with
  | [], h => exact h.elim
  | x :: y :: r, h =>
    exfalso
    cases x with
    | dct ks vs => cases ks <;> cases vs <;> exact h
    | _ => exact h
  | [x], h =>
    cases x with
    | dct ks vs => cases ks <;> cases vs <;> first | exact .inl ⟨rfl, h⟩ | exact .inr ⟨_, rfl, h⟩
    | _ => exact .inr ⟨_, rfl, h⟩
theorem cb_repr0 (hg : X.A.guards = some []) (hu : X.A.units + 64 < cLine) {pins : List (Addr × Obj)} {σ : L2.St} {s : Shared} {Q : VK} {v : V} {u : Value} (hs : HSim X.K G nm Z μ H) (I : Inv X pins σ H s) (rv : RdR X.K G nm Z H v (.dct [] [])) (ru : RelV v u) (h : FinX X.K G nm cell Z μ Q (.str [123, 125])) :
    wpAny (model X.prog X.w) X.A (call (.builtin "repr") [u]) (EP X pins σ Q) X.xe s := by
  obtain ⟨a, kvs, rfl, rd, e1, e2, rr⟩ := rv.dict hs.z
  have e3 : kvs = [] := by simpa using e1.symm
  subst e3
  cases ru
  have ok : ObjOk X.prog X.w H s.heap a (.dK []) := by
    rcases rd with q | ⟨o, q⟩
    · exact I.hok a _ q
    · exact (I.hok a _ q).2
  obtain ⟨_, hsm, vs, kv, o, es, ep, g, ex, hd, ko, pr, nd⟩ := ok
  cases kv
  have he : es.toList = [] := by cases hq : es.toList with
    | nil => rfl
    | cons x y => rw [hq] at pr; cases pr
  have rr : Reads s.heap (.ref a) (.dict []) (a :: [] ++ []) := .dict g ex.1 hd (by rw [he]; exact .nil) (by rw [he]; exact .nil)
  have q : Q (.str (PyData.shown (.dict []))) H := by
    refine h.sc hs ?_
    have e0 : (PyData.shown (.dict [])).cps.toList = [123, 125] := by decide +kernel
    have := Rep.str (K := X.K) (G := G) (nm := nm) (Z := Z) (PyData.shown (.dict [])) (by decide +kernel)
    rw [e0] at this
    exact this
  exact repr_of_reads' rr (by decide +kernel) (fun _ z => by
    have : sysModules = a := by simpa using z
    rw [this] at hsm
    simp at hsm) hg (by have : PyData.depth (.dict []) ≤ 1 := by decide +kernel
                        omega) (fun _ _ z => z) (fun h' w tk k => ⟨.str _, H, I.kept k, ⟨w, rfl⟩, q⟩) (by decide +kernel)
theorem cb_repr (hg : X.A.guards = some []) (hu : X.A.units + 64 < cLine) : CallR X (.builtin "repr") (rBi (opBi .repr) cell X.K G nm) := by
  intro pins s σ H xs us Q I r ⟨Z, μ, ds, hs, rd, h⟩
  by_cases hemp : ds = [.dct [] []]
  · subst hemp
    have h : FinX X.K G nm cell Z μ Q (.str [123, 125]) := h
    obtain ⟨v, rfl, rv⟩ := pair1 rd
    cases r with
    | cons ru t =>
      rename_i u us'
      cases t
      exact cb_repr0 hg hu hs I rv ru h
  have h : ∃ x, ds = [x] ∧ szD x ≤ line ∧ flatD dep x = true ∧ FinX X.K G nm cell Z μ Q (.str (shD x)) := by
    rcases opBi_reprI h with ⟨e, _⟩ | q
    · exact absurd e hemp
    · exact q
  obtain ⟨x, rfl, hz, hf, h⟩ := h
  obtain ⟨v, rfl, rv⟩ := pair1 rd
  cases r with
  | cons ru t =>
    rename_i u us'
    cases t
    obtain ⟨hsh, hnd⟩ := show_ok dep x hf hz
    obtain ⟨hdp, hshape⟩ := dp_rd hs.z hf rv
    have hlay := SeqAt.canLay_of_shaped hshape
    have hlen := sh_len dep x hf hz hlay
    have hok := shown_ok (toPy x) hlay hnd
    have hdep := flat_depth dep x hf
    have hl : (toPy x).shown.length ≤ sizeLine := by rw [sizeLine_eq]; simp only [line] at hz; omega
    have q : Q (.str (toPy x).shown) H := by
      refine h.sc hs ?_
      have := Rep.str (K := X.K) (G := G) (nm := nm) (Z := Z) (toPy x).shown (sOk_iff.mpr hok)
      exact this
    obtain ⟨as, rr⟩ := Dp.reads I (toPy x) v u hdp ru
    have fin : ∀ h' w tk, (∀ b o, s.heap.get? b = some o → h'.get? b = some o) → EP X pins σ Q (.str (toPy x).shown w) { s with heap := h', toks := tk } := fun h' w tk k =>
      ⟨.str (toPy x).shown, H, I.kept k, ⟨w, rfl⟩, q⟩
    have go : ∀ {d : PyData} {as : List Addr}, d = toPy x → Reads s.heap u d as → wpAny (model X.prog X.w) X.A (call (.builtin "repr") [u]) (EP X pins σ Q) X.xe s := by
      intro d as e rr
      cases rr with
      | none => exact P.repr_of_none (by rw [← e] at fin; exact fin s.heap _ _ fun _ _ z => z)
      | bool b => exact P.repr_of_bool (by rw [← e] at fin; exact fin s.heap _ _ fun _ _ z => z)
      | int i t => exact P.repr_of_int (by rw [← e] at hsh; simpa [PyData.showable] using hsh) (by rw [← e] at fin; simp only [PyData.shown] at fin; exact fin s.heap _ _ fun _ _ z => z)
      | str y t => exact P.repr_of_str (by rw [← e] at fin; simp only [PyData.shown] at fin; exact fin s.heap _ _ fun _ _ z => z) (by rw [← e] at hl; simpa [PyData.shown] using hl)
      | list h1 h2 h3 h4 =>
        rw [← e] at hsh hnd hl hdep fin
        exact repr_of_reads' (.list h1 h2 h3 h4) hsh (fun z => by rw [hnd] at z; cases z) hg (by simp only [dep] at hdep; omega) (fun _ _ z => z) (fun h' w tk k => fin h' w tk k) hl
      | tuple h1 h2 h3 h4 =>
        rw [← e] at hsh hnd hl hdep fin
        exact repr_of_reads' (.tuple h1 h2 h3 h4) hsh (fun z => by rw [hnd] at z; cases z) hg (by simp only [dep] at hdep; omega) (fun _ _ z => z) (fun h' w tk k => fin h' w tk k) hl
      | dict h1 h2 h3 h4 h5 =>
        rw [← e] at hnd
        simp [PyData.hasDict] at hnd
    exact go rfl rr
end
end Cr


/-! CrSort: sorted. -/
namespace Cr
open PySem PySem.Spec PyProof.Rows L2

theorem ints_map : ∀ {xs : List D} {ns : List Int}, intsOf xs = some ns → xs = ns.map D.int
  | [], ns, h => by simp [intsOf] at h; subst h; rfl
  | x :: xs, ns, h => by
    cases x <;> simp [intsOf] at h
    obtain ⟨r, h1, rfl⟩ := h
    rw [ints_map h1]; rfl
theorem ints_lt (i j : Int) : ltC (.int i) (.int j) = decide (i < j) := ltD_code (by simp [ltD])
theorem ints_uniq : ∀ {xs ys : List Int}, xs.Perm ys → xs.Pairwise (· ≤ ·) → ys.Pairwise (· ≤ ·) → xs = ys := by
  intro xs ys p h1 h2
  exact p.eq_of_pairwise (fun a b _ _ h h' => Int.le_antisymm h h') h1 h2
theorem sort_ints {ns ms : List Int} (p : ms.Perm ns) (h : ms.Pairwise (· ≤ ·)) : sortD (ns.map D.int) = ms.map D.int := by
  have sp := sortD_perm (ns.map D.int)
  have so := sortD_sorted (ns.map D.int)
  obtain ⟨ks, e⟩ : ∃ ks : List Int, sortD (ns.map D.int) = ks.map D.int := by
    have : ∀ l : List D, (∀ x ∈ l, ∃ i, x = D.int i) → ∃ ks : List Int, l = ks.map D.int := by
      intro l
      induction l with
      | nil => intro _; exact ⟨[], rfl⟩
      | cons x l ih =>
        intro h
        obtain ⟨i, rfl⟩ := h x (by simp)
        obtain ⟨ks, rfl⟩ := ih fun y hy => h y (by simp [hy])
        exact ⟨i :: ks, rfl⟩
    refine this _ fun x hx => ?_
    obtain ⟨i, _, rfl⟩ := List.mem_map.mp (sp.mem_iff.mp hx)
    exact ⟨i, rfl⟩
  rw [e] at sp so ⊢
  have q : ks.Perm ns := by
    have := sp.map (fun x : D => match x with | .int i => i | _ => 0)
    simpa [List.map_map, Function.comp_def] using this
  have r : ks.Pairwise (· ≤ ·) := (List.pairwise_map.mp so).imp fun {a b} z => by
    rw [ints_lt] at z
    exact Int.not_lt.mp (of_decide_eq_false z)
  rw [ints_uniq (q.trans p.symm) r h]
section
variable {X : Cx} {G : Prog} {nm : Nm} {Z Z' H H' : Hp} {μ μ' : Store} {cell : Bool}
theorem reps_intL : ∀ (ns : List Int), Reps X.K G nm Z (ns.map V.int) (ns.map D.int)
  | [] => .nil
  | n :: ns => .cons (.int n) (reps_intL ns)
theorem sorted_dictI (hcalm : X.calm = true) : CallR X (.builtin "sorted") (fun xs H Q => ∃ (a : Addr) (kvs : List (Key × V)) (ks : List Int), xs = [.ref a] ∧ Rd H a (.dK kvs) ∧ kvs.map (·.1) = ks.map Sum.inl ∧ ks.length ≤ sizeLine ∧
    ∀ (ys : List Int) (p : Addr), ys.Perm ks → ys.Pairwise (· ≤ ·) → H p = none → Q (.ref p) (upd H p (.lst (ys.map V.int)))) := by
  intro pins s σ H xs us Q I r ⟨a, kvs, ks, ex, hd, hks, hz0, q⟩
  subst ex
  obtain ⟨u, eu, rx⟩ := vals1 r
  subst eu
  cases rx
  obtain ⟨z, lo, vs, rel, dd⟩ := dk_rd I.hok hd
  obtain ⟨ep, hat⟩ := dd.dictAt
  have hkeys : vs.map (·.1) = ks.map Sum.inl := rel.keys.symm.trans hks
  have hl : vs.length = ks.length := by simpa using congrArg List.length hkeys
  refine Calls.call_function_entry PyProof.Rows.kind_sorted PyProof.Rows.plain_sorted PyProof.Rows.entry_sorted (PyProof.Rows.args_sorted1 _) ?_
  unfold Builtin.«sorted»
  refine wpAny_bind (m := checkCount "sorted" 1 1 _) (wpAny_pure ?_)
  refine wpAny_bind (PySem.W.kdu_collect (A := X.A.in1) (PySem.W.kdl_dict (knd := mixKind X.prog X.w) (kvs := vs) (ep := ep) lo) (I.ok.hd hcalm) hat (by omega) fun h' tk acc hk hacc => ?_)
  have hal : acc.toList.length = ks.length := by rw [Array.length_toList, hacc.1, hl]
  have hS : IntsAre acc.toList ks := ints_each hal fun j v e => by
    obtain ⟨k, x, e1, e2⟩ := hacc.2 j v (by rw [← Array.getElem?_toList]; exact e)
    have e3 : (vs.map (·.1))[j]? = some k := by rw [List.getElem?_map, e1]; rfl
    rw [hkeys, List.getElem?_map] at e3
    cases e4 : ks[j]? with
    | none => rw [e4] at e3; cases e3
    | some y =>
      rw [e4] at e3
      have e5 : Sum.inl y = k := Option.some.inj e3
      subst e5
      rcases keyIs_shape (show keyIs (Sum.inl y) v = true from e2) with ⟨i, t, ek, ev⟩ | ⟨z, t, ek, ev⟩
      · cases ek; exact ⟨y, t, rfl, ev⟩
      · cases ek
  have I1 : Inv X pins σ H { s with heap := h', toks := tk } := I.kept hk
  refine wpAny_bind (wpAny_newList ?_ (by rw [hal]; exact hz0))
  have hoL : (h'.push (seqObj "list" acc.toList.toArray 0)).get? h'.objs.size = some (seqObj "list" acc.toList.toArray 0) := Heap.get?_push_size _ rfl
  show wpAny _ _ _ _ _ { s with heap := h'.push (seqObj "list" acc.toList.toArray 0), toks := tk }
  refine wpAny_bind (wpAny_holding (wpAny_call_entry PyProof.Rows.slot_list_sort ⟨_, hoL, rfl⟩ PyProof.Rows.entry_list_sort (SrtO.list_sort_ord SrtO.swo_int hoL (by rw [hal]; exact hz0) (fun h2 => SrtO.ints_sortable hS h2) fun out h1 h2 => ⟨.none, rfl, ?_⟩) (PyProof.Rows.args_list_sort _)))
  obtain ⟨k1, k2, k3⟩ := SrtO.ints_out hS h1 h2
  obtain ⟨e', he'⟩ := PyProof.Rows.sortedHeap_at (vs := acc.toList) (out := out.toArray) hoL
  have hlen : ((out.map SrtO.iv).map V.int).length ≤ sizeLine := by rw [List.length_map, k2.length_eq]; exact hz0
  refine wpAny_pure ⟨_, rfl, .ref h'.objs.size, upd H h'.objs.size (.lst ((out.map SrtO.iv).map V.int)), I1.laid (t' := tk) (fun b u e => ?_) (Nat.le_refl _) (show ObjOk X.prog X.w _ _ _ (.lst ((out.map SrtO.iv).map V.int)) from ⟨hlen, out, e', vals_of_ints k1, he'⟩), rfl, q _ _ k2 k3 (I1.hok.fresh (Nat.le_refl _))⟩
  have hb : b < h'.objs.size := Heap.lt_size e
  rw [PyProof.Rows.sortedHeap_old (Nat.ne_of_lt hb) (by rw [size_push']; exact Nat.lt_succ_of_lt hb)]
  exact Heap.get?_push_of_some _ e
theorem keys_ints : ∀ {kvs : List (Key × V)} {ns : List Int}, intsOf (kvs.map fun p => keyD p.1) = some ns → kvs.map (·.1) = ns.map Sum.inl
  | [], ns, h => by simp [intsOf] at h; subst h; rfl
  | (k, v) :: kvs, ns, h => by
    cases k with
    | inr z => simp [keyD, intsOf] at h
    | inl i =>
      rw [List.map_cons] at h
      simp only [keyD, intsOf, Option.map_eq_some_iff] at h
      obtain ⟨r, h1, rfl⟩ := h
      have := keys_ints (kvs := kvs) (ns := r) h1
      simp [this]
/-- sorted(a tuple of whole numbers) -/
theorem sorted_tupI : CallR X (.builtin "sorted") (fun xs H Q => ∃ (a : Addr) (ks : List Int), xs = [.ref a] ∧ SqT X.K H a (ks.map V.int) ∧ ks.length ≤ sizeLine ∧
    ∀ (ys : List Int) (p : Addr), ys.Perm ks → ys.Pairwise (· ≤ ·) → H p = none → Q (.ref p) (upd H p (.lst (ys.map V.int)))) := by
  intro pins s σ H xs us Q I r ⟨a, ks, ex, hq, hz0, q⟩
  subst ex
  obtain ⟨u, eu, rx⟩ := vals1 r
  subst eu
  cases rx
  obtain ⟨its, rv, pt, hz⟩ := I.tuple hq
  obtain ⟨o, ho, hcl, n, hdt⟩ := id pt
  have hS := rv.ints
  have hal : its.length = ks.length := IntsAre.length hS
  refine Calls.call_function_entry PyProof.Rows.kind_sorted PyProof.Rows.plain_sorted PyProof.Rows.entry_sorted (PyProof.Rows.args_sorted1 _) ?_
  unfold Builtin.«sorted»
  refine wpAny_bind (m := checkCount "sorted" 1 1 _) (wpAny_pure ?_)
  refine wpAny_bind (wpAny_collect_seq a (.inr rfl) ho hcl hdt (fun h' hk => ?_) (by rw [List.size_toArray, hal]; exact hz0))
  have I1 : Inv X pins σ H { s with heap := h' } := I.kept (t' := s.toks) hk
  rw [List.toList_toArray]
  refine wpAny_bind (wpAny_newList ?_ (by rw [hal]; exact hz0))
  have hoL : (h'.push (seqObj "list" its.toArray 0)).get? h'.objs.size = some (seqObj "list" its.toArray 0) := Heap.get?_push_size _ rfl
  show wpAny _ _ _ _ _ { s with heap := h'.push (seqObj "list" its.toArray 0) }
  refine wpAny_bind (wpAny_holding (wpAny_call_entry PyProof.Rows.slot_list_sort ⟨_, hoL, rfl⟩ PyProof.Rows.entry_list_sort (SrtO.list_sort_ord SrtO.swo_int hoL (by rw [hal]; exact hz0) (fun h2 => SrtO.ints_sortable hS h2) fun out h1 h2 => ⟨.none, rfl, ?_⟩) (PyProof.Rows.args_list_sort _)))
  obtain ⟨k1, k2, k3⟩ := SrtO.ints_out hS h1 h2
  obtain ⟨e', he'⟩ := PyProof.Rows.sortedHeap_at (vs := its) (out := out.toArray) hoL
  have hlen : ((out.map SrtO.iv).map V.int).length ≤ sizeLine := by rw [List.length_map, k2.length_eq]; exact hz0
  refine wpAny_pure ⟨_, rfl, .ref h'.objs.size, upd H h'.objs.size (.lst ((out.map SrtO.iv).map V.int)), I1.laid (t' := s.toks) (fun b u e => ?_) (Nat.le_refl _) (show ObjOk X.prog X.w _ _ _ (.lst ((out.map SrtO.iv).map V.int)) from ⟨hlen, out, e', vals_of_ints k1, he'⟩), rfl, q _ _ k2 k3 (I1.hok.fresh (Nat.le_refl _))⟩
  have hb : b < h'.objs.size := Heap.lt_size e
  rw [PyProof.Rows.sortedHeap_old (Nat.ne_of_lt hb) (by rw [size_push']; exact Nat.lt_succ_of_lt hb)]
  exact Heap.get?_push_of_some _ e
theorem cb_sorted (hc : X.calm = true) : CallR X (.builtin "sorted") (rBi (opBi .sorted) cell X.K G nm) := by
  intro pins s σ H xs us Q I r ⟨Z, μ, ds, hs, rd, h⟩
  match ds, rd, h with
  | [.lst xs], rd, ⟨h1, h2, h⟩ =>
    obtain ⟨v, rfl, rv⟩ := pair1 rd
    obtain ⟨a, vs, rfl, l, rr⟩ := rv.list hs.z
    obtain ⟨ns, e⟩ := Option.isSome_iff_exists.mp h1
    refine cr_sortedI pins s σ H _ us Q I r ⟨a, ns, rfl, by rw [← reps_ints rr e]; exact l.sq, fun ms p p1 p2 hp => ?_⟩
    have q := ints_map e
    rw [q, sort_ints p1 p2] at h
    exact h.list hs (reps_intL ms) hp
  | [.tup xs], rd, ⟨h1, h2, h⟩ =>
    obtain ⟨v, rfl, rv⟩ := pair1 rd
    obtain ⟨a, vs, rfl, l, rr⟩ := rv.tuple hs.z
    obtain ⟨ns, e⟩ := Option.isSome_iff_exists.mp h1
    have q := ints_map e
    have hl : ns.length ≤ sizeLine := by
      have := congrArg List.length q
      simp only [List.length_map] at this h2
      rw [← line_eq]; omega
    refine sorted_tupI pins s σ H _ us Q I r ⟨a, ns, rfl, by rw [← reps_ints rr e]; exact l, hl, fun ms p p1 p2 hp => ?_⟩
    rw [q, sort_ints p1 p2] at h
    exact h.list hs (reps_intL ms) hp
  | [.dct ks ws], rd, ⟨h1, h2, h⟩ =>
    obtain ⟨v, rfl, rv⟩ := pair1 rd
    obtain ⟨a, kvs, rfl, r1, rfl, nd, r2⟩ := rv.dict hs.z
    obtain ⟨ns, e⟩ := Option.isSome_iff_exists.mp h1
    have q := ints_map e
    have hl : ns.length ≤ sizeLine := by
      have := congrArg List.length q
      simp only [List.length_map] at this h2
      rw [← line_eq]; omega
    refine sorted_dictI hc pins s σ H _ us Q I r ⟨a, kvs, ns, rfl, r1, keys_ints e, hl, fun ms p p1 p2 hp => ?_⟩
    rw [q, sort_ints p1 p2] at h
    exact h.list hs (reps_intL ms) hp
end
end Cr


/-! CrSetA: set(v) of what can be walked over, whole numbers coming out of it. -/
namespace Cr
open PySem PySem.Spec PyProof.Rows L2
section
variable {P : Program} {w : World} {A : Around} {E : Value → Shared → Prop} {s : Shared}
/-- an empty set -/
abbrev emptySet (w : World) : Obj := { cls := .type "set", dict := none, data := .set #[] 0 (.fresh 0 0 (!w.params.followText "set-order")) }
/-- set(v), for what can be walked over and is no set, no dict itself; whole numbers come out -/
theorem set_walked {T : String} {l : Addr} {ol ot : Obj} {Hs : Heap → Prop} {fp wr : List Addr} {G : Array GenState → Array GenState → Prop} {n : Nat} {Pv : Nat → Value → Prop} {St : Nat → Shared → Prop} (ns : List Int) {Q : Value → Shared → Prop}
    (ho : s.heap.get? l = some ol) (hT : ol.cls = .type T) (notSet : isSubtype (.type T) (.type "set") = pure false) (notFrozen : isSubtype (.type T) (.type "frozenset") = pure false) (notDict : (Value.type T == Value.type "dict") = false)
    (B : Begins (.ref l) ot Hs) (hs : Hs s.heap) (hn : n = ns.length) (hb : ns.length + 1 < scanBound) (hval : ∀ i v, Pv i v → ∃ k t, ns[i]? = some k ∧ v = .int k t)
    (W : WalksS P w A.in1.in1.in1 (s.heap.push (emptySet w)).objs.size fp wr G n Pv St) (hS0 : s.heap.objs.size ∉ fp)
    (st : ∀ tk, St 0 { s with heap := (s.heap.push (emptySet w)).push ot, toks := tk })
    (h : ∀ s' c, Moved (s.heap.objs.size :: wr) G { s with heap := (s.heap.push (emptySet w)).push ot } s' → SetR w s'.heap s.heap.objs.size (fun j => decide (j ∈ ns)) c → c ≤ ns.length → Q (.ref s.heap.objs.size) s') :
    wpAny (model P w) A (call (.type "set") [.ref l]) Q E s := by
  obtain ⟨c, tl, hmro⟩ := F.called_set.mro
  have hmade := F.called_set.made
  have hsub := F.called_set.sub
  refine wpAny_call (codeAny_of_tree ?_)
  show wpAny _ _ (callAny (.type "set") _) _ _ _
  refine wpAny_pure ⟨Code.quiet_builtin _ (by decide +kernel), codeAny_builtin F.entry_type_call ?_⟩
  rw [Around.under_plain (weight_type_call_type "set" [.ref l] []) rfl]
  have c1 := F.called_set.notType
  have c2 := F.called_set.canCreate
  have c3 := F.typeCall_set_1 (.ref l)
  repeat (any_goals (first | assumption | wp_step))
  refine codeAny_mono (code_set_led1 (.ref l) (E := E) (Q₁ := fun obj s₁ => obj = .ref s.heap.objs.size ∧ s₁ = { s with heap := s.heap.push (emptySet w) }) ⟨rfl, rfl⟩) fun r s₁ hr => ?_
  obtain e | (obj | _ | _ | _) := r <;> first | exact hr | exact hr.elim | skip
  obtain ⟨rfl, rfl⟩ := hr
  have atS : (s.heap.push (emptySet w)).get? s.heap.objs.size = some (emptySet w) := Heap.get?_push_size _ rfl
  have c4 := F.called_set.init.lookup
  have c5 := F.called_set.init.bind (.ref s.heap.objs.size)
  repeat (any_goals (first | assumption | wp_step))
  refine codeAny_mono (codeAny_call_builtin (R := wants (fun r s₂ => r = .none ∧ ∃ c, Moved (s.heap.objs.size :: wr) G { s with heap := (s.heap.push (emptySet w)).push ot } s₂ ∧ SetR w s₂.heap s.heap.objs.size (fun j => decide (j ∈ ns)) c ∧ c ≤ ns.length) E)
    F.called_set.init.plain F.entry_set_init (check_set_init_1 ⟨_, atS, rfl⟩ ?_)) fun r₂ s₂ hr₂ => ?_
  · obtain ⟨ocls, odict, odata, oslots⟩ := ol
    simp only at hT
    subst hT
    have at_l : (s.heap.push (emptySet w)).get? l = some { cls := .type T, dict := odict, data := odata, slots := oslots } := Heap.get?_push_of_some _ ho
    unfold Builtin.«set.__init__» noKeywords Builtin.Frozenset.updateFrom
    generalize hPI : pyIter = PI
    wp_walk
    subst hPI
    refine B.iter P w _ _ _ _ (B.keeps _ _ hs fun b o e => Heap.get?_push_of_some _ e) ?_
    refine wpAny_bind (wpAny_runValue ?_)
    refine set_update_ints W s.heap.objs.size hS0 ns hn hb hval (n - 0) 0 _ (by omega) (Nat.zero_le _) (st _) ⟨0, Nat.le_refl 0, setR_new_at (Heap.get?_push_of_some _ atS)⟩ fun s' c' m1 m2 m3 => ?_
    exact wpAny_pure (wpAny_pure ⟨rfl, c', m1, m3, by omega⟩)
  · obtain e | (v | _ | _ | _) := r₂ <;> first | exact hr₂ | exact hr₂.elim | skip
    obtain ⟨rfl, c', m1, m3, m2⟩ := hr₂
    repeat (any_goals (first | assumption | wp_step))
    exact h _ _ m1 m3 m2

end
end Cr


/-! CrSet: sorted(set(a list of ints)). -/
namespace Cr
open PySem PySem.Spec PyProof.Rows L2
section
variable {P : Program} {w : World} {A : Around} {E : Value → Shared → Prop} {s : Shared}
theorem set_of_ints {l : Addr} {items : Array Value} (ns : List Int) {Q : Value → Shared → Prop} (hh : A.handled = none) (hl : s.heap.IsList l items) (hit : IntsAre items.toList ns) (hb : ns.length + 1 < scanBound)
    (h : ∀ (h' : Heap) (tk c : Nat), SetR w h' s.heap.objs.size (fun j => decide (j ∈ ns)) c → c ≤ ns.length → (∀ b o, s.heap.get? b = some o → h'.get? b = some o) → Q (.ref s.heap.objs.size) { s with heap := h', toks := tk }) :
    wpAny (model P w) A (call (.type "set") [.ref l]) Q E s := by
  obtain ⟨ol, hol, hcl, nl, hdl⟩ := id hl
  have hz : (s.heap.push (emptySet w)).objs.size = s.heap.objs.size + 1 := Heap.size_push ..
  have hlt : l < s.heap.objs.size := Heap.lt_size hol
  have hI : l ≠ (s.heap.push (emptySet w)).objs.size := by rw [hz]; exact Nat.ne_of_lt (Nat.lt_succ_of_lt hlt)
  have hn : items.size = ns.length := by simpa using IntsAre.length hit
  have hh3 : A.in1.in1.in1.handled = none := by simp [hh]
  refine set_walked (T := "list") ns hol hcl F.sub_list_set F.sub_list_frozenset (by decide) (begins_list l items) hl hn hb (fun i v hv => ?_) ((Walks.list hh3 _ l hI items).toS) ?_ (fun tk => ⟨⟨_, Heap.get?_push_size _ rfl, rfl, rfl⟩, (hl.push _).push _⟩) fun s' c hm hS hc => ?_
  · have hi : i < ns.length := by rw [← hn]; exact (Array.getElem?_eq_some_iff.mp hv).1
    obtain ⟨t, e⟩ := PyProof.Rows.IntsAre.int_at hit i v (by rw [Array.getElem?_toList]; exact hv)
    refine ⟨ns[i], t, List.getElem?_eq_getElem hi, ?_⟩
    rw [e, List.getD_eq_getElem?_getD, List.getElem?_eq_getElem hi] <;> rfl
  · rw [hz]
    simp only [List.mem_cons, List.not_mem_nil, or_false, not_or]
    exact ⟨Nat.ne_of_lt (Nat.lt_succ_self _), Nat.ne_of_gt hlt⟩
  · obtain ⟨h', g, d, tk, os⟩ := s'
    obtain rfl : g = s.gens := hm.gens
    obtain rfl : d = s.drawn := hm.drawn
    obtain rfl : os = s.os := hm.os
    refine h h' tk c hS hc fun b o e => ?_
    have hb0 : b < s.heap.objs.size := Heap.lt_size e
    exact hm.heap b o (by rw [hz]; simp only [List.mem_cons, List.not_mem_nil, or_false, not_or]; exact ⟨Nat.ne_of_lt hb0, Nat.ne_of_lt (Nat.lt_succ_of_lt hb0)⟩) (Heap.get?_push_of_some _ (Heap.get?_push_of_some _ e))
end
section
variable {X : Cx}
def tSrtSet (K : PySem.W.Frag) (ta : TE) : TE := fun σ H Q => ta σ H fun x H1 => ∃ (l : Addr) (ns : List Int), x = V.ref l ∧ SqL K H1 l (ns.map V.int) ∧ ns.length < 64 ∧
  ∀ (ms : List Int) (p : Addr), ms.Pairwise (· < ·) → (∀ k : Int, k ∈ ms ↔ k ∈ ns) → H1 p = none → Q (.ref p) (upd H1 p (.lst (ms.map V.int)))
theorem pe_srtSet {a : Expr} {ta : TE} {p p2 q pos : Pos} (hc : X.calm = true) (hg : Gl X "sorted") (hm : X.mg "sorted" = none) (hg2 : Gl X "set") (hm2 : X.mg "set" = none) (ha : PE X a ta)
    (na : starEach [a] X.env = (false, eval a X.env) :: starEach [] X.env := by rfl) : PE X (.Call (.Name "sorted" p) [.Call (.Name "set" p2) [a] [] q] [] pos) (tSrtSet X.K ta) := by
  refine ⟨fun pins s σ H Q I h => ?_⟩
  refine Call_ (ld_blt I hg hm PyProof.Rows.boot_sorted ?_)
  refine PyProof.Rows.callWith_builtin1 (PyProof.Rows.args_cons ?_ rfl) rfl rfl
  refine Call_ (ld_blt I hg2 hm2 PyProof.Rows.boot_set ?_)
  refine PyProof.Rows.callWith_type1 (PyProof.Rows.args_cons (thn (ha.run pins s σ H _ I h) fun v s1 ⟨x, H1, I1, r1, q1⟩ => PyProof.Rows.args_nil ?_) na) na rfl
  obtain ⟨l, ns, rfl, hq, h1, q1⟩ := q1
  cases r1
  obtain ⟨its, r, pl, hz⟩ := I1.list hq
  refine set_of_ints ns (I1.ok.hd hc) pl.isList (by simpa using r.ints) (by unfold scanBound; omega) fun h' tk c R hcn hk => ?_
  refine PyProof.Rows.args_nil ?_
  have I2 : Inv X pins σ H1 { s1 with heap := h', toks := tk } := I1.kept hk
  refine sorted_set R (I2.ok.hd hc) (by omega) fun s' p out c' ms k g o hp hg hi hs hmm hl => ?_
  have hlen : (ms.map V.int).length ≤ sizeLine := by rw [List.length_map, hl, sizeLine_eq]; omega
  have hn : H1 p = none := I2.hok.fresh hp
  have J : Inv X pins σ (upd H1 p (.lst (ms.map V.int))) { s1 with heap := s'.heap, gens := s'.gens, drawn := s'.drawn, toks := s'.toks } :=
    Inv.call (s := { s1 with heap := h', toks := tk }) I2 (ch := []) (Un.laid k hp hn) (I2.hok.laid k hp ⟨hlen, out.toList, c', vals_of_ints hi, hg⟩) (by rw [g]; exact I2.bare) (fun _ z => nomatch z)
  have e : s' = { s1 with heap := s'.heap, gens := s'.gens, drawn := s'.drawn, toks := s'.toks } := by
    cases s'
    cases s1
    cases o
    rfl
  rw [e]
  exact ⟨.ref p, _, J, rfl, q1 ms p hs (fun z => by rw [hmm z]; exact decide_eq_true_iff) hn⟩
end
end Cr


/-! CrZip: zip of a tuple and a list, out of the kit's zip over iterators of any kind. -/
namespace Cr
open PySem PySem.Spec PyProof.Rows L2
/-- a tuple at a, a list at b, in new pairs -/
def ItzM (K : PySem.W.Frag) (a b : Addr) : It :=
  ⟨fun i H => ∃ (xs ys : List V) (x y : V), SqT K H a xs ∧ SqL K H b ys ∧ xs[i]? = some x ∧ ys[i]? = some y,
    fun i H v H' => ∃ T x y, v = .ref T ∧ H T = none ∧ H' = upd H T (.tup [x, y]) ∧ (∀ xs, SqT K H a xs → xs[i]? = some x) ∧ ∀ ys, SqL K H b ys → ys[i]? = some y,
    fun i H => ∃ xs ys : List V, SqT K H a xs ∧ SqL K H b ys ∧ ((i = xs.length ∧ i ≤ ys.length) ∨ (i = ys.length ∧ i ≤ xs.length))⟩
theorem sepM {z TI TO i1 i2 a b : Addr} (D : ZipApart z TI TO i1 i2 a b) : ZipSep2 z TI TO i1 i2 [i1, a] [i2, b] := by
  refine ⟨D.TIz, D.TOz, D.TITO, D.TIi1, by simp, ?_, ?_, D.TIi2, by simp, ?_, ?_, ?_, ?_⟩
  · simp; exact ⟨D.i1z.symm, D.l1z.symm⟩
  · simp; exact ⟨D.TOi1, D.l1TO.symm⟩
  · simp; exact ⟨D.i2z.symm, D.l2z.symm⟩
  · simp; exact ⟨D.TOi2, D.l2TO.symm⟩
  · simp; exact ⟨D.i12, D.l2i1.symm⟩
  · simp; exact ⟨D.i12.symm, D.l1i2.symm⟩
abbrev fpM (z TI TO i1 i2 : Addr) : List Addr := [z, TI, TO, i1, i2]
theorem mem_fp {z TI TO i1 i2 c : Addr} (h : c ∈ fpM z TI TO i1 i2) : c = z ∨ c = TI ∨ c = TO ∨ c = i1 ∨ c = i2 := by simpa using h
theorem turn_zipM {P : Program} {w : World} {K : PySem.W.Frag} {elts : List Expr} {kk : Nat} {tpos : Pos} {a b z TI TO i1 i2 : Addr} (D : ZipApart z TI TO i1 i2 a b) :
    Turn P w K (.Tuple elts kk tpos) (ItzM K a b) (fpM z TI TO i1 i2) z (fun i h => IsZip h z TI TO .none ∧ IsTupOf2 h TI (.ref i1) (.ref i2) ∧ (∃ x y, IsTupOf2 h TO x y) ∧ h.IsTupleIter i1 a i ∧ h.IsListIter i2 b i) where
  mem := by simp
  obj := fun i h st c hc => by
    obtain ⟨hz, hTI, ⟨x, y, hTO⟩, ⟨o1, e1, _, d1⟩, ⟨o2, e2, _, d2⟩⟩ := st
    rcases mem_fp hc with rfl | rfl | rfl | rfl | rfl
    · exact ⟨_, hz, fun v q => nomatch q⟩
    · exact ⟨_, hTI, fun v q => nomatch q⟩
    · exact ⟨_, hTO, fun v q => nomatch q⟩
    · exact ⟨o1, e1, fun v q => by rw [d1] at q; cases q⟩
    · exact ⟨o2, e2, fun v q => by rw [d2] at q; cases q⟩
  keep := fun i h h' ⟨hz, hTI, ⟨x, y, hTO⟩, h1, h2⟩ k =>
    ⟨k z (by simp) _ hz, k TI (by simp) _ hTI, ⟨x, y, k TO (by simp) _ hTO⟩, h1.at fun o q => k i1 (by simp) o q, h2.at fun o q => k i2 (by simp) o q⟩
  item := by
    rintro X rfl rfl rfl hc i pins s σ H E I hf ⟨hz, hTI, ⟨x0, y0, hTO⟩, h1, h2⟩ ⟨xs, ys, x, y, hqx, hqy, hx, hy⟩
    obtain ⟨its, rv, p, _⟩ := I.tuple hqx
    obtain ⟨its2, rv2, p2, _⟩ := I.list hqy
    obtain ⟨u, hu, ru⟩ := rv.get hx
    obtain ⟨u2, hu2, ru2⟩ := rv2.get hy
    have hh : X.A.in1.handled = none := I.ok.hd hc
    have s1 : i < its.toArray.size := by rw [List.size_toArray]; exact (List.getElem?_eq_some_iff.mp hu).1
    have s2 : i < its2.toArray.size := by rw [List.size_toArray]; exact (List.getElem?_eq_some_iff.mp hu2).1
    refine wpAny_pyNext_zipD2_item (sepM D) (Draws.tuple hh i1 a D.l1i1 its.toArray) (Draws.list hh i2 b D.l2i2 its2.toArray) hz hTI hTO ⟨h1, p⟩ ⟨h2, p2.isList⟩ s1 s2 fun x1 x2 h' tk e1 e2 z' TO' d1 d2 hT hsz hk => ?_
    have q1 : x1 = u := by have : its[i]? = some x1 := by simpa using e1
                           rw [hu] at this; exact (Option.some.inj this).symm
    have q2 : x2 = u2 := by have : its2[i]? = some x2 := by simpa using e2
                            rw [hu2] at this; exact (Option.some.inj this).symm
    subst q1 q2
    have hzl : z < s.heap.objs.size := Heap.lt_size hz
    refine ⟨_, rfl, wpAny_letOwnedTupleGo_zip (s := { s with heap := h', toks := tk }) z' fun h'' z'' sb => ?_⟩
    have hT2 : h''.get? s.heap.objs.size = some { cls := .type "tuple", data := .seq #[x1, x2] } := (sb.2 _ (Nat.ne_of_gt hzl)).trans hT
    have new : ObjOk X.prog X.w (upd H s.heap.objs.size (.tup [x, y])) h'' s.heap.objs.size (.tup [x, y]) :=
      ⟨by show 2 ≤ sizeLine; decide, [x1, x2], .cons ru (.cons ru2 .nil), ⟨_, hT2, rfl, _, rfl⟩⟩
    have I1 : Inv X pins σ (upd H s.heap.objs.size (.tup [x, y])) { s with heap := h'', toks := tk } :=
      I.turnedNew (t' := tk) (ch := fpM z TI TO i1 i2) (fun c o hb q => by
        simp only [List.mem_cons, List.not_mem_nil, or_false, not_or] at hb
        exact (sb.2 c hb.1).trans (hk c o hb.1 hb.2.2.1 hb.2.2.2.1 hb.2.2.2.2 q)) hf (Nat.le_refl _) new
    refine ⟨.ref s.heap.objs.size, _, I1, rfl, ⟨_, x, y, rfl, I.hok.fresh (Nat.le_refl _), rfl, fun l hl => by rw [I.tuple_inj hl hqx]; exact hx, fun l hl => by rw [I.list_inj hl hqy]; exact hy⟩, ⟨z'', (sb.2 _ D.TIz).trans (hk _ _ D.TIz D.TITO D.TIi1 D.TIi2 hTI), ⟨x1, x2, (sb.2 _ D.TOz).trans TO'⟩, d1.1.at fun o q => (sb.2 _ D.i1z).trans q, d2.1.at fun o q => (sb.2 _ D.i2z).trans q⟩, fun c hcm => ?_⟩
    have hlt : c < s.heap.objs.size := by
      rcases mem_fp hcm with rfl | rfl | rfl | rfl | rfl
      · exact hzl
      · exact Heap.lt_size hTI
      · exact Heap.lt_size hTO
      · obtain ⟨_, e, _⟩ := h1; exact Heap.lt_size e
      · obtain ⟨_, e, _⟩ := h2; exact Heap.lt_size e
    rw [upd_ne (Nat.ne_of_lt hlt)]
    exact (hf c hcm).1
  done := by
    rintro X rfl rfl rfl hc i pins s σ H E I hf ⟨hz, hTI, ⟨x0, y0, hTO⟩, h1, h2⟩ ⟨xs, ys, hqx, hqy, hend⟩
    obtain ⟨its, rv, p, _⟩ := I.tuple hqx
    obtain ⟨its2, rv2, p2, _⟩ := I.list hqy
    have l1 := rv.length
    have l2 := rv2.length
    have hh : X.A.in1.handled = none := I.ok.hd hc
    refine wpAny_pyNext_zipD2_end (sepM D) (Draws.tuple hh i1 a D.l1i1 its.toArray) (Draws.list hh i2 b D.l2i2 its2.toArray) hz hTI hTO ⟨h1, p⟩ ⟨h2, p2.isList⟩ (by rw [List.size_toArray]; omega) (by rw [List.size_toArray]; omega) (by rw [List.size_toArray, List.size_toArray]; omega) fun h' tk hk => ⟨rfl, ?_⟩
    exact I.turnedL (t' := tk) (ch := fpM z TI TO i1 i2) (fun c o hb q => by
      simp only [List.mem_cons, List.not_mem_nil, or_false, not_or] at hb
      exact hk c o hb.1 hb.2.2.1 hb.2.2.2.1 hb.2.2.2.2 q) hf
  self := fun A i s Q E st h => wpAny_pyIter_zip st.1 h
/-- zip of two lists, of two tuples, of a tuple and a list -/
def iZip3 (K : PySem.W.Frag) (ta : L2.TA) : L2.TI := fun σ H R => ta σ H fun vs H1 => ∃ a b xs ys, vs = [.ref a, .ref b] ∧
  ((SqL K H1 a xs ∧ SqL K H1 b ys ∧ R (Itz K a b) H1) ∨ (SqT K H1 a xs ∧ SqT K H1 b ys ∧ R (RZ.ItzT K a b) H1) ∨ (SqT K H1 a xs ∧ SqL K H1 b ys ∧ R (ItzM K a b) H1))
theorem pi_zip3 {X : Cx} {e e2 : Expr} {ta : L2.TA} {p pos tpos : Pos} {elts : List Expr} {kk : Nat} (hg : Gl X "zip") (hm : X.mg "zip" = none) (ha : PA X [e, e2] ta)
    (hs : starEach [e, e2] X.env = (false, eval e X.env) :: starEach [e2] X.env := by rfl) (hpl : (backTo pos (starEach [e2] X.env)).any (·.1) = false := by rfl) :
    PI X (.Tuple elts kk tpos) (.Call (.Name "zip" p) [e, e2] [] pos) (iZip3 X.K ta) := by
  refine ⟨fun pins s σ H R I h => Call_ (ld_blt I hg hm PyProof.Rows.boot_zip (PyProof.Rows.callWith_type1 (thn (ha.run pos pins s σ H _ I h) fun us s1 ⟨vs, H1, I1, r1, a, b, xs, ys, ex, q1⟩ => ?_) hs hpl))⟩
  subst ex
  cases r1 with
  | cons r rr =>
    cases rr with
    | cons r' rr =>
      cases rr
      cases r
      cases r'
      have new : ∀ c, s1.heap.objs.size ≤ c → FpOk X pins H1 c := fun c hle => I1.fpOk hle (I1.hok.fresh hle)
      have five : ∀ c ∈ fpM (s1.heap.objs.size + 4) (s1.heap.objs.size + 2) (s1.heap.objs.size + 3) s1.heap.objs.size (s1.heap.objs.size + 1), FpOk X pins H1 c := fun c hc => new c (by
        rcases mem_fp hc with rfl | rfl | rfl | rfl | rfl <;> omega)
      rcases q1 with ⟨hx, hy, q⟩ | ⟨hx, hy, q⟩ | ⟨hx, hy, q⟩
      · obtain ⟨its, _, p1, _⟩ := I1.list hx
        obtain ⟨its2, _, p2, _⟩ := I1.list hy
        exact zip_begins2 (begins_list a its.toArray) (begins_list b its2.toArray) p1.isList p2.isList fun h' hz hTI hTO g1 g2 _ hk => wpAny_pyIter_zip hz
          ⟨_, _, _, _, H1, rfl, I1.kept (t' := s1.toks) hk, turn_zip (PySem.W.ktu_apart _ a b p1.lt p2.lt), ⟨hz, hTI, ⟨_, _, hTO⟩, ⟨_, g1, rfl, rfl⟩, ⟨_, g2, rfl, rfl⟩⟩, five, q⟩
      · obtain ⟨its, _, p1, _⟩ := I1.tuple hx
        obtain ⟨its2, _, p2, _⟩ := I1.tuple hy
        obtain ⟨_, o1, _⟩ := id p1
        obtain ⟨_, o2, _⟩ := id p2
        exact zip_begins2 (begins_tuple a its.toArray) (begins_tuple b its2.toArray) p1 p2 fun h' hz hTI hTO g1 g2 _ hk => wpAny_pyIter_zip hz
          ⟨_, _, _, _, H1, rfl, I1.kept (t' := s1.toks) hk, RZ.turn_zipT (PySem.W.ktu_apart _ a b (Heap.lt_size o1) (Heap.lt_size o2)), ⟨hz, hTI, ⟨_, _, hTO⟩, ⟨_, g1, rfl, rfl⟩, ⟨_, g2, rfl, rfl⟩⟩, five, q⟩
      · obtain ⟨its, _, p1, _⟩ := I1.tuple hx
        obtain ⟨its2, _, p2, _⟩ := I1.list hy
        obtain ⟨_, o1, _⟩ := id p1
        exact zip_begins2 (begins_tuple a its.toArray) (begins_list b its2.toArray) p1 p2.isList fun h' hz hTI hTO g1 g2 _ hk => wpAny_pyIter_zip hz
          ⟨_, _, _, _, H1, rfl, I1.kept (t' := s1.toks) hk, turn_zipM (PySem.W.ktu_apart _ a b (Heap.lt_size o1) p2.lt), ⟨hz, hTI, ⟨_, _, hTO⟩, ⟨_, g1, rfl, rfl⟩, ⟨_, g2, rfl, rfl⟩⟩, five, q⟩
end Cr


/-! CrEnum: enumerate of tuples. -/
namespace Cr
open PySem PySem.Spec PyProof.Rows L2

theorem enum_newB {v : Value} {o : Obj} {H : Heap → Prop} (B : Begins v o H) :
    Meets (Builtin.«enumerate.__new__» ⟨[.type "enumerate", v], []⟩) (fun _ R s => H s.heap ∧
      R (.ok (.ret (.ref (s.heap.push o).objs.size))) { s with heap := (s.heap.push o).push { cls := .type "enumerate", data := .fields #[.none, .bool false, .ref s.heap.objs.size, rawInt 0, .none, .none] } }) :=
  .of_wp fun prog w A R s ⟨h1, h⟩ => by
    obtain ⟨hp, g, d, tk, os⟩ := s
    have hsub := sub_enumerate
    have q1 : ∀ {A' : Around} {E : Value → Shared → Prop} {Q : Value → Shared → Prop}, Q (.ref hp.objs.size) ⟨hp.push o, g, d, tk, os⟩ → wpAny (model prog w) A' (pyIter v) Q E ⟨hp, g, d, tk, os⟩ :=
      fun q => B.iter prog w _ _ ⟨hp, g, d, tk, os⟩ _ h1 q
    wp_walk using q1
    refine wpAny_stack_any fun st => wpAny_pure ?_
    split
    · rename_i c _ _ _ _ _
      cases (c == Value.type "enumerate") <;> (wp_walk using q1; exact ⟨_, rfl, h⟩)
    · wp_walk using q1
      exact ⟨_, rfl, h⟩
theorem enum_tup {prog : Program} {w : World} {A : Around} {E : Value → Shared → Prop} {s : Shared} {t : Addr} {items : Array Value} {Q : Value → Shared → Prop} (hT : s.heap.IsTuple t items)
    (h : ∀ h', IsEnum h' (s.heap.objs.size + 1) s.heap.objs.size 0 .none → h'.IsTupleIter s.heap.objs.size t 0 → h'.objs.size = s.heap.objs.size + 2 → (∀ b o, s.heap.get? b = some o → h'.get? b = some o) → Q (.ref (s.heap.objs.size + 1)) { s with heap := h' }) :
    wpAny (model prog w) A (call (.type "enumerate") [.ref t]) Q E s := by
  refine callType_new F.called_enumerate (by decide) (F.typeCall_enumerate_1 _) (F.newCall_enumerate_1 _) (fun obj => F.args_object_init_2 obj _) F.entry_enumerate_new (enum_newB (begins_tuple t items)) ⟨hT, ?_⟩
  generalize ho : ({ cls := .type "tuple_iterator", data := .fields #[.ref t, .int 0 0] } : Obj) = o
  generalize hp : ({ cls := .type "enumerate", data := .fields #[.none, .bool false, .ref s.heap.objs.size, rawInt 0, .none, .none] } : Obj) = p
  have hz : (s.heap.push o).objs.size = s.heap.objs.size + 1 := Heap.size_push ..
  show _ ∧ _
  rw [hz]
  have he : ((s.heap.push o).push p).get? (s.heap.objs.size + 1) = some p := by
    have := Heap.get?_push_size (s.heap.push o) (o := p) (by rw [← hp]; rfl)
    rwa [hz] at this
  refine ⟨⟨p, he, by rw [← hp]⟩, h _ (by rw [← hp] at he ⊢; exact he) ⟨o, Heap.get?_push_of_some _ (Heap.get?_push_size _ (by rw [← ho]; rfl)), by rw [← ho], by rw [← ho]; rfl⟩ (by rw [Heap.size_push, hz]) fun b o x => Heap.get?_push_of_some _ (Heap.get?_push_of_some _ x)⟩
/-- the tuple at a as it stands at each turn, each item in a new pair -/
def IteT (K : PySem.W.Frag) (a : Addr) : It :=
  ⟨fun i H => ∃ (xs : List V) (x : V), SqT K H a xs ∧ xs[i]? = some x, fun i H v H' => ∃ T x, v = .ref T ∧ H T = none ∧ H' = upd H T (.tup [.int (i : Nat), x]) ∧ ∀ xs, SqT K H a xs → xs[i]? = some x, fun i H => ∃ xs : List V, SqT K H a xs ∧ xs.length = i⟩
theorem turn_enumT {P : Program} {w : World} {K : PySem.W.Frag} {elts : List Expr} {kk : Nat} {tpos : Pos} (a e it : Addr) :
    Turn P w K (.Tuple elts kk tpos) (IteT K a) [e, it] e (fun i h => (∃ old, IsEnum h e it ((i : Nat) : Int) old) ∧ h.IsTupleIter it a i ∧ e ≠ it) where
  mem := by simp
  obj := fun i h st b hb => by
    obtain ⟨⟨old, he⟩, ⟨o, ho, hc, hd⟩, _⟩ := st
    rcases (show b = e ∨ b = it by simpa using hb) with rfl | rfl
    · exact ⟨_, he, fun v q => nomatch q⟩
    · exact ⟨o, ho, fun v q => by rw [hd] at q; cases q⟩
  keep := fun i h h' st k => let ⟨⟨old, he⟩, hi, hne⟩ := st; ⟨⟨old, k e (by simp) _ he⟩, hi.at fun o q => k it (by simp) o q, hne⟩
  item := by
    intro X hP hw hK hc i pins s σ H E I hf st ⟨xs, x, hq, hx⟩
    subst hP hw hK
    obtain ⟨⟨old, he⟩, hit, hne⟩ := st
    obtain ⟨its, rv, p, hz⟩ := I.tuple hq
    obtain ⟨u, hu, ru⟩ := rv.get hx
    have hu' : its.toArray[i]? = some u := by simpa using hu
    have hel : e < s.heap.objs.size := Heap.lt_size he
    have hil : it < s.heap.objs.size := by obtain ⟨_, q, _⟩ := hit; exact Heap.lt_size q
    have hT : s.heap.IsTuple a its.toArray := p
    have hae : a ≠ e := fun z => by
      obtain ⟨o, h1, h2, _⟩ := hT
      rw [z, he] at h1
      cases h1
      exact absurd h2 (by intro c; exact absurd (Value.type.inj c) (by decide))
    have hai : a ≠ it := fun z => by
      obtain ⟨o, h1, h2, _⟩ := hT
      obtain ⟨o', h3, h4, _⟩ := hit
      rw [z, h3] at h1
      cases h1
      rw [h4] at h2
      exact absurd (Value.type.inj h2) (by decide)
    refine wpAny_pyNext_enum_itemC (Draws.tuple (prog := X.prog) (w := X.w) (A := X.A.in1) (show X.A.in1.handled = none from I.ok.hd hc) it a hai its.toArray) he ⟨hit, hT⟩ ((Array.getElem?_eq_some_iff.mp hu').1) hne (by simp [hne, hae.symm]) fun u' h' tk hP ho hst' hT2 hsz hk => ?_
    rw [hu'] at hP
    cases hP
    refine ⟨_, rfl, wpAny_letOwnedTupleGo_enum (s := { s with heap := h', toks := tk + 1 }) ho fun h'' he' sb => ?_⟩
    have hT3 : h''.get? s.heap.objs.size = some { cls := .type "tuple", data := .seq #[.int i tk, u] } := (sb.2 _ (Nat.ne_of_gt hel)).trans hT2
    have new : ObjOk X.prog X.w (upd H s.heap.objs.size (.tup [.int (i : Nat), x])) h'' s.heap.objs.size (.tup [.int (i : Nat), x]) :=
      ⟨by show 2 ≤ sizeLine; decide, [.int i tk, u], .cons ⟨_, rfl⟩ (.cons ru .nil), ⟨_, hT3, rfl, _, rfl⟩⟩
    have I1 : Inv X pins σ (upd H s.heap.objs.size (.tup [.int (i : Nat), x])) { s with heap := h'', toks := tk + 1 } :=
      I.turnedNew (ch := [e, it]) (fun b ob hb q => (sb.2 b (fun z => hb (by simp [z]))).trans (hk b ob (fun z => hb (by simp [z])) (fun z => hb (by simp [z])) q)) hf (Nat.le_refl _) new
    refine ⟨.ref s.heap.objs.size, _, I1, rfl, ⟨_, x, rfl, I.hok.fresh (Nat.le_refl _), rfl, fun ys hy => by rw [I.tuple_inj hy hq]; exact hx⟩, ⟨⟨u, ?_⟩, hst'.1.at fun o q => (sb.2 it (Ne.symm hne)).trans q, hne⟩, fun b hb => ?_⟩
    · have e1 : ((i + 1 : Nat) : Int) = (i : Int) + 1 := by omega
      rw [e1]; exact he'
    · have hb' : b < s.heap.objs.size := by
        rcases (show b = e ∨ b = it by simpa using hb) with z | z
        · rw [z]; exact hel
        · rw [z]; exact hil
      rw [upd_ne (Nat.ne_of_lt hb')]
      exact (hf b hb).1
  done := by
    intro X hP hw hK hc i pins s σ H E I hf st ⟨xs, hq, hx⟩
    subst hP hw hK
    obtain ⟨⟨old, he⟩, hit, hne⟩ := st
    obtain ⟨its, rv, p, hz⟩ := I.tuple hq
    have hT : s.heap.IsTuple a its.toArray := p
    obtain ⟨f0, f1, f2, f3, f4, f5⟩ := hf it (by simp)
    have hl := rv.length
    have hai : a ≠ it := fun z => by
      obtain ⟨o, h1, h2, _⟩ := hT
      obtain ⟨o', h3, h4, _⟩ := hit
      rw [z, h3] at h1
      cases h1
      rw [h4] at h2
      exact absurd (Value.type.inj h2) (by decide)
    have hst : s.heap.IsTupleIter it a its.toArray.size ∧ s.heap.IsTuple a its.toArray := ⟨by rw [List.size_toArray, ← hl, hx]; exact hit, hT⟩
    exact wpAny_pyNext_enum_endD (Draws.tuple (prog := X.prog) (w := X.w) (A := X.A.in1) (show X.A.in1.handled = none from I.ok.hd hc) it a hai its.toArray) he hst fun h' eb => ⟨rfl, I.turned (t' := s.toks) (fun b o hb q => eb b o hb q) f0 f1 f3 f4 f5⟩
  self := fun A i s Q E st h => let ⟨⟨_, he⟩, _⟩ := st; wpAny_pyIter_enum he h
def iEnumA (K : PySem.W.Frag) (ta : L2.TA) : TI := fun σ H R => ta σ H fun vs H1 => ∃ a xs, vs = [.ref a] ∧ ((SqL K H1 a xs ∧ R (Ite K a) H1) ∨ (SqT K H1 a xs ∧ R (IteT K a) H1))
theorem pi_enumA {X : Cx} {e : Expr} {ta : L2.TA} {p pos tpos : Pos} {elts : List Expr} {kk : Nat} (hg : Gl X "enumerate") (hm : X.mg "enumerate" = none) (ha : PA X [e] ta) (hs : starEach [e] X.env = [(false, eval e X.env)]) :
    PI X (.Tuple elts kk tpos) (.Call (.Name "enumerate" p) [e] [] pos) (iEnumA X.K ta) := by
  refine ⟨fun pins s σ H R I h => ?_⟩
  refine Call_ (ld_blt I hg hm boot_enumerate (PyProof.Rows.callWith_type1 (thn (ha.run pos pins s σ H _ I h) fun us s1 ⟨vs, H1, I1, r1, q1⟩ => ?_) hs rfl))
  obtain ⟨a, xs, ex, q⟩ := q1
  subst ex
  obtain rfl := Vals.ref1 r1
  have fp : ∀ b ∈ [s1.heap.objs.size + 1, s1.heap.objs.size], s1.heap.objs.size ≤ b := fun b hb => by
    rcases (show b = s1.heap.objs.size + 1 ∨ b = s1.heap.objs.size by simpa using hb) with z | z
    · rw [z]; exact Nat.le_add_right _ _
    · rw [z]; exact Nat.le_refl _
  rcases q with ⟨hq, q⟩ | ⟨hq, q⟩
  · obtain ⟨its, rv, p', hz⟩ := I1.list hq
    refine call_enumerate_list p'.isList fun h' he hit hsz hk => wpAny_pyIter_enum he ?_
    exact ⟨s1.heap.objs.size + 1, [s1.heap.objs.size + 1, s1.heap.objs.size], _, _, H1, rfl, I1.kept (t' := s1.toks) hk, turn_enum a (s1.heap.objs.size + 1) s1.heap.objs.size, ⟨⟨.none, he⟩, hit, Nat.succ_ne_self _⟩, fun b hb => I1.fpOk (fp b hb) (I1.hok.fresh (fp b hb)), q⟩
  · obtain ⟨its, rv, p', hz⟩ := I1.tuple hq
    refine enum_tup (show s1.heap.IsTuple a its.toArray from p') fun h' he hit hsz hk => wpAny_pyIter_enum he ?_
    exact ⟨s1.heap.objs.size + 1, [s1.heap.objs.size + 1, s1.heap.objs.size], _, _, H1, rfl, I1.kept (t' := s1.toks) hk, turn_enumT a (s1.heap.objs.size + 1) s1.heap.objs.size, ⟨⟨.none, he⟩, hit, Nat.succ_ne_self _⟩, fun b hb => I1.fpOk (fp b hb) (I1.hok.fresh (fp b hb)), q⟩
end Cr


/-! CrRev: a tuple turned about. -/
namespace HT
open PySem PySem.Spec PyProof.Rows
section
variable {prog : Program} {w : World} {A : Around} {E : Value → Shared → Prop} {s : Shared}
theorem cr_pickR (xs : Array Value) : ((List.range xs.size).filterMap fun (m : Nat) => xs[((((xs.size : Nat) : Int) - 1) + (m : Int) * -1).toNat]?).toArray = xs.toList.reverse.toArray := by
  have h := PySem.W.krv_all xs
  have h2 := PySem.W.krv_range xs.size
  have e : ∀ m ∈ List.range xs.size, xs[((((xs.size : Nat) : Int) - 1) + (m : Int) * -1).toNat]? = xs[xs.size - 1 - m]? := fun m hm => by
    have := List.mem_range.mp hm
    congr 1
    omega
  have cg : ∀ (l : List Nat) (f g : Nat → Option Value), (∀ m ∈ l, f m = g m) → l.filterMap f = l.filterMap g := by
    intro l f g
    induction l with
    | nil => intro _; rfl
    | cons a l ih => intro q; rw [List.filterMap_cons, List.filterMap_cons, q a (by simp), ih fun m hm => q m (by simp [hm])]
  rw [cg _ _ _ e]
  have e2 : (List.range xs.size).filterMap (fun m => xs[xs.size - 1 - m]?) = ((List.range xs.size).map fun k => xs.size - 1 - k).filterMap fun m => xs[m]? := by rw [List.filterMap_map]; rfl
  rw [e2, h2, List.filterMap_reverse, h]
theorem cr_appliedR {sl : Addr} {vk : Value} {n : Nat} {Q : Int × Int × Nat → Shared → Prop} (hs : s.heap.IsSliceOf sl .none .none vk) (pk : IsPart vk (some (-1))) (h : Q (((n : Nat) : Int) - 1, -1, n) s) :
    wpAny (model prog w) A (Builtin.Slice.sliceApplied (.ref sl) (pure (n : Int))) Q E s := by
  obtain ⟨os, hos, hcs, hds⟩ := id hs
  unfold Builtin.Slice.sliceApplied Builtin.Slice.sliceFields
  refine wpAny_bind (wpAny_bind (wpAny_field hos hds (x := Value.none) rfl (wpAny_bind (wpAny_field hos hds (x := Value.none) rfl (wpAny_bind (wpAny_field hos hds (x := vk) rfl (wpAny_pure ?_)))))))
  refine wpAny_bind (slicePart_ pk ?_)
  show wpAny _ _ (if ((-1 : Int) == 0) = true then _ else _) _ _ s
  rw [if_neg (by decide)]
  refine wpAny_bind (slicePart_none (wpAny_bind (slicePart_none (wpAny_bind (wpAny_pure ?_)))))
  have e1 : Builtin.Slice.sliceAdjust none none (-1) (n : Int) = (((n : Nat) : Int) - 1, -1) := by
    unfold Builtin.Slice.sliceAdjust
    simp
  have e2 : Builtin.Slice.slicePlaces (((n : Nat) : Int) - 1) (-1) (-1) = n := by
    unfold Builtin.Slice.slicePlaces
    have h1 : ¬ ((-1 : Int) > 0) := by omega
    simp only [h1, if_false]
    rw [show (- -1 : Int) = 1 by decide, Int.ediv_one]
    split <;> omega
  show wpAny _ _ (match Builtin.Slice.sliceAdjust none none (-1) (n : Int) with | (lo, hi) => pure (lo, (-1 : Int), Builtin.Slice.slicePlaces lo hi (-1))) _ _ s
  rw [e1]
  show wpAny _ _ (pure (((n : Nat) : Int) - 1, (-1 : Int), Builtin.Slice.slicePlaces (((n : Nat) : Int) - 1) (-1) (-1))) _ _ s
  rw [e2]
  exact wpAny_pure h
theorem cr_tupR {t sl : Addr} {items : Array Value} {vk : Value} {Q : Value → Shared → Prop} (ht : IsTup s.heap t items) (hs : s.heap.IsSliceOf sl .none .none vk) (pk : IsPart vk (some (-1)))
    (h : Q (.ref s.heap.objs.size) { s with heap := s.heap.push { cls := .type "tuple", data := .seq items.toList.reverse.toArray } }) (hsz : items.size ≤ sizeLine) : wpAny (model prog w) A (getItem (.ref t) (.ref sl)) Q E s := by
  have htake : sizeOk (.seq items.toList.reverse.toArray) := by
    show items.toList.reverse.toArray.size ≤ sizeLine
    simpa using hsz
  obtain ⟨os, hos, hcs, hds⟩ := id hs
  have hTs : s.TypeIs (.ref sl) "slice" := ⟨os, hos, hcs⟩
  unfold getItem
  try with_reducible refine wpAny_holding ?_
  first | refine wpAny_bind (wpAny_pure ?_) | skip
  refine wpAny_bind (wpAny_sequenceKey ht.typeIs (by decide) ?_)
  refine wpAny_bind (wpAny_callSpecial?_slot (name := Str.ofString "__getitem__") ht.typeIs PyProof.Rows.slot_tuple_getitem (wpAny_call_entry PyProof.Rows.slot_tuple_getitem ht.typeIs entry_tuple_getitem ?_ (args_tuple_getitem _ _)))
  show wpAny _ _ (Builtin.Tuple.tupleItemsOf (.ref t) >>= _) _ _ s
  refine wpAny_bind (tupleItemsOf_ ht (wpAny_bind (wpAny_typeOf hTs ?_)))
  rw [if_pos (by decide)]
  refine wpAny_bind (cr_appliedR hs pk ?_)
  have hno : ¬ (((((items.size : Nat) : Int) - 1) == 0 && (-1 : Int) == 1 && items.size == items.size) = true) := by simp
  show wpAny _ _ (if ((((items.size : Nat) : Int) - 1) == 0 && (-1 : Int) == 1 && items.size == items.size) = true then _ else _) _ _ s
  rw [if_neg hno, cr_pickR]
  first
    | exact wpAny_bind (m := Builtin.Tuple.tupleExact _) (wpAny_newObj_type (wpAny_pure ⟨_, rfl, wpAny_pure h⟩) htake)
    | exact wpAny_bind (m := Builtin.Tuple.tupleExact _) (wpAny_newObj_type (wpAny_bind (wpAny_pure (wpAny_pure ⟨_, rfl, wpAny_pure h⟩))) htake)
    | exact wpAny_bind (wpAny_bind (m := Builtin.Tuple.tupleExact _) (wpAny_newObj_type (wpAny_pure (wpAny_pure ⟨_, rfl, wpAny_pure h⟩)) htake))
    | exact wpAny_bind (wpAny_bind (m := Builtin.Tuple.tupleExact _) (wpAny_newObj_type (wpAny_pure ⟨_, rfl, wpAny_pure h⟩) htake))
end
end HT
namespace Cr
open PySem PySem.Spec PyProof.Rows L2
section
variable {X : Cx}
def tRevA (K : PySem.W.Frag) (te : TE) : TE := fun σ H Q => te σ H fun x H1 => ∃ a xs, x = .ref a ∧ ((SqL K H1 a xs ∧ ∀ p, H1 p = none → Q (.ref p) (upd H1 p (.lst xs.reverse))) ∨ (SqT K H1 a xs ∧ ∀ p, H1 p = none → Q (.ref p) (upd H1 p (.tup xs.reverse))))
theorem pe_revX {e : Expr} {te : TE} {k : Nat} {p1 p2 p3 pos : Pos} (he : PE X e te) : PE X (.Subscript e (.Slice none none (some (.UnaryOp .USub (.Constant (.int 1) k p1) p2)) p3) pos) (tRevA X.K te) := by
  refine ⟨fun pins s σ H Q I h => ?_⟩
  refine Subscript_ (thn (he.run pins s σ H _ I h) fun v s1 ⟨x, H1, I1, r1, a, xs, ex, q⟩ => ?_)
  subst ex
  cases r1
  have hst : PO X (some (.UnaryOp .USub (.Constant (.int 1) k p1) p2)) (tPart (tUn (rU fun i => .int (-i)) (tC (.int 1)))) := po_some (pe_un un_neg pe_int)
  refine wpAny_Slice (thn (po_none.run pins s1 σ H1 (fun o H2 => o = none ∧ H2 = H1) I1 ⟨rfl, rfl⟩) fun vl s2 ⟨l, H2, I2, pl, el, e2⟩ => ?_)
  subst el e2
  refine thn (po_none.run pins s2 σ H2 (fun o H3 => o = none ∧ H3 = H2) I2 ⟨rfl, rfl⟩) fun vu s3 ⟨u, H3, I3, pu, eu, e3⟩ => ?_
  subst eu e3
  refine thn (hst.run pins s3 σ H3 (fun o H4 => o = some (-1) ∧ H4 = H3) I3 ⟨1, rfl, -1, rfl, rfl, rfl⟩) fun vs s4 ⟨o, H4, I4, ps, eo, e4⟩ => ?_
  subst eo e4
  have I5 : Inv X pins σ H4 { s4 with heap := s4.heap.push { cls := .type "slice", data := .fields #[vl, vu, vs] } } := I4.kept (t' := s4.toks) fun b ob q => Heap.get?_push_of_some _ q
  show wpAny (model X.prog X.w) X.A (subscriptTail e (.Slice none none (some (.UnaryOp .USub (.Constant (.int 1) k p1) p2)) p3) (.ref a) (.ref s4.heap.objs.size)) (EP X pins σ Q) X.xe { s4 with heap := s4.heap.push { cls := .type "slice", data := .fields #[vl, vu, vs] } }
  cases pl; cases pu
  rcases q with ⟨hx, q⟩ | ⟨hx, q⟩
  · obtain ⟨its, r, ht, hz⟩ := I5.list hx
    have hlen := r.length
    refine tail_any (ops := [.ref a, .ref s4.heap.objs.size]) ht.isList.typeIs (PySem.slot_list_getitem.lookup) ?_ (by with_unfolding_all rfl)
    refine wpAny_getItem_list_slice ht.isList (Heap.IsSliceOf.new _ .none .none vs) .none .none ps (by decide) ?_ (by rw [List.size_toArray]; omega)
    rw [PySem.W.krv_pick]
    exact ⟨.ref _, _, I5.laid (t' := s4.toks) (o := .lst xs.reverse) (fun b ob q => Heap.get?_push_of_some _ q) (Nat.le_refl _) ⟨by rw [List.length_reverse]; exact hz, _, 0, r.reverse, Heap.get?_push_size _ rfl⟩, rfl, q _ (I5.hok.fresh (Nat.le_refl _))⟩
  · obtain ⟨its, r, ht, hz⟩ := I5.tuple hx
    have hlen := r.length
    refine tail_any (ops := [.ref a, .ref s4.heap.objs.size]) ht.typeIs (PyProof.Rows.slot_tuple_getitem.lookup) ?_ (by with_unfolding_all rfl)
    refine HT.cr_tupR ht (Heap.IsSliceOf.new _ .none .none vs) ps ?_ (by rw [List.size_toArray]; omega)
    exact ⟨.ref _, _, I5.laid (t' := s4.toks) (o := .tup xs.reverse) (fun b ob q => Heap.get?_push_of_some _ q) (Nat.le_refl _) ⟨by rw [List.length_reverse]; exact hz, _, r.reverse, IsTup.new _ _⟩, rfl, q _ (I5.hok.fresh (Nat.le_refl _))⟩
end
end Cr


/-! Cr8: methods of built-in types. -/
namespace Cr
open PySem PySem.Spec PyProof.Rows L2

section
variable {X : Cx} {G : Prog} {nm : Nm} {Z Z' H H' : Hp} {μ μ' : Store} {pins : List (Addr × Obj)} {σ : L2.St} {s : Shared} {cell : Bool}
/-- a value's built-in type, and that it has no attributes of its own -/
def TyAt (X : Cx) (x : V) (H : Hp) (T : String) : Prop := ∀ pins σ s v, Inv X pins σ H s → RelV x v → s.TypeIs v T ∧ ∀ a, v = .ref a → ∃ ob, s.heap.get? a = some ob ∧ ob.dict = none
structure MInfo (X : Cx) (name : Str) (T id : String) (r : V → List V → Hp → VK → Prop) : Prop where
  pa : PlainAttrs T
  slot : Slot T name id
  ty : typeOf (.builtin id) = pure (.type "method_descriptor")
  rule : MtR X id r
def tMth (X : Cx) (name : Str) (to : TE) (t : L2.TA) : TE := fun σ H Q => to σ H fun x H1 => ∃ T id r, MInfo X name T id r ∧ TyAt X x H1 T ∧ t σ H1 fun xs H2 => r x xs H2 Q
theorem pe_mth {o e : Expr} {es : List Expr} {name : Str} {apos cpos : Pos} {to : TE} {t : L2.TA} (ho : PE X o to) (ha : PA X (e :: es) t)
    (hbase : attributeBase o name X.env (eval o X.env) = eval o X.env)
    (hfew : ((backTo cpos (starEach (e :: es) X.env)).all (fun x => !x.1) && (backToKw cpos (keywordEach [] X.env)).all (fun x => x.1.isSome) && decide ((e :: es).length + ([] : List Keyword).length + (if ([] : List Keyword).isEmpty then 0 else 1) < 30)) = true)
    (hline : (apos.endLine == cpos.line) = true) (hs : starEach (e :: es) X.env = (false, eval e X.env) :: starEach es X.env) (hplain : (backTo cpos (starEach es X.env)).any (·.1) = false) :
    PE X (.Call (.Attribute o name apos) (e :: es) [] cpos) (tMth X name to t) := by
  constructor
  intro pins s σ H Q I h
  refine wpAny_Call_method_late hbase hfew hline rfl (thn (ho.run pins s σ H _ I h) fun v s1 w => ?_)
  obtain ⟨x, H1, I1, r1, T, id, r, mi, ty, q1⟩ := w
  obtain ⟨h1, h2⟩ := ty pins σ s1 v I1 r1
  refine ⟨T, id, mi.pa, mi.slot, mi.ty, h1, h2, ?_⟩
  have hA := ha.run cpos pins s1 σ H1 _ I1 q1
  rw [hs] at hA ⊢
  refine Calls.callWith_builtin (by show (false || (backTo cpos (starEach es X.env)).any (·.1)) = false; rw [hplain] <;> rfl) (Calls.evalArgs_plain ?_)
  exact thn hA fun us s2 w2 => let ⟨vs, H2, I2, r2, q2⟩ := w2; mi.rule pins s2 σ H2 x vs v us Q I2 r1 r2 q2
theorem pe_mth0 {o : Expr} {name : Str} {apos cpos : Pos} {to : TE} (ho : PE X o to)
    (hbase : attributeBase o name X.env (eval o X.env) = eval o X.env) (hline : (apos.endLine == cpos.line) = true) :
    PE X (.Call (.Attribute o name apos) [] [] cpos) (tMth X name to tNil) := by
  constructor
  intro pins s σ H Q I h
  refine wpAny_Call_method0_late hbase hline (thn (ho.run pins s σ H _ I h) fun v s1 w => ?_)
  obtain ⟨x, H1, I1, r1, T, id, r, mi, ty, q1⟩ := w
  obtain ⟨h1, h2⟩ := ty pins σ s1 v I1 r1
  exact ⟨T, id, mi.pa, mi.slot, mi.ty, h1, h2, Calls.callWith_builtin rfl (PySem.evalArgs_none (mi.rule pins s1 σ H1 x [] v [] Q I1 r1 .nil q1))⟩
theorem ty_str {z : Str} : TyAt X (.str z) H "str" := fun pins σ s v I r => tyV_is I r (show tyV X.K "str" (.str z) H from rfl)
theorem ty_list {a : Addr} {vs : List V} (h : SqL X.K H a vs) : TyAt X (.ref a) H "list" := fun pins σ s v I r => tyV_is I r (show tyV X.K "list" (.ref a) H from .inl ⟨rfl, vs, h⟩)
theorem ty_dict {a : Addr} {kvs : List (Key × V)} (h : Rd H a (.dK kvs)) : TyAt X (.ref a) H "dict" := fun pins σ s v I r => by
  cases r
  obtain ⟨z, lo, vs, rel, dd⟩ := dk_rd I.hok h
  obtain ⟨o, es, ep, e, ex, d, _⟩ := id dd
  refine ⟨⟨o, e, ex.1⟩, fun b q => ?_⟩
  cases q
  exact ⟨o, e, ex.2.1⟩

theorem ty_dictT {a : Addr} {kvs : List (List Key × V)} (h : H a = some (.dT kvs)) : TyAt X (.ref a) H "dict" := fun pins σ s v I r => by
  cases r
  obtain ⟨_, _, dd, _⟩ := tk_val (k := []) I h
  obtain ⟨ob, es, ep, p1, p2, _⟩ := dd
  refine ⟨⟨ob, p1, p2.1⟩, fun b q => ?_⟩
  cases q
  exact ⟨ob, p1, p2.2.1⟩

/-! ### methods that read -/
def rGet (K : PySem.W.Frag) (G : Prog) (nm : Nm) : V → List V → Hp → VK → Prop := fun x xs H Q => ∃ Z μ u ds, HSim K G nm Z μ H ∧ RdR K G nm Z H x u ∧ Reps K G nm Z xs ds ∧ opBm .get u ds (FinX K G nm false Z μ Q)
def rBm (op : D → List D → (D → Prop) → Prop) (cell : Bool) (K : PySem.W.Frag) (G : Prog) (nm : Nm) : V → List V → Hp → VK → Prop := fun x xs H Q => ∃ Z μ u ds, HSim K G nm Z μ H ∧ RdR K G nm Z H x u ∧ Paired (RdR K G nm Z H) xs ds ∧ op u ds (FinX K G nm cell Z μ Q)
theorem splitC_spl (c : Nat) : ∀ (l acc : List Nat), TL.spl [c] 0 acc l = match splitC c l with
    | [] => [acc]
    | p :: ps => (acc ++ p) :: ps
  | [], acc => by simp [TL.spl, splitC]
  | x :: r, acc => by
    by_cases h : x = c
    · subst h
      rw [TL.spl_hit (show TL.pre [x] (x :: r) = true by simp [TL.pre])]
      have ih := splitC_spl x r []
      simp only [List.length_singleton, Nat.sub_self, splitC, if_true]
      rw [ih]
      cases q : splitC x r with
      | nil => cases r with
        | nil => simp [splitC] at q
        | cons y r => simp only [splitC] at q; split at q <;> (try split at q) <;> cases q
      | cons p ps => simp
    · rw [TL.spl_miss (TL.pre_of_head [] r h), splitC_spl c r]
      simp only [splitC, if_neg h]
      cases q : splitC c r with
      | nil => cases r with
        | nil => simp [splitC] at q
        | cons y r => simp only [splitC] at q; split at q <;> (try split at q) <;> cases q
      | cons p ps => simp
theorem splitC_ne (c : Nat) (l : List Nat) : splitC c l ≠ [] := by
  cases l with
  | nil => simp [splitC]
  | cons y r => simp only [splitC]; split <;> (try split) <;> simp
theorem spl_splitC (c : Nat) (l : List Nat) : TL.spl [c] 0 [] l = splitC c l := by
  rw [splitC_spl]
  cases q : splitC c l with
  | nil => exact absurd q (splitC_ne c l)
  | cons p ps => simp
theorem splitC_mem (c : Nat) : ∀ (l : List Nat), ∀ p ∈ splitC c l, ∀ x ∈ p, x ∈ l
  | [], p, hp, x, hx => by simp [splitC] at hp; subst hp; cases hx
  | y :: r, p, hp, x, hx => by
    have ih := splitC_mem c r
    simp only [splitC] at hp
    split at hp
    · rcases List.mem_cons.mp hp with e | hp
      · subst e; cases hx
      · exact List.mem_cons_of_mem _ (ih p hp x hx)
    · split at hp
      · simp at hp; subst hp; simp at hx; simp [hx]
      · rename_i q qs e
        rcases List.mem_cons.mp hp with e2 | hp
        · subst e2
          rcases List.mem_cons.mp hx with e3 | hx
          · simp [e3]
          · exact List.mem_cons_of_mem _ (ih q (by rw [e]; simp) x hx)
        · exact List.mem_cons_of_mem _ (ih p (by rw [e]; exact List.mem_cons_of_mem _ hp) x hx)
theorem reps_texts : ∀ {ys : List Str}, (∀ y ∈ ys, strOk y = true) → Reps X.K G nm Z (ys.map V.str) (ys.map fun y => D.str (TL.tl y))
  | [], _ => .nil
  | y :: ys, h => .cons (.str y (h y (by simp))) (reps_texts fun z hz => h z (List.mem_cons_of_mem _ hz))
theorem mb_split : MtR X "str.split" (rBm (opBm .split) cell X.K G nm) := by
  intro pins s σ H x xs v us Q I rx rs ⟨Z, μ, u, ds, hs, ru, rd, h⟩
  cases u <;> try exact h.elim
  match ds, rd, h with
  | [.str [c]], rd, ⟨l, hc, h⟩ =>
    obtain ⟨z, rfl, rfl, o⟩ := ru.str
    obtain ⟨w, rfl, rw'⟩ := pair1 rd
    obtain ⟨z', rfl, e', _⟩ := rw'.str
    obtain rfl : z' = ⟨#[c]⟩ := str_of_toList e'
    have e : (Txt.split z ⟨#[c]⟩).map TL.tl = splitC c (TL.tl z) := by
      rw [TL.split_spl z ⟨#[c]⟩ (by simp [TL.tl]) (TL.kind_ok (by simpa using hc))]
      exact spl_splitC c _
    have ok : ∀ y ∈ Txt.split z ⟨#[c]⟩, strOk y = true := fun y hy => strOk_iff.mpr fun k hk => strOk_iff.mp o k (splitC_mem c _ (TL.tl y) (by rw [← e]; exact List.mem_map_of_mem hy) k hk)
    refine mt_split pins s σ H _ _ v us Q I rx rs ⟨z, _, rfl, rfl, rfl, by rw [← line_eq]; simpa [Str.length] using l, fun p hp => ?_⟩
    have h' : FinX X.K G nm cell Z μ Q (.lst ((Txt.split z ⟨#[c]⟩).map fun y => D.str (TL.tl y))) := by
      have : ((Txt.split z ⟨#[c]⟩).map fun y => D.str (TL.tl y)) = (splitC c (TL.tl z)).map D.str := by rw [← e, List.map_map]; rfl
      rw [this]; exact h
    exact h'.list hs (reps_texts ok) hp
theorem strs_rep : ∀ {vs : List V} {xs : List D} {ps : List (List Nat)}, Reps X.K G nm Z vs xs → strsOf xs = some ps → ∃ ys : List Str, vs = ys.map V.str ∧ ps = ys.map TL.tl ∧ ∀ y ∈ ys, strOk y = true
  | _, _, _, .nil, h => by cases h; exact ⟨[], rfl, rfl, by simp⟩
  | _, _, _, .cons r t, h => by
    cases r <;> simp [strsOf] at h
    rename_i z o
    obtain ⟨a, h1, h2⟩ := h
    subst h2
    obtain ⟨ys, e1, e2, e3⟩ := strs_rep t h1
    exact ⟨z :: ys, by rw [e1]; rfl, by rw [e2]; rfl, fun y hy => (List.mem_cons.mp hy).elim (fun e => by rw [e]; exact o) (e3 y)⟩
theorem joinL_ok {S : List Nat} (hS : ∀ c ∈ S, c < 1114112) : ∀ {ps : List (List Nat)}, (∀ p ∈ ps, ∀ c ∈ p, c < 1114112) → ∀ c ∈ TL.joinL S ps, c < 1114112
  | [], _, c, hc => by simp [TL.joinL] at hc
  | [p], h, c, hc => h p (by simp) c (by simpa [TL.joinL] using hc)
  | p :: q :: r, h, c, hc => by
    simp only [TL.joinL, List.mem_append] at hc
    rcases hc with hc | hc | hc
    · exact h p (by simp) c hc
    · exact hS c hc
    · exact joinL_ok hS (ps := q :: r) (fun p hp => h p (List.mem_cons_of_mem _ hp)) c hc
theorem mb_join : MtR X "str.join" (rBm (opBm .join) cell X.K G nm) := by
  intro pins s σ H x xs v us Q I rx rs ⟨Z, μ, u, ds, hs, ru, rd, h⟩
  cases u <;> try exact h.elim
  match ds, rd, h with
  | [.lst xs], rd, ⟨ps, e, l, h⟩ =>
    obtain ⟨z, rfl, rfl, o⟩ := ru.str
    obtain ⟨w, rfl, rw'⟩ := pair1 rd
    obtain ⟨a, vs, rfl, la, rr⟩ := rw'.list hs.z
    obtain ⟨ys, rfl, rfl, ok⟩ := strs_rep rr e
    refine mt_join pins s σ H _ _ v us Q I rx rs ⟨z, a, ys, rfl, rfl, .inl la.sq, ?_, ?_⟩
    · have e2 : (ys.map fun y => y.length) = (ys.map TL.tl).map List.length := by rw [List.map_map]; exact List.map_congr_left fun y _ => TL.len_tl y
      rw [e2]
      have := l
      simp only [joinLen, List.length_map] at this
      rw [TL.len_tl z, Nat.mul_comm]
      exact this
    · have e3 : Txt.join z ys = ⟨(TL.joinL (TL.tl z) (ys.map TL.tl)).toArray⟩ := str_of_toList (by rw [TL.join_eq]; exact TL.tl_join z ys)
      rw [e3]
      exact h.sc hs (mk_str (joinL_ok (strOk_iff.mp o) fun p hp c hc => by
        obtain ⟨y, hy, rfl⟩ := List.mem_map.mp hp
        exact strOk_iff.mp (ok y hy) c hc))
theorem eqAt_rd (I : Inv X pins σ H s) (st : Same Z H) {x y : D} {k : Nat} {u w : Value} (hx : flatD k x = true) (hy : flatD k y = true) (ru : RdD s.heap u x) (rw' : RdD s.heap w y) {A : Around} (hu : A.units + k < cLine) : SeqAt.EqAt A s u w (eqD x y) := eqAt_D hx hy ru rw' hu
theorem countP_two {α β : Type} {p : α → Bool} {q : β → Bool} : ∀ {l : List α} {m : List β}, l.length = m.length → (∀ j (h : j < l.length) (h' : j < m.length), p l[j] = q m[j]) → l.countP p = m.countP q
  | [], [], _, _ => rfl
  | [], _ :: _, h, _ => by simp at h
  | _ :: _, [], h, _ => by simp at h
  | a :: l, b :: m, h, e => by
    have e0 := e 0 (by simp) (by simp)
    have ih := countP_two (p := p) (q := q) (l := l) (m := m) (by simpa using h) fun j h1 h2 => by have := e (j + 1) (by simpa using h1) (by simpa using h2); simpa using this
    rw [List.countP_cons, List.countP_cons, ih]
    simp only [List.getElem_cons_zero] at e0
    rw [e0]
theorem mb_count (hu : X.A.units + 100 < cLine) : MtR X "list.count" (rBm (opBm .count) cell X.K G nm) := by
  intro pins s σ H x xs v us Q I rx rs ⟨Z, μ, u, ds, hs, ru, rd, h⟩
  cases u <;> try exact h.elim
  case lst ys =>
  match ds, rd, h with
  | [y], rd, ⟨f1, f2, h⟩ =>
    obtain ⟨w, rfl, rw'⟩ := pair1 rd
    obtain ⟨uy, rfl, ry⟩ := vals1 rs
    have rdy := rdD_of I hs.z f1 rw' ry
    obtain ⟨as, q, cn⟩ := rdD_list I hs.z f2 ru rx
    cases q with
    | @list l o vs n _ _ a1 a2 a3 a4 =>
    obtain ⟨a, ws, e0, la, rr⟩ := ru.list hs.z
    subst e0
    cases rx
    obtain ⟨z1, its, n1, q1, g1⟩ := lstAt_get I la
    rw [g1] at a1
    cases a1
    simp only at a3
    injection a3 with a3 _
    subst a3
    have len : its.length = ys.length := by rw [← q1.length]; exact rr.length
    have at_ : ∀ k (hk : k < its.length) (hk' : k < ys.length), RdD s.heap its[k] ys[k] := fun k hk hk' => by
      obtain ⟨u', e1, e2⟩ := reads_at (j := k) a4 cn (List.getElem?_eq_getElem hk')
      have : its[k] = u' := by simpa [hk] using e1
      rw [this]; exact e2
    have hf : ∀ k (hk : k < ys.length), flatD dep ys[k] = true := fun k hk => flats_mem f2 _ (List.getElem_mem hk)
    have cl : ∀ t : Value, Decidable (∃ d as, Reads s.heap t d as ∧ PyData.eqv d (toPy y) = true) := fun _ => Classical.propDecidable _
    let e : Value → Bool := fun t => @decide (∃ d as, Reads s.heap t d as ∧ PyData.eqv d (toPy y) = true) (cl t)
    have ee : ∀ k (hk : k < its.length) (hk' : k < ys.length), e its[k] = eqD ys[k] y := fun k hk hk' => by
      obtain ⟨⟨bs, r1⟩, _⟩ := at_ k hk hk'
      have q0 := eq_py dep ys[k] y (hf k hk') f1
      cases hb : eqD ys[k] y with
      | true =>
        rw [hb] at q0
        exact @decide_eq_true _ (cl _) ⟨_, _, r1, q0⟩
      | false =>
        rw [hb] at q0
        refine @decide_eq_false _ (cl _) fun ⟨d, cs, r2, q2⟩ => ?_
        have := (PyProof.Rows.reads_det (fun _ _ z _ => z) r1 r2).1
        rw [this, q0] at q2
        cases q2
    refine call_meets PySem.F.slot_list_count ⟨_, g1, rfl⟩ PySem.F.entry_list_count (PySem.F.args_list_count_2 _ _)
      (SeqAt.list_countAt _ its.toArray n1 none #[] uy e) ⟨g1, fun t ht => ?_, ?_⟩
    · obtain ⟨k, hk, rfl⟩ := List.getElem_of_mem (by simpa using ht : t ∈ its)
      have hk' : k < ys.length := by omega
      rw [ee k hk hk']
      exact eqAt_D (hf k hk') f1 (at_ k hk hk') rdy (by show X.A.units + 1 + dep < cLine; simp only [dep]; omega)
    · have ec : its.toArray.toList.countP e = ys.countP fun t => eqD t y := by
        show its.countP e = _
        exact countP_two len fun k h1 h2 => ee k h1 h2
      refine ⟨.int ((ys.countP fun t => eqD t y : Nat) : Int), H, I.tok _, ⟨s.toks, ?_⟩, h.sc hs (.int _)⟩
      show Value.int _ _ = Value.int _ _
      rw [ec]
theorem mb_index (hu : X.A.units + 100 < cLine) : MtR X "list.index" (rBm (opBm .index) cell X.K G nm) := by
  intro pins s σ H x xs v us Q I rx rs ⟨Z, μ, u, ds, hs, ru, rd, h⟩
  cases u <;> try exact h.elim
  case lst ys =>
  match ds, rd, h with
  | [y], rd, ⟨f1, f2, j, e, h⟩ =>
    obtain ⟨w, rfl, rw'⟩ := pair1 rd
    obtain ⟨uy, rfl, ry⟩ := vals1 rs
    have rdy := rdD_of I hs.z f1 rw' ry
    obtain ⟨as, q, cn⟩ := rdD_list I hs.z f2 ru rx
    cases q with
    | @list l o vs n _ _ a1 a2 a3 a4 =>
    obtain ⟨a, ws, e0, la, rr⟩ := ru.list hs.z
    subst e0
    cases rx
    obtain ⟨z1, its, n1, q1, g1⟩ := lstAt_get I la
    rw [g1] at a1
    cases a1
    simp only at a3
    injection a3 with a3 _
    subst a3
    have len : its.length = ys.length := by rw [← q1.length]; exact rr.length
    obtain ⟨hj, hj2, hj3⟩ := List.findIdx?_eq_some_iff_getElem.mp e
    have at_ : ∀ k (hk : k < its.length) (hk' : k < ys.length), RdD s.heap its[k] ys[k] := fun k hk hk' => by
      obtain ⟨u', e1, e2⟩ := reads_at (j := k) a4 cn (List.getElem?_eq_getElem hk')
      have : its[k] = u' := by simpa [hk] using e1
      rw [this]; exact e2
    have hf : ∀ k (hk : k < ys.length), flatD dep ys[k] = true := fun k hk => flats_mem f2 _ (List.getElem_mem hk)
    have small := sizeLine_eq
    refine call_meets PySem.F.slot_list_index ⟨_, g1, rfl⟩ PySem.F.entry_list_index (PySem.F.args_list_index_2 _ _)
      (PySem.SeqAt.list_index2_found _ its.toArray n1 none #[] uy (fun k => match ys[k]? with | some t => eqD t y | none => false) j (by simpa [len] using hj) (Nat.zero_le _) (by have := rr.length; omega) ?_ ?_) ⟨g1, fun k hk => ?_, ?_⟩
    · simp only [List.getElem?_eq_getElem hj]; exact hj2
    · intro k hk _ hlt
      have hk' : k < ys.length := by omega
      simp only [List.getElem?_eq_getElem hk']
      have := hj3 k hlt
      simpa using this
    · have hk1 : k < its.length := by simpa using hk
      have hk' : k < ys.length := by omega
      simp only [List.getElem?_eq_getElem hk']
      exact eqAt_D (hf k hk') f1 (at_ k hk1 hk') rdy (by show X.A.units + 1 + dep < cLine; simp only [dep]; omega)
    · exact ⟨.int (j : Int), H, I.tok _, ⟨_, rfl⟩, h.sc hs (.int _)⟩
end
end Cr


/-! Cr9: expressions. -/
namespace Cr
open PySem PySem.Spec PyProof.Rows L2

/-! ### more may be wanted -/
theorem opB_mono {op : BOp} {u v : D} {K K' : D → Prop} (h : opB op u v K) (m : ∀ r, K r → K' r) : opB op u v K' := by
  unfold opB at h ⊢
  split at h <;> first | exact m _ h | exact ⟨h.1, m _ h.2⟩ | exact ⟨h.1, h.2.1, h.2.2.1, m _ h.2.2.2⟩ | exact ⟨h.1, h.2.1, h.2.2.1, h.2.2.2.1, m _ h.2.2.2.2⟩ | exact h.elim
theorem opC_mono {op : COp} {u v : D} {K K' : Bool → Prop} (h : opC op u v K) (m : ∀ r, K r → K' r) : opC op u v K' := by
  unfold opC at h ⊢
  split at h <;> first | exact m _ h | exact ⟨h.1, h.2.1, m _ h.2.2⟩ | exact ⟨h.1, h.2.1, h.2.2.choose, h.2.2.choose_spec.1, m _ h.2.2.choose_spec.2⟩ | exact ⟨h.1, m _ h.2⟩ | (split at h <;> first | exact m _ h | exact h.elim) | (obtain ⟨h1, h2⟩ := h; refine ⟨h1, ?_⟩; split at h2 <;> first | exact m _ h2 | exact h2.elim) | exact h.elim
theorem opIx_mono {u v : D} {K K' : D → Prop} (h : opIx u v K) (m : ∀ r, K r → K' r) : opIx u v K' := by
  unfold opIx at h ⊢
  split at h <;> first | exact ⟨h.choose, h.choose_spec.1, m _ h.choose_spec.2⟩ | exact ⟨h.1, h.2.choose, h.2.choose_spec.1, m _ h.2.choose_spec.2⟩ | (obtain ⟨h1, h2⟩ := h; refine ⟨h1, ?_⟩; split at h2 <;> first | exact ⟨h2.choose, h2.choose_spec.1, m _ h2.choose_spec.2⟩ | exact h2.elim) | exact h.elim
theorem opSl_mono {u : D} {l r : Option Int} {K K' : D → Prop} (h : opSl u l r K) (m : ∀ r, K r → K' r) : opSl u l r K' := by
  unfold opSl at h ⊢
  split at h <;> first | exact m _ h | exact ⟨h.1, m _ h.2⟩ | exact h.elim
theorem opBi_mono {b : Bi} {ds : List D} {K K' : D → Prop} (h : opBi b ds K) (m : ∀ r, K r → K' r) : opBi b ds K' := by
  unfold opBi at h ⊢
  split at h <;> first | exact m _ h | exact ⟨h.1, m _ h.2⟩ | exact ⟨h.choose, h.choose_spec.1, m _ h.choose_spec.2⟩ | exact ⟨h.1, h.2.choose, h.2.choose_spec.1, m _ h.2.choose_spec.2⟩ |
    exact ⟨h.choose, h.choose_spec.1, h.choose_spec.2.1, fun a b c => m _ (h.choose_spec.2.2 a b c)⟩ | exact ⟨h.1, h.2.1, m _ h.2.2⟩ | exact ⟨h.1, h.2.1, h.2.2.1, m _ h.2.2.2⟩ | exact h.elim
theorem opBm_mono {b : Bm} {u : D} {ds : List D} {K K' : D → Prop} (h : opBm b u ds K) (m : ∀ r, K r → K' r) : opBm b u ds K' := by
  unfold opBm at h ⊢
  split at h <;> first | exact m _ h | exact ⟨h.1, m _ h.2⟩ | exact ⟨h.1, h.2.1, m _ h.2.2⟩ | exact ⟨h.choose, h.choose_spec.1, h.choose_spec.2.1, m _ h.choose_spec.2.2⟩ | exact ⟨h.1, h.2.1, h.2.2.choose, h.2.2.choose_spec.1, m _ h.2.2.choose_spec.2⟩ | (obtain ⟨h1, h2⟩ := h; refine ⟨h1, ?_⟩; split at h2 <;> first | exact m _ h2 | exact h2.elim) | exact h.elim
theorem opMut_mono {b : Bm} {xs ds : List D} {K K' : D → List D → Prop} (h : opMut b xs ds K) (m : ∀ r s, K r s → K' r s) : opMut b xs ds K' := by
  unfold opMut at h ⊢
  split at h <;> first | exact ⟨h.1, m _ _ h.2⟩ | exact ⟨h.choose, h.choose_spec.1, m _ _ h.choose_spec.2⟩ |
    (obtain ⟨a, b, j, y, e1, e2, k⟩ := h; exact ⟨a, b, j, y, e1, e2, m _ _ k⟩) | exact h.elim
theorem fin_mono {cell : Bool} {r : D} {μ : Store} {K K' : KA} (h : Cr.fin cell r μ K) (m : ∀ a μ', K a μ' → K' a μ') : Cr.fin cell r μ K' := by
  unfold Cr.fin at h ⊢
  split at h <;> first | exact fun a q => m _ _ (h a q) | exact m _ _ h | exact h.elim

section
variable {X : Cx} {G : Prog} {nm : Nm} {W : WX} {call : Nat → List A → Store → KA → KX → Prop}
abbrev TE' (X : Cx) (G : Prog) (nm : Nm) (W : WX) (call : Nat → List A → Store → KA → KX → Prop) (e : CE) : TE := TD X.K G nm W (wpE G call e)
theorem e_slot {i : Nat} {x : Str} {pos : Pos} (hN : X.N[i]? = some x) (hv : Vis X.env.scope x) (hd : (x == ("__debug__" : Str)) = false) (hcd : (x == ("__classdict__" : Str)) = false) : PE X (.Name x pos) (TE' X G nm W call (.slot i)) := by
  refine PE.of (pe_var hN hv hd hcd) fun σ H Q ⟨Z, μ, ρ, Kp, E, hs, b, w, k⟩ => ?_
  simp only [wpE] at w
  split at w
  · rename_i a e
    obtain ⟨v, e1, r⟩ := b.ss.2 i a e
    exact ⟨v, e1, k _ _ w _ _ _ same_refl hs r⟩
  · exact w.elim
theorem e_lit {e : Expr} {v : V} {d : D} (h : PE X e (tC v)) (r : ∀ Z, Rep X.K G nm Z v d) : PE X e (TE' X G nm W call (.lit d)) :=
  PE.of h fun σ H Q ⟨Z, μ, ρ, Kp, E, hs, b, w, k⟩ => by
    rw [wpE] at w
    exact k _ _ w _ _ _ same_refl hs (.d (r Z))
theorem e_glb {e : Expr} {v : V} {d : D} {x : Nat} (h : PE X e (tC v)) (g : G.glb[x]? = some d) (r : ∀ Z, Rep X.K G nm Z v d) : PE X e (TE' X G nm W call (.glb x)) :=
  PE.of h fun σ H Q ⟨Z, μ, ρ, Kp, E, hs, b, w, k⟩ => by
    simp only [wpE, g] at w
    exact k _ _ w _ _ _ same_refl hs (.d (r Z))
theorem e_bin {op : Operator} {bop : BOp} {a b : Expr} {a' b' : CE} {pos : Pos} {cell : Bool} (ho : OpR X (binaryOp op) (rOpX (opB bop) cell X.K G nm)) (ha : PE X a (TE' X G nm W call a')) (hb : PE X b (TE' X G nm W call b')) :
    PE X (.BinOp a op b pos) (TE' X G nm W call (.bin cell bop a' b')) := by
  refine PE.of (pe_op ho ha hb) fun σ H Q ⟨Z, μ, ρ, Kp, E, hs, b, w, k⟩ => ?_
  rw [wpE] at w
  refine td_to hs b w fun x μ1 w1 v1 H1 Z1 st1 hs1 b1 r1 => td_to hs1 b1 w1 fun y μ2 w2 v2 H2 Z2 st2 hs2 b2 r2 => ?_
  obtain ⟨u, ru, w3⟩ := rd_of hs2 (r1.same st2) w2
  obtain ⟨v, rv, w4⟩ := rd_of hs2 r2 w3
  exact ⟨Z2, μ2, u, v, hs2, ru, rv, opB_mono w4 fun r q => fin_mono q fun a μ' z => (k _ _ z).same (Cr.Same.tr st1 st2)⟩
theorem e_cmp {op : CmpOp} {cop : COp} {a b : Expr} {a' b' : CE} {pos : Pos} (ho : OpR X (compareOp op) (rOp (bop cop) X.K G nm)) (hm : behindInMarks op b = false) (ha : PE X a (TE' X G nm W call a')) (hb : PE X b (TE' X G nm W call b')) :
    PE X (.Compare a [op] [b] pos) (TE' X G nm W call (.cmp cop a' b')) := by
  refine PE.of (pe_cmpR ho ha hb hm) fun σ H Q ⟨Z, μ, ρ, Kp, E, hs, b, w, k⟩ => ?_
  rw [wpE] at w
  refine td_to hs b w fun x μ1 w1 v1 H1 Z1 st1 hs1 b1 r1 => td_to hs1 b1 w1 fun y μ2 w2 v2 H2 Z2 st2 hs2 b2 r2 => ?_
  obtain ⟨u, ru, w3⟩ := rd_of hs2 (r1.same st2) w2
  obtain ⟨v, rv, w4⟩ := rd_of hs2 r2 w3
  exact ⟨Z2, μ2, u, v, hs2, ru, rv, opC_mono w4 fun r q => ((k _ _ q).same (Cr.Same.tr st1 st2)).fin⟩
theorem e_chain {op op' : CmpOp} {cop cop' : COp} {a b c : Expr} {a' b' c' : CE} {pos : Pos} (ho : OpR X (compareOp op) (rOp (bop cop) X.K G nm)) (ho' : OpR X (compareOp op') (rOp (bop cop') X.K G nm)) (hm : lastMarks [op, op'] [b, c] = false)
    (ha : PE X a (TE' X G nm W call a')) (hb : PE X b (TE' X G nm W call b')) (hc : PE X c (TE' X G nm W call c')) : PE X (.Compare a [op, op'] [b, c] pos) (TE' X G nm W call (.chain cop cop' a' b' c')) := by
  refine PE.of (pe_chain ho ho' ha hb hc hm) fun σ H Q ⟨Z, μ, ρ, Kp, E, hs, b, w, k⟩ => ?_
  rw [wpE] at w
  refine td_to hs b w fun x μ1 w1 v1 H1 Z1 st1 hs1 b1 r1 => td_to hs1 b1 w1 fun y μ2 w2 v2 H2 Z2 st2 hs2 b2 r2 => ?_
  obtain ⟨u, ru, w3⟩ := rd_of hs2 (r1.same st2) w2
  obtain ⟨v, rv, w4⟩ := rd_of hs2 r2 w3
  refine ⟨Z2, μ2, u, v, hs2, ru, rv, opC_mono w4 fun t q z H3 Z3 st3 hs3 rz => ?_⟩
  cases rz
  refine ⟨t, rfl, ?_⟩
  cases t with
  | false =>
    rw [if_neg Bool.false_ne_true]
    exact k _ _ q _ _ _ (Cr.Same.tr st1 (Cr.Same.tr st2 st3)) hs3 (.d (.bl _))
  | true =>
    rw [if_pos rfl]
    refine td_to hs3 (b2.same st3) q fun z' μ4 w5 v4 H4 Z4 st4 hs4 b4 r4 => ?_
    obtain ⟨v', rv', w6⟩ := rd_of hs4 (r2.same (Cr.Same.tr st3 st4)) w5
    obtain ⟨z'', rz', w7⟩ := rd_of hs4 r4 w6
    exact ⟨Z4, μ4, v', z'', hs4, rv', rz', opC_mono w7 fun t q => ((k _ _ q).same (Cr.Same.tr st1 (Cr.Same.tr st2 (Cr.Same.tr st3 st4)))).fin⟩
theorem e_idx {a b : Expr} {a' b' : CE} {pos : Pos} (hu : X.A.units + 100 < cLine) (hp : PlainIx b) (ha : PE X a (TE' X G nm W call a')) (hb : PE X b (TE' X G nm W call b')) : PE X (.Subscript a b pos) (TE' X G nm W call (.idx a' b')) := by
  refine PE.of (pe_ix (oi_ix (G := G) (nm := nm) hu) ha hb hp) fun σ H Q ⟨Z, μ, ρ, Kp, E, hs, b, w, k⟩ => ?_
  rw [wpE] at w
  refine td_to hs b w fun x μ1 w1 v1 H1 Z1 st1 hs1 b1 r1 => td_to hs1 b1 w1 fun y μ2 w2 v2 H2 Z2 st2 hs2 b2 r2 => ?_
  obtain ⟨u, ru, w3⟩ := rd_of hs2 (r1.same st2) w2
  obtain ⟨v, rv, w4⟩ := rd_of hs2 r2 w3
  exact ⟨Z2, μ2, u, v, hs2, ru, rv, opIx_mono w4 fun r q => ((k _ _ q).same (Cr.Same.tr st1 st2)).fin⟩
end
end Cr


/-! Cr10: expressions: truth, tests, displays, slices, fields. -/
namespace Cr
open PySem PySem.Spec PyProof.Rows L2

section
variable {X : Cx} {G : Prog} {nm : Nm} {W : WX} {call : Nat → List A → Store → KA → KX → Prop} {Z H : Hp} {μ : Store}
abbrev TT' (X : Cx) (G : Prog) (nm : Nm) (W : WX) (call : Nat → List A → Store → KA → KX → Prop) (e : CE) : TT := TDT X.K G nm W (wpT G call e)
abbrev TA' (X : Cx) (G : Prog) (nm : Nm) (W : WX) (call : Nat → List A → Store → KA → KX → Prop) (e : CEs) : L2.TA := TDA X.K G nm W (wpEs G call e)

/-- truth, served and asked -/
theorem tru_of {K : PySem.W.Frag} {v : V} {u : D} {b : Bool} (z : Same Z H) (r : RdR K G nm Z H v u) (h : truth u = some b) : TruV K v H b := by
  cases u <;> simp only [truth, Option.some.injEq] at h <;> try (cases h; done)
  case non => subst h; rw [r.non]; rfl
  case bl c => subst h; rw [r.bl]; rfl
  case int i => subst h; rw [r.int]; rfl
  case str s =>
    obtain ⟨w, rfl, e, _⟩ := r.str
    have : s.length ≤ line := by
      by_cases q : s.length ≤ line
      · exact q
      · simp [q] at h
    rw [if_pos this, Option.some.injEq] at h
    refine ⟨by rw [← line_eq]; simpa [Str.length, ← e] using this, ?_⟩
    subst h
    rw [← e]
    cases q : w.cps.toList with
    | nil => simp [Str.length, ← Array.length_toList, q]
    | cons c cs =>
      have : w.cps.size = cs.length + 1 := by rw [← Array.length_toList, q]; rfl
      simp [Str.length, this]
      omega
  case tup xs =>
    obtain ⟨a, vs, rfl, l, rr⟩ := r.tuple z
    subst h
    refine .inr (.inl ⟨vs, l, ?_⟩)
    cases rr <;> rfl
  case lst xs =>
    obtain ⟨a, vs, rfl, l, rr⟩ := r.list z
    subst h
    refine .inl ⟨vs, l.sq, ?_⟩
    cases rr <;> rfl

theorem e_one {op : BoolOp} {a : Expr} {c : CE} {pos : Pos} (ha : PE X a (TE' X G nm W call c)) : PE X (.BoolOp op [a] pos) (TE' X G nm W call c) := pe_one ha
theorem e_and {a b : Expr} {rest : List Expr} {a' b' : CE} {pos : Pos} (ha : PE X a (TE' X G nm W call a')) (hb : PE X (.BoolOp .And (b :: rest) pos) (TE' X G nm W call b')) :
    PE X (.BoolOp .And (a :: b :: rest) pos) (TE' X G nm W call (.and a' b')) := by
  refine PE.of (pe_andT ha hb) fun σ H Q ⟨Z, μ, ρ, Kp, E, hs, b, w, k⟩ => ?_
  rw [wpE] at w
  refine td_to hs b w fun x μ1 w1 v1 H1 Z1 st1 hs1 b1 r1 => ?_
  obtain ⟨u, ru, w2⟩ := rd_of hs1 r1 w1
  split at w2
  · rename_i e
    exact ⟨true, tru_of hs1.z ru e, by rw [if_pos rfl]; exact td_to hs1 b1 w2 fun y μ2 w3 v2 H2 Z2 st2 hs2 b2 r2 => k _ _ w3 _ _ _ (Cr.Same.tr st1 st2) hs2 r2⟩
  · rename_i e
    exact ⟨false, tru_of hs1.z ru e, by rw [if_neg Bool.false_ne_true]; exact k _ _ w2 _ _ _ st1 hs1 r1⟩
  · exact w2.elim
theorem e_or {a b : Expr} {rest : List Expr} {a' b' : CE} {pos : Pos} (ha : PE X a (TE' X G nm W call a')) (hb : PE X (.BoolOp .Or (b :: rest) pos) (TE' X G nm W call b')) :
    PE X (.BoolOp .Or (a :: b :: rest) pos) (TE' X G nm W call (.or a' b')) := by
  refine PE.of (pe_orT ha hb) fun σ H Q ⟨Z, μ, ρ, Kp, E, hs, b, w, k⟩ => ?_
  rw [wpE] at w
  refine td_to hs b w fun x μ1 w1 v1 H1 Z1 st1 hs1 b1 r1 => ?_
  obtain ⟨u, ru, w2⟩ := rd_of hs1 r1 w1
  split at w2
  · rename_i e
    exact ⟨true, tru_of hs1.z ru e, by rw [if_pos rfl]; exact k _ _ w2 _ _ _ st1 hs1 r1⟩
  · rename_i e
    exact ⟨false, tru_of hs1.z ru e, by rw [if_neg Bool.false_ne_true]; exact td_to hs1 b1 w2 fun y μ2 w3 v2 H2 Z2 st2 hs2 b2 r2 => k _ _ w3 _ _ _ (Cr.Same.tr st1 st2) hs2 r2⟩
  · exact w2.elim
theorem e_not {a : Expr} {a' : CE} {pos : Pos} (ha : PE X a (TE' X G nm W call a')) : PE X (.UnaryOp .Not a pos) (TE' X G nm W call (.not a')) := by
  refine PE.of (pe_notT ha) fun σ H Q ⟨Z, μ, ρ, Kp, E, hs, b, w, k⟩ => ?_
  rw [wpE] at w
  refine td_to hs b w fun x μ1 w1 v1 H1 Z1 st1 hs1 b1 r1 => ?_
  obtain ⟨u, ru, w2⟩ := rd_of hs1 r1 w1
  split at w2
  · rename_i c e
    exact ⟨c, tru_of hs1.z ru e, k _ _ w2 _ _ _ st1 hs1 (.d (.bl _))⟩
  · exact w2.elim
theorem e_ife {c a b : Expr} {c' a' b' : CE} {pos : Pos} (hc : PT X c (TT' X G nm W call c')) (ha : PE X a (TE' X G nm W call a')) (hb : PE X b (TE' X G nm W call b')) : PE X (.IfExp c a b pos) (TE' X G nm W call (.ife c' a' b')) := by
  refine PE.of (pe_ifExp hc ha hb) fun σ H Q ⟨Z, μ, ρ, Kp, E, hs, b, w, k⟩ => ?_
  rw [wpE] at w
  refine tdt_to hs b w fun t μ1 w1 H1 Z1 st1 hs1 b1 => ?_
  cases t with
  | true =>
    rw [if_pos rfl]
    exact td_to hs1 b1 w1 fun y μ2 w3 v2 H2 Z2 st2 hs2 b2 r2 => k _ _ w3 _ _ _ (Cr.Same.tr st1 st2) hs2 r2
  | false =>
    rw [if_neg Bool.false_ne_true]
    exact td_to hs1 b1 w1 fun y μ2 w3 v2 H2 Z2 st2 hs2 b2 r2 => k _ _ w3 _ _ _ (Cr.Same.tr st1 st2) hs2 r2
theorem e_neg {a : Expr} {a' : CE} {pos : Pos} (ha : PE X a (TE' X G nm W call a')) : PE X (.UnaryOp .USub a pos) (TE' X G nm W call (.neg a')) := by
  refine PE.of (pe_un un_neg ha) fun σ H Q ⟨Z, μ, ρ, Kp, E, hs, b, w, k⟩ => ?_
  rw [wpE] at w
  refine td_to hs b w fun x μ1 w1 v1 H1 Z1 st1 hs1 b1 r1 => ?_
  split at w1
  · cases r1 with
    | d r =>
      cases r
      exact ⟨_, rfl, k _ _ w1 _ _ _ st1 hs1 (.d (.int _))⟩
  · exact w1.elim

/-! ### tests -/
/-- wpT of what is no and, or, not -/
def valT : CE → Bool
  | .and _ _ => false
  | .or _ _ => false
  | .not _ => false
  | _ => true
theorem wpT_val {e : CE} (h : valT e = true) (ρ : Cr.Env) (μ : Store) (K : Bool → Store → Prop) (E : KX) :
    wpT G call e ρ μ K E = wpE G call e ρ μ (fun x μ1 => rd μ1 x fun u => match truth u with
    | some b => K b μ1
    | none => False) E := by
  cases e <;> first | (exfalso; simp [valT] at h; done) | (unfold wpT; rfl) | (rw [wpT] <;> (intros; contradiction))
theorem t_truth {a : Expr} {a' : CE} (hv : valT a' = true) (ha : PE X a (TE' X G nm W call a')) (he : ∀ whole, isTrue a X.env whole = (do let v ← whole; standAt a.pos; holding [v] (truthy v))) : PT X a (TT' X G nm W call a') := by
  refine ⟨fun pins s σ H Q I h => (pt_truth ha he).run pins s σ H Q I ?_⟩
  obtain ⟨Z, μ, ρ, Kp, E, hs, b, w, k⟩ := h
  rw [wpT_val hv] at w
  refine td_to hs b w fun x μ1 w1 v1 H1 Z1 st1 hs1 b1 r1 => ?_
  obtain ⟨u, ru, w2⟩ := rd_of hs1 r1 w1
  split at w2
  · rename_i c e
    exact ⟨c, tru_of hs1.z ru e, k _ _ w2 _ _ st1 hs1⟩
  · exact w2.elim
/-- a test that gives a bool at once -/
theorem t_bool {a : Expr} {a' : CE} {f : Cr.Env → Store → KA → KX → Prop} (h : PT X a (tTest (TD X.K G nm W f)))
    (he : ∀ ρ μ K E, wpT G call a' ρ μ K E → f ρ μ (fun x μ1 => ∃ b, x = .d (.bl b) ∧ K b μ1) E) : PT X a (TT' X G nm W call a') := by
  refine ⟨fun pins s σ H Q I q => h.run pins s σ H Q I ?_⟩
  obtain ⟨Z, μ, ρ, Kp, E, hs, b, w, k⟩ := q
  refine td_to hs b (he _ _ _ _ w) fun x μ1 ⟨c, e, w1⟩ v1 H1 Z1 st1 hs1 b1 r1 => ?_
  subst e
  cases r1 with
  | d r => cases r; exact ⟨c, rfl, k _ _ w1 _ _ st1 hs1⟩
theorem t_and1 {a : Expr} {c : CE} {pos : Pos} (ha : PT X a (TT' X G nm W call c)) : PW X (.BoolOp .And [a] pos) (TT' X G nm W call c) := pw_and1 ha
theorem t_or1 {a : Expr} {c : CE} {pos : Pos} (ha : PT X a (TT' X G nm W call c)) : PW X (.BoolOp .Or [a] pos) (TT' X G nm W call c) := pw_or1 ha
theorem PW.of {e : Expr} {t t' : TT} (h : PW X e t) (m : ∀ σ H Q, t' σ H Q → t σ H Q) : PW X e t' := ⟨fun w pins s σ H Q I q => h.run w pins s σ H Q I (m _ _ _ q)⟩
theorem t_and {a b : Expr} {rest : List Expr} {a' b' : CE} {pos : Pos} (ha : PT X a (TT' X G nm W call a')) (hb : PW X (.BoolOp .And (b :: rest) pos) (TT' X G nm W call b')) : PW X (.BoolOp .And (a :: b :: rest) pos) (TT' X G nm W call (.and a' b')) := by
  refine PW.of (pw_and ha hb) fun σ H Q ⟨Z, μ, ρ, Kp, E, hs, b, w, k⟩ => ?_
  rw [wpT] at w
  refine tdt_to hs b w fun t μ1 w1 H1 Z1 st1 hs1 b1 => ?_
  cases t with
  | true =>
    rw [if_pos rfl]
    exact tdt_to hs1 b1 w1 fun y μ2 w3 H2 Z2 st2 hs2 b2 => k _ _ w3 _ _ (Cr.Same.tr st1 st2) hs2
  | false =>
    rw [if_neg Bool.false_ne_true]
    exact k _ _ w1 _ _ st1 hs1
theorem t_or {a b : Expr} {rest : List Expr} {a' b' : CE} {pos : Pos} (ha : PT X a (TT' X G nm W call a')) (hb : PW X (.BoolOp .Or (b :: rest) pos) (TT' X G nm W call b')) : PW X (.BoolOp .Or (a :: b :: rest) pos) (TT' X G nm W call (.or a' b')) := by
  refine PW.of (pw_or ha hb) fun σ H Q ⟨Z, μ, ρ, Kp, E, hs, b, w, k⟩ => ?_
  rw [wpT] at w
  refine tdt_to hs b w fun t μ1 w1 H1 Z1 st1 hs1 b1 => ?_
  cases t with
  | false =>
    rw [if_neg Bool.false_ne_true]
    exact tdt_to hs1 b1 w1 fun y μ2 w3 H2 Z2 st2 hs2 b2 => k _ _ w3 _ _ (Cr.Same.tr st1 st2) hs2
  | true =>
    rw [if_pos rfl]
    exact k _ _ w1 _ _ st1 hs1
theorem t_not {a : Expr} {a' : CE} {pos : Pos} (ha : PT X a (TT' X G nm W call a')) : PT X (.UnaryOp .Not a pos) (TT' X G nm W call (.not a')) := by
  refine PT.of (pt_not ha) fun σ H Q ⟨Z, μ, ρ, Kp, E, hs, b, w, k⟩ => ?_
  rw [wpT] at w
  exact tdt_to hs b w fun t μ1 w1 H1 Z1 st1 hs1 b1 => k _ _ w1 _ _ st1 hs1
end
end Cr


/-! Cr11: displays, slices, fields. -/
namespace Cr
open PySem PySem.Spec PyProof.Rows L2

section
variable {X : Cx} {G : Prog} {nm : Nm} {W : WX} {call : Nat → List A → Store → KA → KX → Prop} {Z H : Hp} {μ : Store} {pins : List (Addr × Obj)} {σ : L2.St} {s : Shared}
theorem PA.of' {es : List Expr} {t t' : L2.TA} (h : PA X es t) (m : ∀ σ H Q, t' σ H Q → t σ H Q) : PA X es t' := ⟨fun p pins s σ H Q I q => h.run p pins s σ H Q I (m _ _ _ q)⟩
theorem a_nil : PA X [] (TA' X G nm W call .nil) := PA.of' pa_nil fun σ H Q ⟨Z, μ, ρ, Kp, E, hs, b, w, k⟩ => by
  rw [wpEs] at w
  exact k _ _ w _ _ _ same_refl hs .nil
theorem a_cons {e : Expr} {es : List Expr} {e' : CE} {es' : CEs} (he : PE X e (TE' X G nm W call e')) (hr : PA X es (TA' X G nm W call es')) (hst : starEach (e :: es) X.env = (false, eval e X.env) :: starEach es X.env) : PA X (e :: es) (TA' X G nm W call (.cons e' es')) := by
  refine PA.of' (pa_cons he hr hst) fun σ H Q ⟨Z, μ, ρ, Kp, E, hs, b, w, k⟩ => ?_
  rw [wpEs] at w
  exact td_to hs b w fun x μ1 w1 v1 H1 Z1 st1 hs1 b1 r1 => tda_to hs1 b1 w1 fun as μ2 w2 vs H2 Z2 st2 hs2 b2 r2 => k _ _ w2 _ _ _ (Cr.Same.tr st1 st2) hs2 (.cons (r1.same st2) r2)
theorem areps_d : ∀ {vs : List V} {xs : List D}, Reps X.K G nm Z vs xs → AReps X.K G nm Z vs (xs.map A.d)
  | _, _, .nil => .nil
  | _, _, .cons r t => .cons (.d r) (areps_d t)
theorem areps_append {vs ws : List V} {as bs : List A} (r : AReps X.K G nm Z vs as) (q : AReps X.K G nm Z ws bs) : AReps X.K G nm Z (vs ++ ws) (as ++ bs) := by
  induction r with
  | nil => exact q
  | cons h t ih => exact .cons h ih
theorem seqOf_rep {v : V} {u : D} {ds : List D} (z : Same Z H) (r : RdR X.K G nm Z H v u) (h : seqOf u = some ds) : ∃ a vs, v = .ref a ∧ (SqT X.K H a vs ∨ SqL X.K H a vs) ∧ Reps X.K G nm Z vs ds := by
  cases u <;> simp [seqOf] at h
  case tup xs => subst h; obtain ⟨a, vs, e, l, rr⟩ := r.tuple z; exact ⟨a, vs, e, .inl l, rr⟩
  case lst xs => subst h; obtain ⟨a, vs, e, l, rr⟩ := r.list z; exact ⟨a, vs, e, .inr l.sq, rr⟩
theorem a_star {e : Expr} {es : List Expr} {e' : CE} {es' : CEs} {p : Pos} (he : PE X e (TE' X G nm W call e')) (hr : PA X es (TA' X G nm W call es')) (hst : starEach (.Starred e p :: es) X.env = (true, eval e X.env) :: starEach es X.env) : PA X (.Starred e p :: es) (TA' X G nm W call (.star e' es')) := by
  refine PA.of' (StX.pa_star he hr hst) fun σ H Q ⟨Z, μ, ρ, Kp, E, hs, b, w, k⟩ => ?_
  rw [wpEs] at w
  refine td_to hs b w fun x μ1 w1 v1 H1 Z1 st1 hs1 b1 r1 => ?_
  obtain ⟨u, ru, w2⟩ := rd_of hs1 r1 w1
  split at w2
  · rename_i ds e
    obtain ⟨a, vs, rfl, l, rr⟩ := seqOf_rep hs1.z ru e
    exact ⟨a, vs, rfl, l, tda_to hs1 b1 w2 fun as μ2 w3 ws H2 Z2 st2 hs2 b2 r2 => k _ _ w3 _ _ _ (Cr.Same.tr st1 st2) hs2 (areps_append ((areps_d rr).same st2) r2)⟩
  · exact w2.elim
theorem e_tup {es : List Expr} {es' : CEs} {k1 : Nat} {pos : Pos} (h : PA X es (TA' X G nm W call es')) : PE X (.Tuple es k1 pos) (TE' X G nm W call (.tup es')) := by
  refine PE.of (pe_tup h) fun σ H Q ⟨Z, μ, ρ, Kp, E, hs, b, w, k⟩ => ?_
  rw [wpE] at w
  refine tda_to hs b w fun as μ1 w1 vs H1 Z1 st1 hs1 b1 r1 => ?_
  obtain ⟨ds, μ2, Z2, st2, hs2, rr, hl, w2⟩ := toDs_of hs1 r1 w1
  refine ⟨by rw [← line_eq, rr.length]; exact hl, fun p hp => ?_⟩
  obtain ⟨h3, st3⟩ := hs2.frozen (o := .tup vs) hp
  exact k _ _ w2 _ _ _ (Cr.Same.tr st1 (Cr.Same.tr st2 st3)) h3 (.d (.tup (SqT.of upd_same) (rr.same st3)))
theorem e_lst {cell : Bool} {es : List Expr} {es' : CEs} {pos : Pos} (h : PA X es (TA' X G nm W call es')) : PE X (.List es pos) (TE' X G nm W call (.lst cell es')) := by
  refine PE.of (pe_lst h) fun σ H Q ⟨Z, μ, ρ, Kp, E, hs, b, w, k⟩ => ?_
  rw [wpE] at w
  refine tda_to hs b w fun as μ1 w1 vs H1 Z1 st1 hs1 b1 r1 => ?_
  obtain ⟨ds, μ2, Z2, st2, hs2, rr, hl, w2⟩ := toDs_of hs1 r1 w1
  refine ⟨by rw [← line_eq, rr.length]; exact hl, fun p hp => ?_⟩
  have w3 : FinX X.K G nm cell Z2 μ2 Q (.lst ds) := by
    unfold FinX Cr.fin
    cases cell with
    | false => exact (k _ _ w2).same (Cr.Same.tr st1 st2)
    | true => exact fun a ha => (k _ _ (w2 a ha)).same (Cr.Same.tr st1 st2)
  exact w3.list hs2 rr hp

/-! ### slices -/
abbrev TO' (X : Cx) (G : Prog) (nm : Nm) (W : WX) (call : Nat → List A → Store → KA → KX → Prop) (e : CO) : L2.TO := fun σ H Q => ∃ Z μ ρ Kp E, HSim X.K G nm Z μ H ∧ Bun X.K G nm W σ Z ρ E ∧ wpO G call e ρ μ Kp E ∧ ∀ o μ', Kp o μ' → ∀ H' Z', Same Z Z' → HSim X.K G nm Z' μ' H' → Q o H'
theorem PO.of' {e : Option Expr} {t t' : L2.TO} (h : PO X e t) (m : ∀ σ H Q, t' σ H Q → t σ H Q) : PO X e t' := ⟨fun pins s σ H Q I q => h.run pins s σ H Q I (m _ _ _ q)⟩
theorem o_no : PO X none (TO' X G nm W call .no) := PO.of' po_none fun σ H Q ⟨Z, μ, ρ, Kp, E, hs, b, w, k⟩ => by
  rw [wpO] at w
  exact k _ _ w _ _ same_refl hs
/-- a bound of a slice: an int, or None -/
theorem po_any {e : Expr} {te : TE} (h : PE X e te) : PO X (some e) (fun σ H Q => te σ H fun x H1 => (∃ i, x = .int i ∧ Q (some i) H1) ∨ (x = .non ∧ Q none H1)) := by
  refine ⟨fun pins s σ H Q I hw => ?_⟩
  rw [evalPart_some]
  refine thn (h.run pins s σ H _ I hw) fun u s1 ⟨x, H1, I1, r1, q1⟩ => ?_
  rcases q1 with ⟨i, rfl, q⟩ | ⟨rfl, q⟩
  · obtain ⟨t, rfl⟩ := r1
    exact ⟨some i, H1, I1, .int i t, q⟩
  · cases r1
    exact ⟨none, H1, I1, .none, q⟩
theorem o_yes {e : Expr} {e' : CE} (he : PE X e (TE' X G nm W call e')) : PO X (some e) (TO' X G nm W call (.yes e')) := by
  refine PO.of' (po_any he) fun σ H Q ⟨Z, μ, ρ, Kp, E, hs, b, w, k⟩ => ?_
  rw [wpO] at w
  refine td_to hs b w fun x μ1 w1 v1 H1 Z1 st1 hs1 b1 r1 => ?_
  split at w1
  · cases r1 with | d r => cases r; exact .inl ⟨_, rfl, k _ _ w1 _ _ st1 hs1⟩
  · cases r1 with | d r => cases r; exact .inr ⟨rfl, k _ _ w1 _ _ st1 hs1⟩
  · exact w1.elim
def rSlX (op : D → Option Int → Option Int → (D → Prop) → Prop) (cell : Bool) (K : PySem.W.Frag) (G : Prog) (nm : Nm) : V → Option Int → Option Int → Hp → VK → Prop := fun x lo hi H Q => ∃ Z μ u, HSim K G nm Z μ H ∧ RdR K G nm Z H x u ∧ op u lo hi (FinX K G nm cell Z μ Q)
theorem os_slx {cell : Bool} : SlR X (rSlX opSl cell X.K G nm) := by
  intro pins s σ H x v vl vu lo hi sl Q I rx hsl pl pu ⟨Z, μ, u, hs, ru, h⟩
  by_cases hl : ∃ xs, u = .lst xs
  · obtain ⟨xs, rfl⟩ := hl
    obtain ⟨a, vs, rfl, l, r⟩ := ru.list hs.z
    refine sl_list pins s σ H _ v vl vu lo hi sl Q I rx hsl pl pu ⟨a, vs, rfl, l.sq, fun p hp => ?_⟩
    have h' : FinX X.K G nm cell Z μ Q (.lst (cut xs lo hi)) := h
    exact h'.list hs (cut_rep r lo hi) hp
  · refine os_sl pins s σ H x v vl vu lo hi sl Q I rx hsl pl pu ⟨Z, μ, u, hs, ru, ?_⟩
    cases u <;> try exact h.elim
    case lst xs => exact absurd ⟨xs, rfl⟩ hl
    case tup xs => exact FinX.z (cell := cell) (X := X) h (fun _ z => by cases z) (fun _ _ z => by cases z)
    case str t => exact ⟨h.1, FinX.z (cell := cell) (X := X) h.2 (fun _ z => by cases z) (fun _ _ z => by cases z)⟩
theorem finX_of {cell : Bool} {Z1 : Hp} {K : KA} {Q : VK} {r : D} (st : Same Z Z1) (k : ∀ a μ', K a μ' → FinA X.K G nm Z Q a μ') (h : Cr.fin cell r μ K) : FinX X.K G nm cell Z1 μ Q r := fin_mono h fun a μ' q => (k a μ' q).same st
theorem e_sli {cell : Bool} {a : Expr} {lo hi : Option Expr} {a' : CE} {lo' hi' : CO} {p2 pos : Pos} (ha : PE X a (TE' X G nm W call a')) (hlo : PO X lo (TO' X G nm W call lo')) (hhi : PO X hi (TO' X G nm W call hi')) :
    PE X (.Subscript a (.Slice lo hi none p2) pos) (TE' X G nm W call (.sli cell a' lo' hi')) := by
  refine PE.of (pe_slice (os_slx (G := G) (nm := nm) (cell := cell)) ha hlo hhi) fun σ H Q ⟨Z, μ, ρ, Kp, E, hs, b, w, k⟩ => ?_
  rw [wpE] at w
  refine td_to hs b w fun x μ1 w1 v1 H1 Z1 st1 hs1 b1 r1 => ⟨Z1, μ1, ρ, _, E, hs1, b1, w1, fun l μ2 w2 H2 Z2 st2 hs2 => ⟨Z2, μ2, ρ, _, E, hs2, b1.same st2, w2, fun h μ3 w3 H3 Z3 st3 hs3 => ?_⟩⟩
  obtain ⟨u, ru, w4⟩ := rd_of hs3 (r1.same (Cr.Same.tr st2 st3)) w3
  exact ⟨Z3, μ3, u, hs3, ru, opSl_mono w4 fun r q => finX_of (Cr.Same.tr st1 (Cr.Same.tr st2 st3)) k q⟩
end
end Cr


/-! CrG: a def's promise where no repr is under way (the guards around are known to be none). -/
namespace Cr
open PySem PySem.Spec PyProof.Rows L2

structure FnG (P : Program) (w : World) (K : PySem.W.Frag) (mg : Str → Option Value) (base : Heap) (cx : CXT) (lv : Nat) (f : Addr) (fd : FuncData) (ps : List Str) (sp : Sp) : Prop where
  len : ∀ vs H Q E, sp vs H Q E → vs.length = ps.length
  run : ∀ (A : Around) (outer : List PySem.Env) (s : Shared) (H : Hp) (args : Args) (us : List Value) (vs : List V) (Q : VK) (E : XK), Room lv A → A.guards = some [] → Env0 P w K mg base A outer s H →
    BindsTo s fd args (ps.zip us) → Vals vs us → sp vs H Q E → codeAny (model P w) A (.call (.ref f) args) (CR cx outer P w H s Q E) s
section
variable {X : Cx} {lv : Nat} {f C : Addr} {fd : FuncData} {ps : List Str} {sp : Sp} {pins : List (Addr × Obj)} {σ : L2.St} {H : Hp} {s : Shared} {Q : VK} {us : List Value} {vs : List V}
/-- behind a def's call, in the caller -/
theorem came_back {E : XK} {r : Result} {s' : Shared} (hx : ∀ e s', L2.CX X.prog X.w X.stack H s E e s' → X.xe e s') (I : Inv X pins σ H s) (h : CR (L2.CX X.prog X.w) X.stack X.prog X.w H s Q E r s') : wants (EP X pins σ Q) X.xe r s' := by
  cases r with
  | error e => exact hx e s' h
  | ok fl => cases fl <;> first | exact I.after h | exact False.elim h
theorem run_fnG {E : L2.St → XK} (F : FnG X.prog X.w X.K X.mg X.base (L2.CX X.prog X.w) lv f fd ps sp) (hr : Room lv X.A) (hg : X.A.guards = some []) (hb : Binds X.K fd ps []) (hx : PassesAt (L2.CX X.prog X.w) X σ (E σ)) (I : Inv X pins σ H s) (r : Vals vs us)
    (h : sp vs H Q (E σ)) : wpAny (model X.prog X.w) X.A (PySem.call (.ref f) us) (EP X pins σ Q) X.xe s := by
  have hl : us.length = ps.length := r.length.symm.trans (F.len _ _ _ _ h)
  have b := hb s us I.kIn ((congrArg List.length (List.append_nil us)).trans hl)
  rw [List.append_nil] at b
  exact wpAny_call (codeAny_mono (F.run X.A X.stack s H ⟨us, []⟩ us vs Q (E σ) hr hg I.env0 b r h) fun r' s' q => came_back (fun e s'' c => hx pins H s e s'' I c) I q)
theorem guards_in1 {A : Around} : A.in1.guards = A.guards := rfl
theorem guards_make {A : Around} {C : Addr} {us : List Value} {kw : List (Str × Value)} : (A.under (.builtin "type.__call__" ⟨.ref C :: us, kw⟩)).guards = A.guards := by
  cases e : A.guards <;> simp [Around.under, Code.guards, Code.isGuard, guardIds, pushGuards, e]
theorem guards_deep {A : Around} {env : PySem.Env} : (A.deeper env).guards = A.guards := rfl
/-- x.f, a property -/
theorem prop_runG {p g a dx : Addr} {fs : List (Str × V)} {x : Str} {bb : Bool} {Ex : Value → Shared → Prop} (I : Inv X pins σ H s) (ea : H a = some (.ins C dx fs)) (c : Cls X.K C) (hp : PropOf X.K C x p g)
    (F : FnG X.prog X.w X.K X.mg X.base (L2.CX X.prog X.w) lv g fd ps sp) (hr : Room (lv + 1) X.A) (hg : X.A.guards = some []) (hb : Binds X.K fd ps []) (h : sp [.ref a] H Q fun _ _ _ => False) :
    wpAny (model X.prog X.w) X.A (PySem.getAttr (.ref a) x bb) (EP X pins σ Q) Ex s := by
  obtain ⟨mA, O, _⟩ := ins_get I.hok ea
  obtain ⟨od, J, _⟩ := O.look
  obtain ⟨more, hrec⟩ := hp.rec_
  have It := I.tok (s.toks + 1)
  have hl : ([Value.ref a] ++ ([] : List Value)).length = ps.length := F.len _ _ _ _ h
  obtain ⟨cd, ec, _⟩ := PySem.W.any_some c.hd
  have hc : (PySem.W.clsIn X.K C).isSome = true := by rw [ec]; rfl
  refine PySem.W.get_bind I.kIn J (PySem.W.plainGet_of (c.get x)).1 (PySem.W.findObj_data hc hp.at_ hp.get hp.tak) (PySem.W.plainGet_of (c.get x)).2 (wpAny_call (PySem.W.prop_get (s := { s with toks := s.toks + 1 }) I.kIn hrec ?_))
  refine codeAny_mono (F.run X.A.in1 X.stack { s with toks := s.toks + 1 } H ⟨[.ref a], []⟩ [.ref a] [.ref a] Q (fun _ _ _ => False) hr.in1 hg It.env0.in1 (hb _ [.ref a] It.kIn hl) (.cons rfl .nil) h) fun r s' q => ?_
  cases r with
  | error er =>
    obtain ⟨_, _, _, _, _, _, _, _, _, _, _, _, z⟩ := q
    exact z.elim
  | ok fl =>
    cases fl with
    | ret u =>
      obtain ⟨v, H', I3, rv, q3⟩ := It.after q
      show wpAny _ _ (handedOut u) _ _ _
      rw [PySem.W.handedOut_of (handed_of rv)]
      exact wpAny_pure ⟨v, H', I3, rv, q3⟩
    | next => exact False.elim q
    | brk => exact False.elim q
    | cont => exact False.elim q
end
/-- the rule for a def -/
theorem fnG_of {P : Program} {w : World} {K : PySem.W.Frag} {mg : Str → Option Value} {base : Heap} {cx : CXT} {lv : Nat} {f : Addr} {fd : FuncData} {x qual : Str} {p : Arguments} {body : List Stmt} {scope : Scope} {N ps : List Str} {sp : Sp} (F : FunD K x qual p body scope [] [] f fd) (S : FnScope N ps scope)
    (len : ∀ vs H Q E, sp vs H Q E → vs.length = ps.length)
    (hbody : ∀ (cdv : Value) (A : Around) (outer : List PySem.Env) (s : Shared) (H : Hp) (vs : List V) (Q : VK) (E : XK), Room lv (A.deeper (envOfC qual scope s.heap.objs.size f cdv)) → A.guards = some [] → sp vs H Q E →
      ∃ t, PSs (cxOf cx P w K mg base N qual scope f cdv A outer s H E) body t ∧ t { nx := fun _ H' => Q .non H', rt := Q } (L2.start N vs) H) : FnG P w K mg base cx (lv + 1) f fd ps sp := by
  obtain ⟨oc, od, dV, kV, doc, pm, an, cdv, ct, osl, rfl, lk, hcd, _, _⟩ := F.ex
  refine ⟨len, fun A outer s H args us vs Q E hr hg e0 hb r hsp => ?_⟩
  have hl := len _ _ _ _ hsp
  have KI : K.In s.heap := e0.mod.kin.keeps fun b o e => (e0.bs b o e).1
  have nl : s.heap.NoLimit := e0.mod.nolimit.keeps fun b o e => (e0.bs b o e).1
  have kinds : ∀ y ∈ ps.zip us, scope.names.lookup y.1 = some .local ∨ (scope.names.lookup y.1 = some .cell ∧ ((cellsFrom (s.heap.objs.size + 1) scope.names []).lookup y.1).isSome = true) := fun y hy =>
    (S.par y.1 (List.of_mem_zip hy).1).elim .inl fun q => .inr ⟨q, PySem.W.cellsFrom_some _ _ _ (.inl q)⟩
  refine codeAny_call_function hr.depth (KI _ _ lk) rfl S.co S.gen rfl (PySem.W.codeRec_of KI hcd) (hb _ _ _ _ (wpAny_newFunctionEnv_cells S.kind kinds fun env he s1 x => ?_))
  subst he
  refine ⟨nl.keeps x.toInCall.keep, codeAny_func ?_⟩
  obtain ⟨t, ht, hq⟩ := hbody cdv A outer s H vs Q E (hr.deeper _) hg hsp
  have I0 : Inv (cxOf cx P w K mg base N qual scope f cdv A outer s H E) [] (L2.start N vs) H s1 := inv_start S hr.hd e0 hl r x
  refine wpAny_mono (ht.run [] s1 (L2.start N vs) H _ I0 hq) (fun fl s' hs => ?_) fun e s' hs => hs
  cases fl with
  | ret u => exact let ⟨v, σ', H', J, rv, q⟩ := hs; ⟨v, H', J.os, J.bare, J.base, J.hok, rv, q⟩
  | next => exact let ⟨σ', H', J, q⟩ := hs; ⟨.non, H', J.os, J.bare, J.base, J.hok, rfl, q⟩
  | brk => exact let ⟨_, _, _, q⟩ := hs; False.elim q
  | cont => exact let ⟨_, _, _, q⟩ := hs; False.elim q
/-- a law's def is called: what the head wants -/
theorem law_callG {P : Program} {w : World} {K : PySem.W.Frag} {mg mb : Str → Option Value} {cx : CXT} {lv : Nat} {fa a : Addr} {fd : FuncData} {x : Str} {sp : Sp} {s1 : Shared} {vs : List Value} {ns : List Int} (KI : K.In s1.heap) (hmg : s1.heap.Ns mainGlobals mg) (hmb : s1.heap.Ns builtinsNs mb)
    (hbb : ∀ x : Str, x ≠ "__name__" → mb x = bootBuiltins x) (nl : s1.heap.NoLimit) (hg : s1.gens = #[]) (ha : s1.heap.get? a = some { cls := .type "list", data := .seq vs.toArray }) (hi : IntsAre vs ns) (hl : ns.length ≤ sizeLine) (hr : Room lv callerA)
    (F : ∀ base : Heap, K.In base → base.Ns mainGlobals mg → FnG P w K mg base cx lv fa fd [x] sp) (hbind : ∀ (s : Shared) (u : Value), BindsTo s fd ⟨[u], []⟩ [(x, u)]) (hsp : ∀ H : Hp, LstAt K H a (ns.map V.int) → sp [.ref a] H (fun v _ => v = .bl true) fun _ _ _ => False)
    (hcx : ∀ H e s', cx [] H s1 (fun _ _ _ => False) e s' → False) :
    codeAny (model P w) callerA (.call (.ref fa) ⟨[.ref a], []⟩) (fun r s' => r = .ok (.ret (.bool true)) ∧ OldK s1.heap s'.heap ∧ s'.os = s1.os ∧ AllBare s'.gens) s1 := by
  have rv := vals_ints hi
  have lv' := hi.length
  -- whatever is told at the start: nothing, or the script, known to the object
  have main : ∀ H : Hp, (∀ b u, H b = some u → b = a ∧ K.lookup a = none ∧ ∃ o xs, u = .frz o (.lst xs)) → LstAt K H a (ns.map V.int) → HOk P w H s1.heap →
      codeAny (model P w) callerA (.call (.ref fa) ⟨[.ref a], []⟩) (fun r s' => r = .ok (.ret (.bool true)) ∧ OldK s1.heap s'.heap ∧ s'.os = s1.os ∧ AllBare s'.gens) s1 := by
    intro H only hL ok
    have under : ∀ {b : Addr} {o : Obj}, s1.heap.get? b = some o → H b = none → (hidT s1.heap H).get? b = some o := fun e n => hidT_get e n
    have noDict : ∀ {b : Addr} {o : Obj} {es : Array DictEntry} {ep : Nat}, s1.heap.get? b = some o → o.data = .dict es ep → H b = none := fun {b o es ep} e d => by
      cases q : H b with
      | none => rfl
      | some u =>
        obtain ⟨rfl, _⟩ := only b u q
        rw [ha] at e
        cases e
        cases (show Data.seq vs.toArray _ = Data.dict es ep from d)
    have ns' : ∀ {b : Addr} {m : Str → Option Value}, s1.heap.Ns b m → (hidT s1.heap H).Ns b m := fun ⟨o, es, ep, e, d, r⟩ => ⟨o, es, ep, under e (noDict e d), d, r⟩
    have KB : K.In (hidT s1.heap H) := fun b o e => under (KI b o e) (by
      cases q : H b with
      | none => rfl
      | some u =>
        obtain ⟨rfl, n, _⟩ := only b u q
        rw [n] at e
        cases e)
    have hM : Mod K mg (hidT s1.heap H) := ⟨KB, ns' hmg, ⟨mb, ns' hmb, hbb⟩, let ⟨mc, h1, h2⟩ := nl; ⟨mc, ns' h1, h2⟩⟩
    have e0 : Env0 P w K mg (hidT s1.heap H) callerA [] s1 H := ⟨rfl, hM, fun b o e => of_hidT e, Nat.le_of_eq (hidT_size _ _), trivial, fun b hb => (List.not_mem_nil (show b ∈ ([] : List Addr) from hb)).elim, ok, .of_eq hg⟩
    refine codeAny_mono ((F _ KB (ns' hmg)).run callerA [] s1 H ⟨[.ref a], []⟩ [.ref a] [.ref a] _ _ hr rfl e0 (hbind s1 (.ref a)) (.cons rfl .nil) (hsp H hL)) fun r s' h => ?_
    cases r with
    | error e => exact (hcx H e s' h).elim
    | ok fl =>
      cases fl with
      | next => exact False.elim h
      | brk => exact False.elim h
      | cont => exact False.elim h
      | ret u =>
        obtain ⟨v, H', os, bare, un, ok', r', q⟩ := h
        obtain rfl : v = .bl true := q
        obtain rfl : u = Value.bool true := r'
        refine ⟨rfl, OldK.of_keep fun b o e => ?_, os, bare⟩
        cases q : H b with
        | none => exact un.keep b o e q (fun z => List.not_mem_nil (show b ∈ ([] : List Addr) from z)) (by simp)
        | some u =>
          obtain ⟨_, _, ob, xs, rfl⟩ := only b u q
          obtain ⟨e1, _⟩ := ok b _ q
          obtain ⟨e2, _⟩ := ok' b _ (un.frzs b ob _ q)
          rw [e] at e1
          cases e1
          exact e2
  cases hk : K.lookup a with
  | some o =>
    have e := KI a o hk
    rw [ha] at e
    cases e
    exact main (fun _ => none) (fun b u z => by cases z) (.inr ⟨vs, hk, rv, by simpa using hl⟩) fun b u z => by cases z
  | none =>
    refine main (fun b => if b = a then some (.frz { cls := .type "list", data := .seq vs.toArray } (.lst (ns.map V.int))) else none) (fun b u z => ?_) (.inl (.inr ⟨_, if_pos rfl⟩)) fun b u z => ?_
    all_goals
      by_cases hb : b = a
      · have z' := (if_pos hb).symm.trans z
        cases z'
        first
          | exact ⟨hb, hk, _, _, rfl⟩
          | (subst hb; exact ⟨ha, by rw [List.length_map]; exact hl, vs, _, rv, ha⟩)
      · cases (if_neg hb).symm.trans z
end Cr


/-! Cr12: attributes, calls. -/
namespace Cr
open PySem PySem.Spec PyProof.Rows L2

/-! ### what of the text is looked at -/
def notStar : Expr → Bool
  | .Starred _ _ => false
  | _ => true
def notSuper : Expr → Bool
  | .Call (.Name id _) [] [] _ => id != "super"
  | _ => true
theorem base_of {e : Expr} (h : notSuper e = true) (f : Str) (env : PySem.Env) (w : Sem Value) : attributeBase e f env w = w := by
  unfold attributeBase
  split
  · rename_i id p pos
    have h' : (id != "super") = true := h
    simp only [h', Bool.true_or, if_true]
  · rfl
theorem star_cons {e : Expr} {es : List Expr} {env : PySem.Env} (h : notStar e = true) : starEach (e :: es) env = (false, eval e env) :: starEach es env := by
  cases e <;> first | rfl | (exfalso; exact Bool.false_ne_true h)
theorem star_all {env : PySem.Env} {pos : Pos} : ∀ {es : List Expr}, es.all notStar = true → (backTo pos (starEach es env)).any (·.1) = false ∧ (backTo pos (starEach es env)).all (fun x => !x.1) = true ∧ (backTo pos (starEach es env)).length = es.length
  | [], _ => ⟨rfl, rfl, rfl⟩
  | e :: es, h => by
    have h2 : notStar e = true ∧ es.all notStar = true := by simpa using h
    obtain ⟨a, b, c⟩ := star_all (env := env) (pos := pos) h2.2
    rw [star_cons h2.1]
    refine ⟨?_, ?_, ?_⟩
    · show (false || (backTo pos (starEach es env)).any (·.1)) = false
      rw [a]; rfl
    · show (true && (backTo pos (starEach es env)).all (fun x => !x.1)) = true
      rw [b]; rfl
    · show (backTo pos (starEach es env)).length + 1 = _
      rw [c]; rfl

/-! ### the world of a program -/
structure Wo where
  fa : Nat → Addr
  fd : Nat → FuncData
  ps : Nat → List Str
/-- a def's promise, by what a call asks -/
def spC (K : PySem.W.Frag) (G : Prog) (nm : Nm) (call : Nat → List A → Store → KA → KX → Prop) (i : Nat) : Sp := fun vs H Q E => ∃ Z μ as Kp Ek, HSim K G nm Z μ H ∧ AReps K G nm Z vs as ∧ call i as μ Kp Ek ∧ (∀ a μ', Kp a μ' → FinA K G nm Z Q a μ') ∧
  ∀ c v μ', Ek c v μ' → ∀ H' Z' cls d, Same Z Z' → HSim K G nm Z' μ' H' → ExRep K G nm Z' H' cls d c v → E cls d H'
/-- how a def binds values, then keywords in the parameters' order -/
def BindsK (fd : FuncData) (ps : List Str) : Prop := ∀ (s : Shared) (us ws : List Value), (us ++ ws).length = ps.length → BindsTo s fd ⟨us, (ps.drop us.length).zip ws⟩ (ps.zip (us ++ ws))
/-- what the classes are -/
structure ClsOk (K : PySem.W.Frag) (G : Prog) (nm : Nm) (Wd : Wo) : Prop where
  cls : ∀ c ci, G.cls[c]? = some ci → Cls K (ca K nm c)
  fld : ∀ c ci f i x, G.cls[c]? = some ci → idxN f ci.fields = some i → lookN f ci.props = none → nm.attr[f]? = some x → NoAttr K (ca K nm c) x
  prop : ∀ c ci f g x, G.cls[c]? = some ci → lookN f ci.props = some g → nm.attr[f]? = some x → g < G.fns.length ∧ ∃ p, PropOf K (ca K nm c) x p (Wd.fa g)
  meth : ∀ c ci m g x, G.cls[c]? = some ci → lookN m ci.meths = some g → nm.attr[m]? = some x → g < G.fns.length ∧ Meth K (ca K nm c) x (Wd.fa g) ∧ x ∉ fns G nm c
  init : ∀ c ci g, G.cls[c]? = some ci → ci.init = some g → g < G.fns.length ∧ Mk K (ca K nm c) (Wd.fa g)
/-- what the defs promise, at a level -/
def FnsOk (P : Program) (w : World) (K : PySem.W.Frag) (mg : Str → Option Value) (base : Heap) (G : Prog) (nm : Nm) (Wd : Wo) (call : Nat → List A → Store → KA → KX → Prop) (lv : Nat) : Prop :=
  ∀ i, i < G.fns.length → FnG P w K mg base (L2.CX P w) lv (Wd.fa i) (Wd.fd i) (Wd.ps i) (spC K G nm call i) ∧ Binds K (Wd.fd i) (Wd.ps i) [] ∧ BindsK (Wd.fd i) (Wd.ps i)
structure Sig (X : Cx) (G : Prog) (nm : Nm) (Wd : Wo) (W : WX) (call : Nat → List A → Store → KA → KX → Prop) (lv : Nat) : Prop where
  c : ClsOk X.K G nm Wd
  f : FnsOk X.prog X.w X.K X.mg X.base G nm Wd call lv
  r : Room (lv + 1) X.A
  tk : Takes X W
  g : X.A.guards = some []

section
variable {X : Cx} {G : Prog} {nm : Nm} {Wd : Wo} {lv : Nat} {W : WX} {call : Nat → List A → Store → KA → KX → Prop} {Z H : Hp} {μ : Store} {pins : List (Addr × Obj)} {σ : L2.St} {s : Shared}
theorem fns_of {c : Nat} {ci : CInfo} (e : G.cls[c]? = some ci) : fns G nm c = ci.fields.map fun f => nm.attr.getD f Str.empty := by
  unfold fns
  rw [List.getD_eq_getElem?_getD, e]; rfl
theorem idx_get : ∀ {f i : Nat} {l : List Nat}, idxN f l = some i → l[i]? = some f
  | f, i, [], h => by simp [idxN] at h
  | f, i, a :: r, h => by
    unfold idxN at h
    split at h
    · rename_i e; cases h; simp [e]
    · cases q : idxN f r with
      | none => rw [q] at h; cases h
      | some j => rw [q] at h; cases h; simpa using idx_get q
/-- an own object, told or a cell -/
theorem obj_of (hs : HSim X.K G nm Z μ H) {v : V} {x : A} {c : Nat} (r : ARep X.K G nm Z v x) (h : clsOf μ x = some c) : ∃ a dx fs, v = .ref a ∧ H a = some (.ins (ca X.K nm c) dx fs) ∧ fs.length ≤ 900 ∧ (∀ m, m ∉ Cr.fns G nm c → fs.lookup m = none) ∧
    ∀ i x' v', (Cr.fns G nm c)[i]? = some x' → fldOf μ i x = some v' → ∃ w, fs.lookup x' = some w ∧ ARep X.K G nm Z w v' := by
  cases r with
  | d r =>
    cases r <;> simp [clsOf] at h
    rename_i a c' dx fs ws vs e fl rr
    subst h
    refine ⟨a, dx, fs, rfl, hs.z _ _ e, fl.len, fl.out, fun i x' v' hi hf => ?_⟩
    simp only [fldOf] at hf
    cases q : vs[i]? with
    | none => rw [q] at hf; cases hf
    | some d =>
      rw [q] at hf
      cases hf
      obtain ⟨w, e1, e2⟩ := rr.get q
      have := fl.get i x' hi
      rw [List.getElem?_map, e1] at this
      exact ⟨w, this, .d e2⟩
  | ptr n =>
    simp only [clsOf] at h
    cases e : μ n with
    | none => rw [e] at h; cases h
    | some cl =>
      have q := hs.cells n cl e
      cases cl with
      | lst xs => rw [e] at h; cases h
      | dct ks vs => rw [e] at h; cases h
      | lsA xs => rw [e] at h; cases h
      | dcT ks vs => rw [e] at h; cases h
      | lok o0 kvs0 ks vs => rw [e] at h; cases h
      | obj c' fs' =>
        rw [e] at h
        cases h
        obtain ⟨dx, l, ws, q1, fl, q3⟩ := q
        refine ⟨n, dx, l, rfl, q1, fl.len, fl.out, fun i x' v' hi hf => ?_⟩
        simp only [fldOf, e] at hf
        split at hf
        · rename_i a e3
          cases hf
          have get : ∀ {ws : List (Option V)} {fs : List (Option A)} {i : Nat} {y : Option A}, Paired (OptRep X.K G nm Z) ws fs → fs[i]? = some y → ∃ z, ws[i]? = some z ∧ OptRep X.K G nm Z z y := by
            intro ws fs i y p
            induction p generalizing i with
            | nil => intro z; simp at z
            | cons r t ih => intro z; cases i with
              | zero => simp at z; subst z; exact ⟨_, rfl, r⟩
              | succ i => exact ih (by simpa using z)
          obtain ⟨z, e4, e5⟩ := get q3 e3
          cases z with
          | none => exact e5.elim
          | some w =>
            have := fl.get i x' hi
            rw [e4] at this
            exact ⟨w, this, e5⟩
        · cases hf
theorem passNo {X : Cx} : Passes (L2.CX X.prog X.w) X.nox (fun _ _ _ => False) := fun _ _ _ _ _ _ _ c => by
  obtain ⟨a, B, H', cls, d, _, _, _, _, _, _, _, q⟩ := c
  exact q.elim
/-- e.f: a field, a property -/
theorem e_attr {e : Expr} {e' : CE} {fi : Nat} {f : Str} {pos : Pos} (S : Sig X G nm Wd W call lv) (he : PE X e (TE' X G nm W call e')) (hx : nm.attr[fi]? = some f) (hb : notSuper e = true) : PE X (.Attribute e f pos) (TE' X G nm W call (.attr e' fi)) := by
  refine ⟨fun pins s σ H Q I ⟨Z, μ, ρ, Kp, E, hs, b, w, k⟩ => ?_⟩
  rw [wpE] at w
  refine attr_of (base_of hb _ _ _) (thn (he.run pins s σ H (fun v H1 => ∃ Z1 μ1 x, Same Z Z1 ∧ HSim X.K G nm Z1 μ1 H1 ∧ ARep X.K G nm Z1 v x ∧ getAttr G call x fi μ1 Kp E) I
    (td_to hs b w fun x μ1 w1 v1 H1 Z1 st1 hs1 b1 r1 => ⟨Z1, μ1, x, st1, hs1, r1, w1⟩)) fun u s1 ⟨v, H1, I1, rv, Z1, μ1, x, st1, hs1, r1, q⟩ => ?_)
  unfold Cr.getAttr at q
  split at q
  · exact q.elim
  rename_i c ec
  split at q
  · exact q.elim
  rename_i ci eci
  obtain ⟨a, dx, fs, rfl, ea, _, _, hf⟩ := obj_of hs1 r1 ec
  obtain rfl : u = Value.ref a := rv
  split at q
  · rename_i g eg
    obtain ⟨hg, p, hp⟩ := S.c.prop c ci fi g f eci eg hx
    obtain ⟨F, bd, _⟩ := S.f g hg
    exact prop_runG I1 ea (S.c.cls c ci eci) hp F S.r S.g bd
      ⟨Z1, μ1, [x], Kp, _, hs1, .cons r1 .nil, q, fun a μ' ka => (k a μ' ka).same st1, fun _ _ _ z => z.elim⟩
  · rename_i en
    split at q
    · exact q.elim
    rename_i i ei
    split at q
    · rename_i v' ev
      obtain ⟨w', e1, rw'⟩ := hf i f v' (by rw [fns_of eci, List.getElem?_map, idx_get ei]; simp [List.getD_eq_getElem?_getD, hx]) ev
      exact getattr_ok I1 ea (S.c.cls c ci eci) (S.c.fld c ci fi i f eci ei en hx) e1 fun u' s2 I2 ru => ⟨w', H1, I2, ru, k _ _ q _ _ _ st1 hs1 rw'⟩
    · exact q.elim

/-! ### calls of defs -/
theorem sp_of {i : Nat} {vs : List V} {as : List A} {Kp : KA} {E : KX} {Q : VK} {ρ : Cr.Env} (hs : HSim X.K G nm Z μ H) (b : Bun X.K G nm W σ Z ρ E) (r : AReps X.K G nm Z vs as) (w : call i as μ Kp E) (k : ∀ a μ', Kp a μ' → FinA X.K G nm Z Q a μ') : spC X.K G nm call i vs H Q (WE W σ) :=
  ⟨Z, μ, as, Kp, E, hs, r, w, k, fun c v μ' e H' Z' cls d st hs' er => b.ex c v μ' e H' Z' cls d st hs' er⟩
theorem e_call0 {i : Nat} {x : Str} {p pos : Pos} (S : Sig X G nm Wd W call lv) (hi : i < G.fns.length) (hg : Gl X x) (hm : X.mg x = some (.ref (Wd.fa i))) (hk : PySem.W.keepIn X.K (.ref (Wd.fa i)) = true) (hdb : (x == ("__debug__" : Str)) = false) :
    PE X (.Call (.Name x p) [] [] pos) (TE' X G nm W call (.call i .nil)) := by
  obtain ⟨F, bd, _⟩ := S.f i hi
  refine ⟨fun pins s σ H Q I ⟨Z, μ, ρ, Kp, E, hs, b, w, k⟩ => ?_⟩
  rw [wpE, wpEs] at w
  refine wpAny_Call_Name_kw (ld_glob I hg hm ?_ hdb)
  exact PySem.W.callWith_K0 I.kIn hk (run_fnG (us := []) F (S.r.mono (Nat.le_succ _)) S.g bd (passAt S.tk σ) I .nil (sp_of hs b .nil w k))
/-- what the arguments leave -/
abbrev ArgQ (X : Cx) (G : Prog) (nm : Nm) (W : WX) (σ : L2.St) (Z : Hp) (ρ : Cr.Env) (E : KX) (R : List A → Store → Prop) : List V → Hp → Prop := fun vs H1 => ∃ Z1 μ1 as, Same Z Z1 ∧ HSim X.K G nm Z1 μ1 H1 ∧ Bun X.K G nm W σ Z1 ρ E ∧ AReps X.K G nm Z1 vs as ∧ R as μ1
theorem args_run {es : List Expr} {es' : CEs} {pos : Pos} {ρ : Cr.Env} {E : KX} {R : List A → Store → Prop} (ha : PA X es (TA' X G nm W call es')) (I : Inv X pins σ H s) (hs : HSim X.K G nm Z μ H) (b : Bun X.K G nm W σ Z ρ E) (w : wpEs G call es' ρ μ R E) :
    wpAny (model X.prog X.w) X.A (spliced (backTo pos (starEach es X.env))) (AP X pins σ (ArgQ X G nm W σ Z ρ E R)) X.xe s :=
  ha.run pos pins s σ H _ I (tda_to hs b w fun as μ1 w1 vs H1 Z1 st1 hs1 b1 r1 => ⟨Z1, μ1, as, st1, hs1, b1, r1, w1⟩)
theorem e_call {i : Nat} {x : Str} {e : Expr} {es : List Expr} {es' : CEs} {p pos : Pos} (S : Sig X G nm Wd W call lv) (hi : i < G.fns.length) (hg : Gl X x) (hm : X.mg x = some (.ref (Wd.fa i))) (hk : PySem.W.keepIn X.K (.ref (Wd.fa i)) = true) (hdb : (x == ("__debug__" : Str)) = false)
    (h1 : notStar e = true) (h2 : es.all notStar = true) (ha : PA X (e :: es) (TA' X G nm W call es')) : PE X (.Call (.Name x p) (e :: es) [] pos) (TE' X G nm W call (.call i es')) := by
  obtain ⟨F, bd, _⟩ := S.f i hi
  refine ⟨fun pins s σ H Q I ⟨Z, μ, ρ, Kp, E, hs, b, w, k⟩ => ?_⟩
  rw [wpE] at w
  refine wpAny_Call_Name_kw (ld_glob I hg hm ?_ hdb)
  refine PySem.W.callWith_K (h₀ := X.base) I.ok.mod.kin hk (thn (args_run ha I hs b w) fun us s1 ⟨vs, H1, I1, r, Z1, μ1, as, st1, hs1, b1, r1, w1⟩ => ⟨I1.kIn, ?_⟩) (star_cons h1) (star_all h2).1
  exact run_fnG F (S.r.mono (Nat.le_succ _)) S.g bd (passAt S.tk σ) I1 r (sp_of hs1 b1 r1 w1 fun a μ' ka => (k a μ' ka).same st1)

/-! ### keywords -/
theorem PK.of' {es : List Keyword} {t t' : L2.TA} (h : PK X es t) (m : ∀ σ H Q, t' σ H Q → t σ H Q) : PK X es t' := ⟨fun p pins s σ H Q I q => h.run p pins s σ H Q I (m _ _ _ q)⟩
theorem k_nil : PK X [] (TA' X G nm W call .nil) := PK.of' pk_nil fun σ H Q ⟨Z, μ, ρ, Kp, E, hs, b, w, k⟩ => by
  rw [wpEs] at w
  exact k _ _ w _ _ _ same_refl hs .nil
theorem k_cons {e : Expr} {es : List Keyword} {e' : CE} {es' : CEs} {o : Option Str} {kp : Pos} (he : PE X e (TE' X G nm W call e')) (hr : PK X es (TA' X G nm W call es')) : PK X (⟨o, e, kp⟩ :: es) (TA' X G nm W call (.cons e' es')) := by
  refine PK.of' (pk_cons he hr) fun σ H Q ⟨Z, μ, ρ, Kp, E, hs, b, w, k⟩ => ?_
  rw [wpEs] at w
  exact td_to hs b w fun x μ1 w1 v1 H1 Z1 st1 hs1 b1 r1 => tda_to hs1 b1 w1 fun as μ2 w2 vs H2 Z2 st2 hs2 b2 r2 => k _ _ w2 _ _ _ (Cr.Same.tr st1 st2) hs2 (.cons (r1.same st2) r2)
theorem kw_all {env : PySem.Env} {pos : Pos} : ∀ {ks : List Keyword}, (ks.all fun k => k.arg.isSome) = true → (backToKw pos (keywordEach ks env)).all (·.1.isSome) = true ∧ (backToKw pos (keywordEach ks env)).any (·.1.isNone) = false ∧ (backToKw pos (keywordEach ks env)).filterMap (·.1) = ks.filterMap (·.arg)
  | [], _ => ⟨rfl, rfl, rfl⟩
  | ⟨a, v, p⟩ :: ks, h => by
    have h2 : a.isSome = true ∧ (ks.all fun k => k.arg.isSome) = true := by simpa using h
    obtain ⟨i1, i2, i3⟩ := kw_all (env := env) (pos := pos) h2.2
    cases a with
    | none => cases h2.1
    | some a =>
      refine ⟨?_, ?_, ?_⟩
      · show (true && (backToKw pos (keywordEach ks env)).all (·.1.isSome)) = true
        rw [i1]; rfl
      · show (false || (backToKw pos (keywordEach ks env)).any (·.1.isNone)) = false
        rw [i2]; rfl
      · show a :: (backToKw pos (keywordEach ks env)).filterMap (·.1) = a :: ks.filterMap (·.arg)
        rw [i3]
theorem areps_app {vs ws : List V} {as bs : List A} (r : AReps X.K G nm Z vs as) (q : AReps X.K G nm Z ws bs) : AReps X.K G nm Z (vs ++ ws) (as ++ bs) := areps_append r q
theorem run_fnK {k : Nat} {f : Addr} {fd : FuncData} {ps ks : List Str} {sp : Sp} {E : L2.St → XK} {Q : VK} {us ws : List Value} {vs zs : List V} (hg : X.A.guards = some []) (F : FnG X.prog X.w X.K X.mg X.base (L2.CX X.prog X.w) k f fd ps sp) (hr : Room k X.A) (hb : BindsK fd ps) (hk : ks = ps.drop us.length)
    (hx : PassesAt (L2.CX X.prog X.w) X σ (E σ)) (I : Inv X pins σ H s) (r : Vals vs us) (rz : Vals zs ws) (h : sp (vs ++ zs) H Q (E σ)) : wpAny (model X.prog X.w) X.A (PySem.call (.ref f) us (ks.zip ws)) (EP X pins σ Q) X.xe s := by
  have r2 := r.append rz
  have hl : (us ++ ws).length = ps.length := by rw [← r2.length]; exact F.len _ _ _ _ h
  subst hk
  refine wpAny_call (codeAny_mono (F.run X.A X.stack s H ⟨us, (ps.drop us.length).zip ws⟩ (us ++ ws) (vs ++ zs) Q (E σ) hr hg I.env0 (hb s us ws hl) r2 h) fun r s' hq => ?_)
  cases r with
  | error e => exact hx pins H s e s' I hq
  | ok fl =>
    cases fl with
    | ret u => exact I.after hq
    | next => exact False.elim hq
    | brk => exact False.elim hq
    | cont => exact False.elim hq
theorem e_callK {i : Nat} {x : Str} {es : List Expr} {kws : List Keyword} {es' ks' : CEs} {p pos : Pos} (S : Sig X G nm Wd W call lv) (hi : i < G.fns.length) (hg : Gl X x) (hm : X.mg x = some (.ref (Wd.fa i))) (hk : PySem.W.keepIn X.K (.ref (Wd.fa i)) = true) (hdb : (x == ("__debug__" : Str)) = false)
    (h2 : es.all notStar = true) (hka : (kws.all fun k => k.arg.isSome) = true) (hks : kws.filterMap (·.arg) = (Wd.ps i).drop es.length) (ha : PA X es (TA' X G nm W call es')) (h0 : es = [] → es' = .nil) (hkw : PK X kws (TA' X G nm W call ks')) :
    PE X (.Call (.Name x p) es kws pos) (TE' X G nm W call (.callK i es.length es' ks')) := by
  obtain ⟨F, _, bk⟩ := S.f i hi
  refine ⟨fun pins s σ H Q I ⟨Z, μ, ρ, Kp, E, hs, b, w, k⟩ => ?_⟩
  rw [wpE] at w
  obtain ⟨q1, q2, q3⟩ := kw_all (env := X.env) (pos := pos) hka
  refine wpAny_Call_Name_kw (ld_glob I hg hm ?_ hdb)
  have go : ∀ {us : List Value} {s1 : Shared} {vs : List V} {H1 Z1 : Hp} {μ1 : Store} {as : List A}, us.length = es.length → Inv X pins σ H1 s1 → Vals vs us → Same Z Z1 → HSim X.K G nm Z1 μ1 H1 → Bun X.K G nm W σ Z1 ρ E → AReps X.K G nm Z1 vs as → wpEs G call ks' ρ μ1 (fun bs μ2 => call i (as ++ bs) μ2 Kp E) E →
      wpAny (model X.prog X.w) X.A (evalAll ((backToKw pos (keywordEach kws X.env)).map (·.2))) (fun ws s2 => X.K.In s2.heap ∧ wpAny (model X.prog X.w) X.A (PySem.call (.ref (Wd.fa i)) us (((backToKw pos (keywordEach kws X.env)).filterMap (·.1)).zip ws)) (EP X pins σ Q) X.xe s2) X.xe s1 := by
    intro us s1 vs H1 Z1 μ1 as hul I1 r st1 hs1 b1 r1 w1
    refine thn (hkw.run pos pins s1 σ H1 (ArgQ X G nm W σ Z1 ρ E (fun bs μ2 => call i (as ++ bs) μ2 Kp E)) I1 (tda_to hs1 b1 w1 fun bs μ2 w2 zs H2 Z2 st2 hs2 b2 r2 => ⟨Z2, μ2, bs, st2, hs2, b2, r2, w2⟩)) fun ws s2 ⟨zs, H2, I2, rz, Z2, μ2, bs, st2, hs2, b2, r2, w2⟩ => ⟨I2.kIn, ?_⟩
    rw [q3]
    exact run_fnK S.g F (S.r.mono (Nat.le_succ _)) bk (by rw [hks, hul]) (passAt S.tk σ) I2 r rz (sp_of hs2 b2 (areps_app (AReps.same st2 r1) r2) w2 fun a μ' ka => (k a μ' ka).same (Cr.Same.tr st1 st2))
  cases es with
  | nil =>
    cases h0 rfl
    rw [wpEs] at w
    exact PySem.W.callWith_KW0 (h₀ := X.base) I.ok.mod.kin hk q1 (go (us := []) rfl I .nil same_refl hs b .nil w.2) (by rw [q2]; rfl)
  | cons e es =>
    have h3 : notStar e = true ∧ es.all notStar = true := by simpa using h2
    refine PySem.W.callWith_KW (h₀ := X.base) I.ok.mod.kin hk q1 (thn (args_run ha I hs b w) fun us s1 ⟨vs, H1, I1, r, Z1, μ1, as, st1, hs1, b1, r1, hal, w1⟩ => ?_) (by rw [(star_all (env := X.env) (pos := pos) h2).1, q2]; rfl) (star_cons h3.1)
    refine go ?_ I1 r st1 hs1 b1 r1 w1
    show us.length = _
    rw [← r.length, r1.length, hal]

/-! ### methods -/
theorem method_gen {M : Model} {A : Around} {E : Value → Shared → Prop} {o : Expr} {name : Str} {apos pos : Pos} {args : List Expr} {env : PySem.Env} {Q : Value → Shared → Prop} (hb : notSuper o = true) (h2 : args.all notStar = true) (hn : args.length < 20) (hline : (apos.endLine == pos.line) = true)
    (h : wpAny M A (eval o env) (fun ov s₁ => wpAny M A (getMethod ov name (do return (← importBound o env).getD true)) (fun fx s₂ => wpAny M A (callWith pos fx.1 fx.2 (backTo pos (starEach args env)) []) Q E s₂) E s₁) E s) :
    wpAny M A (eval (.Call (.Attribute o name apos) args [] pos) env) Q E s := by
  have hfew : methodCallForm (args.length + ([] : List Keyword).length) (backTo pos (starEach args env)) (backToKw pos (keywordEach [] env)) = true := by
    unfold methodCallForm
    rw [(star_all h2).2.1]
    simp [keywordEach, backToKw]
    omega
  have hpos : methodCallPos true o env apos pos = pure pos := by unfold methodCallPos; simp [hline]
  have hcal : ∀ ov, calleeOf true o env ov name = getMethod ov name (do return (← importBound o env).getD true) := fun _ => rfl
  rw [arm_eval_Call, base_of hb]
  refine wpAny_bind (wpAny_mono h (fun ov s₁ h₁ => wpAny_bind (wpAny_standAt ?_)) fun _ _ x => x)
  unfold methodCall
  rw [hfew, hcal, hpos]
  refine wpAny_bind (wpAny_holding (wpAny_mono h₁ (fun fx s₂ h₂ => ?_) fun _ _ x => x))
  exact wpAny_bind (wpAny_pure h₂)
theorem e_meth {mi : Nat} {m : Str} {o : Expr} {o' : CE} {es : List Expr} {es' : CEs} {apos pos : Pos} (S : Sig X G nm Wd W call lv) (hx : nm.attr[mi]? = some m) (ho : PE X o (TE' X G nm W call o')) (hb : notSuper o = true)
    (h2 : es.all notStar = true) (hn : es.length < 20) (hline : (apos.endLine == pos.line) = true) (ha : PA X es (TA' X G nm W call es')) (h0 : es = [] → es' = .nil) : PE X (.Call (.Attribute o m apos) es [] pos) (TE' X G nm W call (.meth o' mi es')) := by
  refine ⟨fun pins s σ H Q I ⟨Z, μ, ρ, Kp, E, hs, b, w, k⟩ => ?_⟩
  rw [wpE] at w
  refine method_gen hb h2 hn hline (thn (ho.run pins s σ H (fun v H1 => ∃ Z1 μ1 x g, Same Z Z1 ∧ HSim X.K G nm Z1 μ1 H1 ∧ Bun X.K G nm W σ Z1 ρ E ∧ ARep X.K G nm Z1 v x ∧ methOf G μ1 x mi = some g ∧ wpEs G call es' ρ μ1 (fun as μ2 => call g (x :: as) μ2 Kp E) E) I
    (td_to hs b w fun x μ1 w1 v1 H1 Z1 st1 hs1 b1 r1 => ?_)) fun u s1 ⟨v, H1, I1, rv, Z1, μ1, x, g, st1, hs1, b1, r1, eg, q⟩ => ?_)
  · split at w1
    · exact w1.elim
    · rename_i g eg
      exact ⟨Z1, μ1, x, g, st1, hs1, b1, r1, eg, w1⟩
  unfold methOf at eg
  split at eg
  · cases eg
  rename_i c ec
  split at eg
  · cases eg
  rename_i ci eci
  obtain ⟨a, dx, fs, rfl, ea, _, out, _⟩ := obj_of hs1 r1 ec
  obtain rfl : u = Value.ref a := rv
  obtain ⟨hg, M, ho'⟩ := S.c.meth c ci mi g m eci eg hx
  obtain ⟨F, bd, _⟩ := S.f g hg
  refine getmeth_ok I1 ea (S.c.cls c ci eci) M (out m ho') ?_
  cases es with
  | nil =>
    cases h0 rfl
    rw [wpEs] at q
    exact PySem.W.callWith_K0 (first := [.ref a]) I1.kIn M.kp (run_fnG (us := [.ref a]) (vs := [.ref a]) F (S.r.mono (Nat.le_succ _)) S.g bd (passAt S.tk σ) I1 (.cons rfl .nil) (sp_of hs1 b1 (.cons r1 .nil) q fun a μ' ka => (k a μ' ka).same st1))
  | cons e es =>
    have h3 : notStar e = true ∧ es.all notStar = true := by simpa using h2
    refine PySem.W.callWith_K (first := [.ref a]) (h₀ := X.base) I1.ok.mod.kin M.kp (thn (args_run ha I1 hs1 b1 q) fun us s2 ⟨vs, H2, I2, r, Z2, μ2, as, st2, hs2, b2, r2, w2⟩ => ⟨I2.kIn, ?_⟩) (star_cons h3.1) (star_all h3.2).1
    exact run_fnG (us := .ref a :: us) (vs := .ref a :: vs) F (S.r.mono (Nat.le_succ _)) S.g bd (passAt S.tk σ) I2 (.cons rfl r) (sp_of hs2 b2 (.cons (r1.same st2) r2) w2 fun a μ' ka => (k a μ' ka).same (Cr.Same.tr st1 st2))

/-! ### new objects -/
theorem fldsAt_new {c : Nat} (nd : (Cr.fns G nm c).Nodup ∧ (Cr.fns G nm c).length ≤ 900) (n : Nat) (hn : n = (Cr.fns G nm c).length) : FldsAt (Cr.fns G nm c) [] (List.replicate n none) := by
  subst hn
  refine ⟨⟨by simp, by simp, nd.2⟩, nd.1, by simp, fun i x h => ?_, fun _ _ => rfl⟩
  have hi : i < (Cr.fns G nm c).length := (List.getElem?_eq_some_iff.mp h).1
  rw [List.getElem?_replicate, if_pos hi]
  rfl
theorem optReps_new : ∀ (n : Nat), Paired (OptRep X.K G nm Z) (List.replicate n none) (List.replicate n none)
  | 0 => .nil
  | n + 1 => .cons trivial (optReps_new n)
theorem run_makeS {k : Nat} {C f : Addr} {fd : FuncData} {ps : List Str} {sp : Sp} {E : L2.St → XK} {Q : VK} {us : List Value} {vs : List V} (M : Mk X.K C f) (hg : X.A.guards = some []) (F : FnG X.prog X.w X.K X.mg X.base (L2.CX X.prog X.w) k f fd ps sp) (hr : Room (k + 1) X.A) (hb : Binds X.K fd ps [])
    (hx : PassesAt (L2.CX X.prog X.w) X σ (E σ)) (I : Inv X pins σ H s) (r : Vals vs us)
    (h : ∀ x dx, H x = none → H dx = none → dx ≠ x → sp (.ref x :: vs) (upd (upd H dx (.own x)) x (.ins C dx [])) (fun v H2 => v = .non ∧ Q (.ref x) H2) (E σ)) :
    wpAny (model X.prog X.w) X.A (PySem.call (.ref C) us) (EP X pins σ Q) X.xe s := by
  have hq := h (s.heap.objs.size + 1) s.heap.objs.size (I.hok.fresh (Nat.le_succ _)) (I.hok.fresh (Nat.le_refl _)) (Nat.ne_of_lt (Nat.lt_succ_self _))
  have I2 := Inv.made (C := C) I
  have r2 : Vals (V.ref (s.heap.objs.size + 1) :: vs) (Value.ref (s.heap.objs.size + 1) :: us) := .cons rfl r
  have hl : (Value.ref (s.heap.objs.size + 1) :: us).length = ps.length := by rw [← r2.length]; exact F.len _ _ _ _ hq
  have b := hb { s with heap := (s.heap.push PySem.W.emptyDict).push (PySem.W.instObj C s.heap.objs.size) } (Value.ref (s.heap.objs.size + 1) :: us) I2.kIn (by rw [List.append_nil]; exact hl)
  rw [List.append_nil] at b
  refine wpAny_call (make_map (f := f) I.kIn M.makes M.init (beq_iff_eq.mp M.fn) (codeAny_mono (F.run _ X.stack _ _ ⟨Value.ref (s.heap.objs.size + 1) :: us, []⟩ (Value.ref (s.heap.objs.size + 1) :: us) _ _ (E σ) (hr.make C us []) (guards_make.trans hg)
    (I2.env0.make C us []) b r2 hq) fun r s' hq' => ?_))
  cases r with
  | error e => exact hx pins _ _ e s' I2 hq'
  | ok fl =>
    cases fl with
    | ret u =>
      obtain ⟨v, H', I3, rv, ev, q3⟩ := I2.after hq'
      subst ev
      exact ⟨rv, ⟨V.ref (s.heap.objs.size + 1), H', I3, rfl, q3⟩⟩
    | next => exact False.elim hq'
    | brk => exact False.elim hq'
    | cont => exact False.elim hq'
theorem nonA {X : Cx} {G : Prog} {nm : Nm} {Z : Hp} {Q : VK} {a : A} {v : V} (h : isNonA a) (r : ARep X.K G nm Z v a) : v = .non := by
  cases a with
  | ptr n => exact h.elim
  | d x => cases x <;> first | exact h.elim | (cases r with | d r => cases r; rfl)
theorem run_mk {c i : Nat} {ci : CInfo} {cell : Bool} {us : List Value} {vs : List V} {as : List A} {Kp : KA} {E : KX} {Q : VK} {ρ : Cr.Env} (S : Sig X G nm Wd W call lv) (nd : (Cr.fns G nm c).Nodup ∧ (Cr.fns G nm c).length ≤ 900) (eci : G.cls[c]? = some ci) (ei : ci.init = some i)
    (I : Inv X pins σ H s) (r : Vals vs us) (hs : HSim X.K G nm Z μ H) (b : Bun X.K G nm W σ Z ρ E) (rr : AReps X.K G nm Z vs as) (w : Cr.make G call c cell as μ Kp E) (k : ∀ a μ', Kp a μ' → FinA X.K G nm Z Q a μ') :
    wpAny (model X.prog X.w) X.A (PySem.call (.ref (ca X.K nm c)) us) (EP X pins σ Q) X.xe s := by
  obtain ⟨hg, M⟩ := S.c.init c ci i eci ei
  obtain ⟨F, bd, _⟩ := S.f i hg
  unfold Cr.make at w
  rw [eci] at w
  simp only [ei] at w
  refine run_makeS (E := WE W) M S.g F S.r bd (passAt S.tk σ) I r fun x dx n1 n0 ne => ?_
  have w1 := w x (hs.free n1).2
  have hs1 : HSim X.K G nm Z μ (upd H dx (.own x)) := hs.laid n0
  have nx : (upd H dx (.own x)) x = none := by rw [upd_ne (Ne.symm ne)]; exact n1
  have len : ci.fields.length = (Cr.fns G nm c).length := by rw [fns_of eci, List.length_map]
  have hs2 : HSim X.K G nm Z (put μ x (.obj c (ci.fields.map fun _ => none))) (upd (upd H dx (.own x)) x (.ins (ca X.K nm c) dx [])) := by
    refine hs1.cell nx ⟨dx, [], List.replicate ci.fields.length none, upd_same, fldsAt_new nd _ len, ?_⟩
    rw [List.map_const']
    exact optReps_new _
  refine ⟨Z, _, _, _, E, hs2, .cons (.ptr x) rr, w1, fun a μ' ka w H' Z' st hs' ra => ?_, fun c v μ' e H' Z' cls d st hs' er => b.ex c v μ' e H' Z' cls d st hs' er⟩
  refine ⟨nonA (Q := Q) ka.1 ra, ?_⟩
  have ka2 := ka.2
  cases cell with
  | true => exact k _ _ ka2 _ _ _ st hs' (.ptr x)
  | false =>
    obtain ⟨y, μ2, Z2, st2, hs3, r3, k3⟩ := toD_of hs' (.ptr x) ka2
    exact k _ _ k3 _ _ _ (Cr.Same.tr st st2) hs3 (.d r3)
theorem e_ctor {c i : Nat} {ci : CInfo} {cell : Bool} {x : Str} {es : List Expr} {es' : CEs} {p pos : Pos} (S : Sig X G nm Wd W call lv) (nd : (Cr.fns G nm c).Nodup ∧ (Cr.fns G nm c).length ≤ 900) (eci : G.cls[c]? = some ci) (ei : ci.init = some i) (hg : Gl X x) (hm : X.mg x = some (.ref (ca X.K nm c))) (hdb : (x == ("__debug__" : Str)) = false)
    (h2 : es.all notStar = true) (ha : PA X es (TA' X G nm W call es')) (h0 : es = [] → es' = .nil) : PE X (.Call (.Name x p) es [] pos) (TE' X G nm W call (.ctor c cell es')) := by
  refine ⟨fun pins s σ H Q I ⟨Z, μ, ρ, Kp, E, hs, b, w, k⟩ => ?_⟩
  rw [wpE] at w
  have kp := (S.c.init c ci i eci ei).2.kp
  refine wpAny_Call_Name_kw (ld_glob I hg hm ?_ hdb)
  cases es with
  | nil =>
    cases h0 rfl
    rw [wpEs] at w
    exact PySem.W.callWith_K0 I.kIn kp (run_mk S nd eci ei I .nil hs b .nil w k)
  | cons e es =>
    have h3 : notStar e = true ∧ es.all notStar = true := by simpa using h2
    refine PySem.W.callWith_K (h₀ := X.base) I.ok.mod.kin kp (thn (args_run ha I hs b w) fun us s1 ⟨vs, H1, I1, r, Z1, μ1, as, st1, hs1, b1, r1, w1⟩ => ⟨I1.kIn, ?_⟩) (star_cons h3.1) (star_all h3.2).1
    exact run_mk S nd eci ei I1 r hs1 b1 r1 w1 fun a μ' ka => (k a μ' ka).same st1
end
end Cr


/-! Cr13: built-in functions, methods of built-in types. -/
namespace Cr
open PySem PySem.Spec PyProof.Rows L2

section
variable {X : Cx} {G : Prog} {nm : Nm} {Wd : Wo} {lv : Nat} {W : WX} {call : Nat → List A → Store → KA → KX → Prop} {Z H : Hp} {μ : Store} {pins : List (Addr × Obj)} {σ : L2.St} {s : Shared} {cell : Bool}
theorem rooms (S : Sig X G nm Wd W call lv) : X.A.units + 100 < cLine := by
  have h1 := S.r.un
  omega
/-- f(e, ..), f a built-in function or type -/
theorem e_bi {b : Bi} {x : Str} {e : Expr} {es : List Expr} {es' : CEs} {p pos : Pos} {f : Value} (hc : CallR X f (rBi (opBi b) cell X.K G nm)) (hf : (∃ id, f = .builtin id) ∨ ∃ T, f = .type T) (hg : Gl X x) (hm : X.mg x = none) (hv : bootBuiltins x = some f) (hn : x ≠ "__name__") (hdb : (x == ("__debug__" : Str)) = false)
    (h1 : notStar e = true) (h2 : es.all notStar = true) (ha : PA X (e :: es) (TA' X G nm W call es')) : PE X (.Call (.Name x p) (e :: es) [] pos) (TE' X G nm W call (.bi b cell es')) := by
  have go : PE X (.Call (.Name x p) (e :: es) [] pos) (tCB (rBi (opBi b) cell X.K G nm) (TA' X G nm W call es')) := by
    rcases hf with ⟨id, rfl⟩ | ⟨T, rfl⟩
    · exact pe_callB hc hg hm hv ha hn hdb (star_cons h1) (star_all h2).1
    · exact pe_callTy hc hg hm hv ha hn hdb (star_cons h1) (star_all h2).1
  refine PE.of go fun σ H Q ⟨Z, μ, ρ, Kp, E, hs, b, w, k⟩ => ?_
  rw [wpE] at w
  refine tda_to hs b w fun as μ1 w1 vs H1 Z1 st1 hs1 b1 r1 => ?_
  obtain ⟨ds, rd, w2⟩ := rds_of hs1 r1 w1
  exact ⟨Z1, μ1, ds, hs1, rd, opBi_mono w2 fun r q => finX_of st1 k q⟩

/-! ### methods that change a list -/
def rMut (m : Bm) (K : PySem.W.Frag) (G : Prog) (nm : Nm) : V → List V → Hp → VK → Prop := fun x xs H Q => ∃ Z μ a as, HSim K G nm Z μ H ∧ ARep K G nm Z x a ∧ AReps K G nm Z xs as ∧ mutate m a as μ (FinA K G nm Z Q)
theorem mut_cell {m : Bm} {x : V} {a : A} {as : List A} {K : KA} (hs : HSim X.K G nm Z μ H) (r : ARep X.K G nm Z x a) (h : mutate m a as μ K) : ∃ n xs ws, x = .ref n ∧ a = .ptr n ∧ μ n = some (.lst xs) ∧ H n = some (.lst ws) ∧ Reps X.K G nm Z ws xs := by
  cases r with
  | d r => exact h.elim
  | ptr n =>
    unfold mutate at h
    cases e : μ n with
    | none => simp only [e] at h
    | some c =>
      cases c with
      | lst xs =>
        obtain ⟨ws, q1, q2⟩ := hs.cells n _ e
        exact ⟨n, xs, ws, rfl, rfl, e, q1, q2⟩
      | dct ks vs => simp only [e] at h
      | obj c fs => simp only [e] at h
      | lok o0 kvs0 ks vs => simp only [e] at h
      | lsA xs => simp only [e] at h
      | dcT ks vs => simp only [e] at h
theorem reps1 {vs : List V} {x : D} (r : Reps X.K G nm Z vs [x]) : ∃ v, vs = [v] ∧ Rep X.K G nm Z v x := by
  cases r with | cons h t => cases t; exact ⟨_, rfl, h⟩
theorem reps0 {vs : List V} (r : Reps X.K G nm Z vs []) : vs = [] := by cases r; rfl
theorem fin_cell {Z1 : Hp} {μ1 : Store} {n : Nat} {xs ys : List D} {ws : List V} {v : V} {r : D} {Q : VK} (st : Same Z Z1) (hs : HSim X.K G nm Z1 μ1 H) (e : μ1 n = some (.lst xs)) (rr : Reps X.K G nm Z1 ws ys) (rv : Rep X.K G nm Z1 v r)
    (h : FinA X.K G nm Z Q (.d r) (put μ1 n (.lst ys))) : Q v (upd H n (.lst ws)) :=
  h _ _ _ st (hs.wrote (o := .lst ws) e ⟨ws, upd_same, rr⟩) (.d rv)
theorem ixN_eq {n j : Nat} {i : Int} (h : Cr.ixN n i = some j) : seqIndex? i n = some j := by
  unfold Cr.ixN at h
  unfold seqIndex?
  simp only
  split at h
  · rename_i h1
    split at h
    · rename_i h2
      cases h
      simp [Int.not_lt.mpr h1, h1, h2]
    · cases h
  · rename_i h1
    split at h
    · rename_i h2
      cases h
      have e1 : i < 0 := by omega
      have e2 : 0 ≤ i + n := by omega
      simp [e1, e2]
      omega
    · cases h
theorem mut_mono {m : Bm} {a : A} {as : List A} {μ : Store} {K K' : KA} (h : mutate m a as μ K) (k : ∀ a μ', K a μ' → K' a μ') : mutate m a as μ K' := by
  have toDs_mono : ∀ {as : List A} {μ : Store} {K K' : List D → Store → Prop}, toDs μ as K → (∀ ds μ', K ds μ' → K' ds μ') → toDs μ as K' := by
    intro as
    induction as with
    | nil => intro μ K K' h k; exact k _ _ h
    | cons a as ih =>
      intro μ K K' h k
      unfold toDs toD at h ⊢
      cases e : frz μ a with
      | none => rw [e] at h; exact h.elim
      | some p =>
        rw [e] at h
        exact ih h fun ds μ' q => k _ _ q
  unfold mutate at h ⊢
  cases a with
  | d x => exact h.elim
  | ptr n =>
    simp only at h ⊢
    cases e : μ n with
    | none => rw [e] at h; exact h.elim
    | some c =>
      rw [e] at h
      cases c with
      | dct ks vs => exact h.elim
      | obj c fs => exact h.elim
      | lok o0 kvs0 ks vs => exact h.elim
      | lsA xs => exact h.elim
      | dcT ks vs => exact h.elim
      | lst xs =>
        simp only at h ⊢
        split at h
        · unfold rd at h ⊢
          split at h
          · exact opMut_mono h fun r ys q => k _ _ q
          · exact h.elim
        · exact toDs_mono h fun ds μ1 q => opMut_mono q fun r ys q => ⟨q.1, k _ _ q.2⟩
theorem mm_append : MtR X "list.append" (rMut .append X.K G nm) := by
  intro pins s σ H x vs v us Q I rx rv ⟨Z, μ, a, as, hs, ra, ras, h⟩
  obtain ⟨n, xs, ws, rfl, rfl, e, q1, q2⟩ := mut_cell hs ra h
  simp only [mutate, e] at h
  obtain ⟨ds, μ1, Z1, st, hs1, rr, h⟩ := toDs_of hs ras h
  match ds, rr, h with
  | [d], rr, ⟨h1, h2, h3⟩ =>
    obtain ⟨w, rfl, rw'⟩ := reps1 rr
    refine mt_append pins s σ H _ _ v us Q I rx rv ⟨n, ws, w, rfl, rfl, q1, by rw [q2.length, ← line_eq]; exact h1, ?_⟩
    exact fin_cell st hs1 h2 ((q2.same st).append (.cons rw' .nil)) .non h3
theorem mm_pop : MtR X "list.pop" (rMut .pop X.K G nm) := by
  intro pins s σ H x vs v us Q I rx rv ⟨Z, μ, a, as, hs, ra, ras, h⟩
  obtain ⟨n, xs, ws, rfl, rfl, e, q1, q2⟩ := mut_cell hs ra h
  simp only [mutate, e] at h
  obtain ⟨ds, μ1, Z1, st, hs1, rr, h⟩ := toDs_of hs ras h
  match ds, rr, h with
  | [], rr, ⟨y, h1, h2, h3⟩ =>
    cases reps0 rr
    obtain ⟨w, e1, rw'⟩ := (q2.same st).get h1
    refine mt_pop pins s σ H _ _ v us Q I rx rv ⟨n, ws, w, rfl, rfl, q1, by rw [q2.length]; exact e1, ?_⟩
    exact fin_cell st hs1 h2 (q2.same st).dropLast rw' h3
  | [.int i], rr, ⟨h1, h2, j, y, e1, e2, h3, h4⟩ =>
    obtain ⟨w, rfl, rw'⟩ := reps1 rr
    cases rw'
    obtain ⟨w, e3, rw'⟩ := (q2.same st).get e2
    refine mt_popAt pins s σ H _ _ v us Q I rx rv ⟨n, ws, i, j, w, rfl, rfl, q1, h1, h2, ?_, e3, ?_⟩
    · rw [q2.length]; exact ixN_eq e1
    · exact fin_cell st hs1 h3 ((q2.same st).eraseIdx j) rw' h4
theorem toDs_nil {xs : List D} {μ : Store} {K : D → List D → Store → Prop} (h : toDs μ [] fun ds μ1 => opMut .extend xs ds fun r xs' => K r xs' μ1) : False := by
  unfold toDs at h
  unfold opMut at h
  split at h <;> simp_all
theorem ext_one {xs : List D} {y : D} {K : D → List D → Prop} (h : opMut .extend xs [y] K) : ∃ ys, y = .lst ys ∧ xs.length + ys.length ≤ line ∧ K .non (xs ++ ys) := by
  unfold opMut at h
  cases y <;> first | exact h.elim | exact ⟨_, rfl, h⟩
theorem ext_two {xs ds : List D} {K : D → List D → Prop} (l : 2 ≤ ds.length) (h : opMut .extend xs ds K) : False := by
  rcases ds with _ | ⟨d, _ | ⟨d', ds⟩⟩
  · simp at l
  · simp at l
  · unfold opMut at h
    cases d <;> exact h
theorem mm_extend : MtR X "list.extend" (rMut .extend X.K G nm) := by
  intro pins s σ H x vs v us Q I rx rv ⟨Z, μ, a, as, hs, ra, ras, h⟩
  obtain ⟨n, xs, ws, rfl, rfl, e, q1, q2⟩ := mut_cell hs ra h
  simp only [mutate, e] at h
  rcases as with _ | ⟨b, _ | ⟨b', as⟩⟩
  · exact False.elim (toDs_nil h)
  · simp only at h
    cases ras with
    | cons rb t =>
    cases t
    obtain ⟨y, ry, h⟩ := rd_of hs rb h
    obtain ⟨ys, rfl, h1, h2⟩ := ext_one h
    obtain ⟨b, zs, rfl, l, rr⟩ := ry.list hs.z
    cases rx
    obtain ⟨u, rfl, ru⟩ := rv.one
    cases ru
    obtain ⟨z, its, n1, r, hl, e1⟩ := I.lstM q1
    obtain ⟨z2, its2, n2, r2, e2⟩ := lstAt_get I l
    have hl2 := r2.length
    have small := sizeLine_eq
    have len1 := q2.length
    have len2 := rr.length
    have lq := line_eq
    have hsz : its.toArray.size + its2.toArray.size ≤ sizeLine := by rw [List.size_toArray, List.size_toArray]; omega
    have hlong : ¬ (!its.toArray.isEmpty && Builtin.List.listTooLong (its.toArray.size + its2.toArray.size)) = true := by
      rw [notLongL hsz, Bool.and_false]
      simp
    refine call_meets F.slot_list_extend ⟨_, e1, rfl⟩ F.entry_list_extend (F.args_list_extend_2 _ _)
      (AutoSeq1.list_extend_list_list_0 n its.toArray n1 b its2.toArray n2 hlong (by rw [List.size_toArray]; omega) (by omega)) ⟨e1, e2, ?_⟩
    refine ⟨.non, _, I.lset (its' := its ++ its2) q1 e1 (by simp) (r.append r2) ?_, rfl, ?_⟩
    · rw [List.length_append]; omega
    · exact fin_cell same_refl hs e (q2.append rr) .non h2
  · simp only at h
    obtain ⟨ds, μ1, Z1, st, hs1, rr, h⟩ := toDs_of hs ras h
    have hl : ds.length = vs.length := rr.length.symm
    have hl2 : vs.length = as.length + 2 := by have := Paired.length ras; simpa using this
    exact False.elim (ext_two (by omega) h)
theorem reps2 {vs : List V} {x y : D} (r : Reps X.K G nm Z vs [x, y]) : ∃ v w, vs = [v, w] ∧ Rep X.K G nm Z v x ∧ Rep X.K G nm Z w y := by
  cases r with
  | cons a t =>
    cases t with
    | cons b t =>
      cases t
      exact ⟨_, _, rfl, a, b⟩
theorem mb_get (hu : X.A.units + 100 < cLine) : MtR X "dict.get" (rGet X.K G nm) := by
  intro pins s σ H x xs v us Q I rx rs ⟨Z, μ, u, ds, hs, ru, rd, h⟩
  cases u <;> try exact h.elim
  case dct ks ws =>
    match ds, rd, h with
    | [k, y], rd, ⟨hk, h⟩ =>
      obtain ⟨a, kvs, rfl, r1, rfl, nd, r2⟩ := ru.dict hs.z
      obtain ⟨w1, w2, rfl, rk, ry⟩ := reps2 rd
      obtain ⟨kk, rfl, rfl⟩ := key_of_rep (H := H) hk (.z rk)
      cases rx
      obtain ⟨u1, u2, rfl, q1, q2⟩ := vals2 rs
      refine d_get2 (by omega) I (.inl ⟨kvs, kk, r1, rfl, rfl⟩) q1 q2 fun w' s' I' rw' => ⟨_, H, I', rw', ?_⟩
      have lk := look_rep kk r2
      cases e1 : valV kvs kk with
      | none =>
        rw [e1] at lk
        cases e2 : lookD (keyD kk) (kvs.map fun p => keyD p.1) ws with
        | none => rw [e2] at h; exact h _ _ _ same_refl hs (.d ry)
        | some z => rw [e2] at lk; exact lk.elim
      | some vv =>
        rw [e1] at lk
        cases e2 : lookD (keyD kk) (kvs.map fun p => keyD p.1) ws with
        | none => rw [e2] at lk; exact lk.elim
        | some z => rw [e2] at h lk; exact h _ _ _ same_refl hs (.d lk)
  case set ys =>
    match ds, rd, h with
    | [k, y], rd, ⟨hk, h⟩ =>
      obtain ⟨a, kvs, ks, ws, rfl, rfl, r1, rfl, nd, r2⟩ := ru.dictT
      obtain ⟨w1, w2, rfl, rk, ry⟩ := reps2 rd
      obtain ⟨b, kk, rfl, rfl, kb⟩ := keyT_of_rep (H := H) hk (.z rk) hs.z
      cases rx
      obtain ⟨u1, u2, rfl, q1, q2⟩ := vals2 rs
      cases q1
      obtain ⟨p, xs, dd, rel⟩ := tk_val (k := kk) I r1
      have lk := look_repT kk r2
      refine call_meetsIn PySem.F.slot_dict_get dd.typeIs PySem.F.entry_dict_get (PySem.F.args_dict_get_3 _ _ _) (meetsH_dict_get_default (tupleKind (mixKind X.prog X.w)) a b p u2) ⟨tupleKind_room_in1 (by omega), kk, xs, tk_at I kb, dd, ?_⟩
      refine ⟨_, H, I.tok _, rel.getD q2, ?_⟩
      cases e1 : valV kvs kk with
      | none =>
        rw [e1] at lk
        cases e2 : lookD (keyT kk) (kvs.map fun p => keyT p.1) ws with
        | none =>
          have h : FinX X.K G nm false Z μ Q ((lookD (keyT kk) (kvs.map fun p => keyT p.1) ws).getD y) := h
          rw [e2] at h
          exact h _ _ _ same_refl hs (.d ry)
        | some z => rw [e2] at lk; exact lk.elim
      | some vv =>
        rw [e1] at lk
        cases e2 : lookD (keyT kk) (kvs.map fun p => keyT p.1) ws with
        | none => rw [e2] at lk; exact lk.elim
        | some z =>
          have h : FinX X.K G nm false Z μ Q ((lookD (keyT kk) (kvs.map fun p => keyT p.1) ws).getD y) := h
          rw [e2] at h lk
          exact h _ _ _ same_refl hs (.d lk)

/-! ### which method is where -/
def btT : Bt → String
  | .str => "str"
  | .list => "list"
  | .dict => "dict"
  | .tuple => "tuple"
def bmN : Bm → Str
  | .append => "append"
  | .extend => "extend"
  | .pop => "pop"
  | .index => "index"
  | .count => "count"
  | .join => "join"
  | .split => "split"
  | .get => "get"
  | _ => ""
def rM (m : Bm) (cell : Bool) (K : PySem.W.Frag) (G : Prog) (nm : Nm) : V → List V → Hp → VK → Prop := match isMut m with
  | true => rMut m K G nm
  | false => match m with
    | .get => rGet K G nm
    | m => rBm (opBm m) (cell && bmNew m) K G nm
theorem dsOf_reps : ∀ {as : List A} {vs : List V} {ds : List D}, AReps X.K G nm Z vs as → dsOf as = some ds → Reps X.K G nm Z vs ds
  | _, _, ds, .nil, h => by cases h; exact .nil
  | _, _, ds, .cons (l₂ := as) (b := a) r t, h => by
    cases r with
    | ptr n => simp [dsOf] at h
    | d r =>
      simp only [dsOf, Option.map_eq_some_iff] at h
      obtain ⟨ds', h, rfl⟩ := h
      exact .cons r (dsOf_reps t h)
theorem minfo {m : Bm} {T : Bt} (hu : X.A.units + 100 < cLine) (h : bmT m = some T) : ∃ id, MInfo X (bmN m) (btT T) id (rM m cell X.K G nm) := by
  cases m <;> simp [bmT] at h <;> subst h
  · exact ⟨_, F.plainAttrs_list, F.slot_list_append, F.type_list_append, mm_append⟩
  · exact ⟨_, F.plainAttrs_list, F.slot_list_extend, F.type_list_extend, mm_extend⟩
  · exact ⟨_, F.plainAttrs_list, F.slot_list_pop, F.type_list_pop, mm_pop⟩
  · exact ⟨_, F.plainAttrs_list, F.slot_list_index, F.type_list_index, mb_index hu⟩
  · exact ⟨_, F.plainAttrs_list, F.slot_list_count, F.type_list_count, mb_count hu⟩
  · exact ⟨_, F.plainAttrs_str, F.slot_str_join, F.type_str_join, mb_join⟩
  · exact ⟨_, F.plainAttrs_str, F.slot_str_split, F.type_str_split, mb_split⟩
  · exact ⟨_, F.plainAttrs_dict, F.slot_dict_get, F.type_dict_get, mb_get hu⟩
theorem ty_of {v : V} {x : A} {T : Bt} (hs : HSim X.K G nm Z μ H) (r : ARep X.K G nm Z v x) (h : tagOf μ x = some T) : TyAt X v H (btT T) := by
  cases r with
  | d r =>
    cases r <;> simp [tagOf] at h
    · subst h; exact ty_str
    · rename_i l rr
      subst h; exact ty_list (LstAt.same hs.z l).sq
    · rename_i hr _ _ _
      subst h; exact ty_dict (by rcases hr with h | ⟨o, h⟩; exact .inl (hs.z _ _ h); exact .inr ⟨o, hs.z _ _ h⟩)
  | ptr n =>
    unfold tagOf at h
    cases e : μ n with
    | none => simp [e] at h
    | some c =>
      have q := hs.cells n c e
      cases c with
      | lst xs =>
        simp only [e] at h
        cases h
        obtain ⟨ws, q1, q2⟩ := q
        exact ty_list (.inl (.inl q1))
      | dct ks vs =>
        simp only [e] at h
        cases h
        obtain ⟨kvs, q1, _⟩ := q
        exact ty_dict (.inl q1)
      | dcT ks vs =>
        simp only [e] at h
        cases h
        obtain ⟨kvs, q1, _⟩ := q
        exact ty_dictT q1
      | lok o0 kvs0 ks vs =>
        simp only [e] at h
        cases h
        obtain ⟨q1, _⟩ := q
        exact ty_dict (.inr ⟨_, q1⟩)
      | obj c fs => simp [e] at h
      | lsA xs => simp [e] at h
theorem e_bm {m : Bm} {o : Expr} {o' : CE} {es : List Expr} {es' : CEs} {apos pos : Pos} (S : Sig X G nm Wd W call lv) (ho : PE X o (TE' X G nm W call o')) (hb : notSuper o = true)
    (h2 : es.all notStar = true) (hn : es.length < 20) (hline : (apos.endLine == pos.line) = true) (ha : PA X es (TA' X G nm W call es')) (h0 : es = [] → es' = .nil) :
    PE X (.Call (.Attribute o (bmN m) apos) es [] pos) (TE' X G nm W call (.bm m cell o' es')) := by
  have fin : ∀ {σ H Q}, (∃ Z μ ρ Kp E, HSim X.K G nm Z μ H ∧ Bun X.K G nm W σ Z ρ E ∧ wpE G call (.bm m cell o' es') ρ μ Kp E ∧ ∀ a μ', Kp a μ' → FinA X.K G nm Z Q a μ') →
      TE' X G nm W call o' σ H fun x H1 => ∃ T id r, MInfo X (bmN m) T id r ∧ TyAt X x H1 T ∧ TA' X G nm W call es' σ H1 fun xs H2 => r x xs H2 Q := by
    intro σ H Q ⟨Z, μ, ρ, Kp, E, hs, b, w, k⟩
    rw [wpE] at w
    refine td_to hs b w fun x μ1 w1 v1 H1 Z1 st1 hs1 b1 r1 => ?_
    split at w1
    · exact w1.elim
    rename_i T eT
    obtain ⟨eM, w1⟩ := w1
    obtain ⟨id, mi⟩ := minfo (G := G) (nm := nm) (cell := cell) (rooms S) eM
    refine ⟨btT T, id, _, mi, ty_of hs1 r1 eT, tda_to hs1 b1 w1 fun as μ2 w2 vs H2 Z2 st2 hs2 b2 r2 => ?_⟩
    unfold rM
    split at w2
    · rename_i em
      simp only [em]
      refine ⟨Z2, μ2, x, as, hs2, r1.same st2, r2, ?_⟩
      exact mut_mono w2 fun a μ' q => (k a μ' q).same (Cr.Same.tr st1 st2)
    · rename_i em
      simp only [em]
      obtain ⟨u, ru, w3⟩ := rd_of hs2 (r1.same st2) w2
      by_cases eg : m = .get
      · subst eg
        unfold rdz at w3
        simp only at w3
        split at w3
        · rename_i ds ed
          exact ⟨Z2, μ2, u, ds, hs2, ru, dsOf_reps r2 ed, opBm_mono w3 fun r q => by
            have q' : fin false r μ2 Kp := by simpa [bmNew] using q
            exact finX_of (Cr.Same.tr st1 st2) k q'⟩
        · exact w3.elim
      · have w3 : rds μ2 as fun ds => opBm m u ds fun r => Cr.fin (cell && bmNew m) r μ2 Kp := by
          cases m <;> first | exact w3 | exact absurd rfl eg
        obtain ⟨ds, rds, w4⟩ := rds_of hs2 r2 w3
        have fin' : rBm (opBm m) (cell && bmNew m) X.K G nm v1 vs H2 Q := ⟨Z2, μ2, u, ds, hs2, ru, rds, opBm_mono w4 fun r q => finX_of (Cr.Same.tr st1 st2) k q⟩
        cases m <;> first | exact fin' | exact absurd rfl eg
  cases es with
  | nil =>
    cases h0 rfl
    refine PE.of (pe_mth0 ho (base_of hb _ _ _) hline) fun σ H Q h => ?_
    obtain ⟨Z, μ, ρ, Kp, E, hs, b, w, k⟩ := fin h
    refine ⟨Z, μ, ρ, Kp, E, hs, b, w, fun a μ' q v H' Z' st hs' r => ?_⟩
    obtain ⟨T, id, r', mi, ty, t⟩ := k a μ' q v H' Z' st hs' r
    refine ⟨T, id, r', mi, ty, ?_⟩
    obtain ⟨Z, μ, ρ, Kp, E, hs, b, w, k⟩ := t
    rw [wpEs] at w
    exact k _ _ w _ _ _ same_refl hs .nil
  | cons e es =>
    have h3 : notStar e = true ∧ es.all notStar = true := by simpa using h2
    have hfew : ((backTo pos (starEach (e :: es) X.env)).all (fun x => !x.1) && (backToKw pos (keywordEach [] X.env)).all (fun x => x.1.isSome) && decide ((e :: es).length + ([] : List Keyword).length + (if ([] : List Keyword).isEmpty then 0 else 1) < 30)) = true := by
      rw [(star_all h2).2.1]
      simp [keywordEach, backToKw] at hn ⊢
      omega
    exact PE.of (pe_mth ho ha (base_of hb _ _ _) hfew hline (star_cons h3.1) (star_all h3.2).1) fun σ H Q h => fin h
end
end Cr


/-! Cr14: targets, walks. -/
namespace Cr
open PySem PySem.Spec PyProof.Rows L2

section
variable {X : Cx} {G : Prog} {nm : Nm} {Wd : Wo} {lv : Nat} {W : WX} {call : Nat → List A → Store → KA → KX → Prop} {Z Z' H : Hp} {μ : Store} {pins : List (Addr × Obj)} {σ : L2.St} {s : Shared} {cell : Bool}
theorem ssim_set {ρ : Cr.Env} {i : Nat} {v : V} {a : A} (h : SSim X.K G nm Z ρ σ) (r : ARep X.K G nm Z v a) : SSim X.K G nm Z (ρ.set i (some a)) (σ.set i (some v)) := by
  refine ⟨by simpa using h.1, ?_⟩
  intro j b e
  rw [List.getElem?_set] at e
  split at e
  · rename_i ij
    split at e
    · rename_i hj
      cases e
      refine ⟨v, ?_, r⟩
      rw [List.getElem?_set, if_pos ij, if_pos (by have := h.1; omega)]
    · cases e
  · rename_i ij
    obtain ⟨w, e1, e2⟩ := h.2 j b e
    exact ⟨w, by rw [List.getElem?_set, if_neg ij]; exact e1, e2⟩
theorem ssim_none {ρ : Cr.Env} {i : Nat} (h : SSim X.K G nm Z ρ σ) : SSim X.K G nm Z (ρ.set i none) σ := by
  refine ⟨by simpa using h.1, ?_⟩
  intro j b e
  rw [List.getElem?_set] at e
  split at e
  · split at e
    · cases e
    · cases e
  · exact h.2 j b e
theorem wipe_get : ∀ {l : List Nat} {ρ : Cr.Env} {j : Nat} {a : A}, (Cr.wipe ρ l)[j]? = some (some a) → ρ[j]? = some (some a) ∧ j ∉ l
  | [], _, _, _, h => ⟨h, by simp⟩
  | i :: r, ρ, j, a, h => by
    rw [Cr.wipe] at h
    obtain ⟨h1, h2⟩ := wipe_get h
    rw [List.getElem?_set] at h1
    split at h1
    · split at h1 <;> cases h1
    · rename_i ij
      exact ⟨h1, by simp [h2]; exact fun e => ij e.symm⟩
theorem wipe_len : ∀ {l : List Nat} {ρ : Cr.Env}, (Cr.wipe ρ l).length = ρ.length
  | [], _ => rfl
  | i :: r, ρ => by rw [Cr.wipe, wipe_len, List.length_set]
theorem wipe_out : ∀ {l : List Nat} {σ : L2.St} {j : Nat}, j ∉ l → (L2.wipe σ l)[j]? = σ[j]?
  | [], _, _, _ => rfl
  | i :: r, σ, j, h => by
    rw [L2.wipe, List.getElem?_set, if_neg (fun e => h (by simp [e])), wipe_out (fun z => h (by simp [z]))]
theorem ssim_wipe {l : List Nat} {ρ : Cr.Env} (h : SSim X.K G nm Z ρ σ) : SSim X.K G nm Z (Cr.wipe ρ l) (L2.wipe σ l) := by
  refine ⟨by rw [wipe_len, L2.wipe_length]; exact h.1, fun j a e => ?_⟩
  obtain ⟨e1, e2⟩ := wipe_get e
  obtain ⟨v, e3, r⟩ := h.2 j a e1
  exact ⟨v, by rw [wipe_out e2]; exact e3, r⟩

/-! ### targets -/
mutual
/-- the slots of a target -/
def tgS : Tg → List Nat
  | .slot i => [i]
  | .tup ts => tgSs ts
def tgSs : List Tg → List Nat
  | [] => []
  | t :: ts => tgS t ++ tgSs ts
end
/-- nothing but these has changed -/
def OnlyIn (l : List Nat) (σ σ' : L2.St) : Prop := σ'.length = σ.length ∧ ∀ j, j ∉ l → σ'[j]? = σ[j]?
theorem OnlyIn.tr {l l' : List Nat} {a b c : L2.St} (h : OnlyIn l a b) (h' : OnlyIn l' b c) : OnlyIn (l ++ l') a c :=
  ⟨h'.1.trans h.1, fun j hj => (h'.2 j fun z => hj (by simp [z])).trans (h.2 j fun z => hj (by simp [z]))⟩
abbrev TG' (X : Cx) (G : Prog) (nm : Nm) (t : Tg) : TG := fun v σ H Q => ∃ Z μ ρ x K, HSim X.K G nm Z μ H ∧ SSim X.K G nm Z ρ σ ∧ Rep X.K G nm Z v x ∧ wpTg t x ρ K ∧ ∀ ρ' σ', K ρ' → SSim X.K G nm Z ρ' σ' → OnlyIn (tgS t) σ σ' → Q σ' H
abbrev TGs' (X : Cx) (G : Prog) (nm : Nm) (ts : List Tg) : TGs := fun vs σ H Q => ∃ Z μ ρ xs K, HSim X.K G nm Z μ H ∧ SSim X.K G nm Z ρ σ ∧ Reps X.K G nm Z vs xs ∧ wpTgs ts xs ρ K ∧ ∀ ρ' σ', K ρ' → SSim X.K G nm Z ρ' σ' → OnlyIn (tgSs ts) σ σ' → Q σ' H
theorem PG.of {e : Expr} {t t' : TG} (h : PG X e t) (m : ∀ v σ H Q, t' v σ H Q → t v σ H Q) : PG X e t' := ⟨fun pins s σ H v u Q I r q => h.run pins s σ H v u Q I r (m _ _ _ _ q)⟩
theorem PGs.of {e : List Expr} {t t' : TGs} (h : PGs X e t) (m : ∀ v σ H Q, t' v σ H Q → t v σ H Q) : PGs X e t' := ⟨fun pins s σ H v u Q I r q => h.run pins s σ H v u Q I r (m _ _ _ _ q)⟩
theorem PG.or {e : Expr} {t t' : TG} (h : PG X e t) (h' : PG X e t') : PG X e (fun v σ H Q => t v σ H Q ∨ t' v σ H Q) :=
  ⟨fun pins s σ H v u Q I r q => q.elim (h.run pins s σ H v u Q I r) (h'.run pins s σ H v u Q I r)⟩
theorem g_slot {i : Nat} {x : Str} {pos : Pos} (hN : X.N.Nodup) (hi : X.N[i]? = some x) (hx : Loc X.env.scope x) (hf : X.fn x = true ∨ X.env.scope.names.lookup x = some .local) : PG X (.Name x pos) (TG' X G nm (.slot i)) :=
  PG.of (pg_name hN hi hx hf) fun v σ H Q ⟨Z, μ, ρ, x, K, hs, ss, r, w, k⟩ => by
    rw [wpTg] at w
    exact k _ _ w (ssim_set ss (.d r)) ⟨by simp, fun j hj => by rw [List.getElem?_set, if_neg (by simpa [tgS, eq_comm] using hj)]⟩
theorem gs_nil : PGs X [] (TGs' X G nm []) := PGs.of pgs_nil fun vs σ H Q ⟨Z, μ, ρ, xs, K, hs, ss, r, w, k⟩ => by
  cases r with
  | nil => rw [wpTgs] at w; exact ⟨rfl, k _ _ w ss ⟨rfl, fun _ _ => rfl⟩⟩
  | cons _ _ => exact w.elim
theorem asg_cons {e : Expr} {es : List Expr} {env : PySem.Env} (h : notStar e = true) : (assignEach (e :: es) env) = (false, assign e env) :: assignEach es env := by
  cases e <;> first | rfl | (exfalso; exact Bool.false_ne_true h)
theorem asg_all {env : PySem.Env} : ∀ {es : List Expr}, es.all notStar = true → (assignEach es env).length = es.length ∧ (assignEach es env).findIdx? (·.1) = none
  | [], _ => ⟨rfl, rfl⟩
  | e :: es, h => by
    have h2 : notStar e = true ∧ es.all notStar = true := by simpa using h
    obtain ⟨a, b⟩ := asg_all (env := env) h2.2
    rw [asg_cons h2.1]
    refine ⟨by simp [a], ?_⟩
    rw [List.findIdx?_cons, b]
    rfl
theorem gs_cons {e : Expr} {es : List Expr} {t : Tg} {ts : List Tg} (h1 : PG X e (TG' X G nm t)) (h2 : PGs X es (TGs' X G nm ts)) (hst : notStar e = true) : PGs X (e :: es) (TGs' X G nm (t :: ts)) := by
  refine PGs.of (pgs_cons h1 h2 (by rw [asg_cons hst]; rfl)) fun vs σ H Q ⟨Z, μ, ρ, xs, K, hs, ss, r, w, k⟩ => ?_
  cases r with
  | nil => exact w.elim
  | cons r rr =>
    rw [wpTgs] at w
    exact ⟨_, _, rfl, Z, μ, ρ, _, _, hs, ss, r, w, fun ρ' σ' w' ss' o => ⟨Z, μ, ρ', _, _, hs, ss', rr, w', fun ρ2 σ2 w2 ss2 o2 => k ρ2 σ2 w2 ss2 (by rw [tgSs]; exact o.tr o2)⟩⟩
theorem g_tup {es : List Expr} {ts : List Tg} {k : Nat} {pos : Pos} (hc : X.calm = true) (h : PGs X es (TGs' X G nm ts)) (hst : es.all notStar = true) (hl : es.length = ts.length) : PG X (.Tuple es k pos) (TG' X G nm (.tup ts)) := by
  obtain ⟨a1, a2⟩ := asg_all (env := X.env) hst
  refine PG.of (PG.or (pg_tup hc h (n := ts.length) (by rw [a1, hl]) a2) (pg_lst hc h (n := ts.length) (by rw [a1, hl]) a2)) fun v σ H Q ⟨Z, μ, ρ, x, K, hs, ss, r, w, kk⟩ => ?_
  cases x <;> try exact w.elim
  case tup xs =>
    rw [wpTg] at w
    cases r with
    | tup l rr => exact .inl ⟨_, _, rfl, SqT.same hs.z l, by rw [rr.length]; exact w.1, Z, μ, ρ, xs, K, hs, ss, rr, w.2, fun ρ2 σ2 w2 ss2 o2 => kk ρ2 σ2 w2 ss2 (by rw [tgS]; exact o2)⟩
  case lst xs =>
    rw [wpTg] at w
    cases r with
    | lst l rr => exact .inr ⟨_, _, rfl, (LstAt.same hs.z l).sq, by rw [rr.length]; exact w.1, Z, μ, ρ, xs, K, hs, ss, rr, w.2, fun ρ2 σ2 w2 ss2 o2 => kk ρ2 σ2 w2 ss2 (by rw [tgS]; exact o2)⟩
end
end Cr


/-! Cr15: what is walked. -/
namespace Cr
open PySem PySem.Spec PyProof.Rows L2

section
variable {X : Cx} {G : Prog} {nm : Nm} {Wd : Wo} {lv : Nat} {W : WX} {call : Nat → List A → Store → KA → KX → Prop} {Z Z' H : Hp} {μ : Store} {pins : List (Addr × Obj)} {σ : L2.St} {s : Shared} {cell : Bool}
/-- an iterator that yields these data, as long as its source stands -/
structure WalkOk (K : PySem.W.Frag) (G : Prog) (nm : Nm) (Z : Hp) (src : Option (Nat × Cell)) (xs : List D) (J : It) : Prop where
  go : ∀ i Z' H μ, i < xs.length → Same Z Z' → HSim K G nm Z' μ H → still src μ → J.go i H
  yld : ∀ i d Z' H μ x H', xs[i]? = some d → Same Z Z' → HSim K G nm Z' μ H → still src μ → J.yld i H x H' → ∃ Z'', Same Z' Z'' ∧ HSim K G nm Z'' μ H' ∧ Rep K G nm Z'' x d
  stop : ∀ Z' H μ, Same Z Z' → HSim K G nm Z' μ H → still src μ → J.stop xs.length H
theorem WalkOk.same {K : PySem.W.Frag} {src : Option (Nat × Cell)} {xs : List D} {J : It} (st : Same Z Z') (h : WalkOk K G nm Z src xs J) : WalkOk K G nm Z' src xs J :=
  ⟨fun i Z'' H μ hi s => h.go i Z'' H μ hi (Cr.Same.tr st s), fun i d Z'' H μ x H' e s => h.yld i d Z'' H μ x H' e (Cr.Same.tr st s), fun Z'' H μ s => h.stop Z'' H μ (Cr.Same.tr st s)⟩
abbrev TI' (X : Cx) (G : Prog) (nm : Nm) (W : WX) (call : Nat → List A → Store → KA → KX → Prop) (it : CI) : TI := fun σ H R => ∃ Z μ ρ Kp E, HSim X.K G nm Z μ H ∧ Bun X.K G nm W σ Z ρ E ∧ wpI G call it ρ μ Kp E ∧
  ∀ src xs μ', Kp src xs μ' → ∀ H' Z' J, Same Z Z' → HSim X.K G nm Z' μ' H' → WalkOk X.K G nm Z' src xs J → R J H'
theorem PI.of {tg e : Expr} {t t' : TI} (h : PI X tg e t) (m : ∀ σ H R, t' σ H R → t σ H R) : PI X tg e t' := ⟨fun pins s σ H R I q => h.run pins s σ H R I (m _ _ _ q)⟩

/-- a list that is walked: told, or a cell -/
def LstSrc (K : PySem.W.Frag) (G : Prog) (nm : Nm) (Z : Hp) (src : Option (Nat × Cell)) (a : Addr) (xs : List D) : Prop := ∀ Z' H μ, Same Z Z' → HSim K G nm Z' μ H → still src μ → ∃ vs, SqL K H a vs ∧ Reps K G nm Z' vs xs
theorem walk_list {src : Option (Nat × Cell)} {a : Addr} {xs : List D} (h : LstSrc X.K G nm Z src a xs) : WalkOk X.K G nm Z src xs (Itl X.K a) := by
  refine ⟨fun i Z' H μ hi st hs sl => ?_, fun i d Z' H μ x H' e st hs sl y => ?_, fun Z' H μ st hs sl => ?_⟩
  · obtain ⟨vs, l, r⟩ := h Z' H μ st hs sl
    obtain ⟨v, e1, _⟩ := r.get (List.getElem?_eq_getElem hi)
    exact ⟨vs, v, l, e1⟩
  · obtain ⟨vs, l, r⟩ := h Z' H μ st hs sl
    obtain ⟨v, e1, rv⟩ := r.get e
    obtain ⟨rfl, y⟩ := y
    have := y vs l
    rw [e1] at this
    cases this
    exact ⟨Z', same_refl, hs, rv⟩
  · obtain ⟨vs, l, r⟩ := h Z' H μ st hs sl
    exact ⟨vs, l, by rw [r.length]; exact Nat.le_refl _⟩
theorem walk_tup {a : Addr} {vs : List V} {xs : List D} (l : SqT X.K Z a vs) (r : Reps X.K G nm Z vs xs) : WalkOk X.K G nm Z none xs (Itt X.K a) := by
  refine ⟨fun i Z' H μ hi st hs sl => ?_, fun i d Z' H μ x H' e st hs sl y => ?_, fun Z' H μ st hs sl => ?_⟩
  · obtain ⟨v, e1, _⟩ := r.get (List.getElem?_eq_getElem hi)
    exact ⟨vs, v, SqT.same hs.z (SqT.same st l), e1⟩
  · obtain ⟨v, e1, rv⟩ := r.get e
    obtain ⟨rfl, y⟩ := y
    have := y vs (SqT.same hs.z (SqT.same st l))
    rw [e1] at this
    cases this
    exact ⟨Z', same_refl, hs, rv.same st⟩
  · exact ⟨vs, SqT.same hs.z (SqT.same st l), by rw [r.length]; exact Nat.le_refl _⟩
theorem walk_str {z : Str} (o : strOk z = true) : WalkOk X.K G nm Z none (z.cps.toList.map fun c => D.str [c]) (Its z) := by
  refine ⟨fun i Z' H μ hi st hs sl => ?_, fun i d Z' H μ x H' e st hs sl y => ?_, fun Z' H μ st hs sl => ?_⟩
  · show i < z.cps.size
    simpa using hi
  · obtain ⟨rfl, c, e1, rfl⟩ := y
    rw [List.getElem?_map, Array.getElem?_toList, e1] at e
    cases e
    refine ⟨Z', same_refl, hs, ?_⟩
    have := mk_str (X := X) (G := G) (nm := nm) (Z := Z') (l := [c]) fun c' hc => by
      simp at hc; subst hc
      exact strOk_iff.mp o _ (by simpa using Array.mem_of_getElem? e1)
    exact this
  · show z.cps.size ≤ _
    simp
theorem rangeD_len {i j : Int} : (rangeD i j).length = (j - i).toNat := by simp [rangeD]
theorem rangeD_get {i j : Int} {k : Nat} {d : D} (h : (rangeD i j)[k]? = some d) : d = .int (i + k) := by
  unfold rangeD at h
  rw [List.getElem?_map] at h
  cases e : (List.range (j - i).toNat)[k]? with
  | none => rw [e] at h; cases h
  | some m =>
    rw [e] at h
    cases h
    have : m = k := by
      have := List.getElem?_eq_some_iff.mp e
      obtain ⟨h1, h2⟩ := this
      simpa using h2.symm
    rw [this]
theorem walk_range {i j : Int} : WalkOk X.K G nm Z none (rangeD i j) (Itr i (j - i).toNat) := by
  refine ⟨fun k Z' H μ hi st hs sl => ?_, fun k d Z' H μ x H' e st hs sl y => ?_, fun Z' H μ st hs sl => ?_⟩
  · rw [rangeD_len] at hi; exact hi
  · obtain ⟨rfl, rfl⟩ := y
    cases rangeD_get e
    exact ⟨Z', same_refl, hs, .int _⟩
  · show _ ≤ _
    rw [rangeD_len]
    exact Nat.le_refl _
/-- a list value as a source -/
theorem src_of (hs : HSim X.K G nm Z μ H) {v : V} {x : A} {xs : List D} {src : Option (Nat × Cell)} (r : ARep X.K G nm Z v x) (h : (src = none ∧ x = .d (.lst xs)) ∨ ∃ n, x = .ptr n ∧ μ n = some (.lst xs) ∧ src = some (n, .lst xs)) :
    ∃ a, v = .ref a ∧ LstSrc X.K G nm Z src a xs ∧ ∃ vs, SqL X.K H a vs := by
  rcases h with ⟨rfl, rfl⟩ | ⟨n, rfl, e, rfl⟩
  · cases r with
    | d r => cases r with
      | lst l rr => exact ⟨_, rfl, fun Z' H' μ' st hs' _ => ⟨_, (LstAt.same hs'.z (LstAt.same st l)).sq, rr.same st⟩, _, (LstAt.same hs.z l).sq⟩
  · cases r
    obtain ⟨ws, q1, q2⟩ := hs.cells n _ e
    refine ⟨n, rfl, fun Z' H' μ' st hs' sl => ?_, ws, .inl (.inl q1)⟩
    obtain ⟨ws', q3, q4⟩ := hs'.cells n _ sl
    exact ⟨ws', .inl (.inl q3), q4⟩
/-- a walk over a list, a tuple, a text -/
def iAny (K : PySem.W.Frag) (te : TE) : TI := fun σ H R => te σ H fun x H1 => ∃ J, R J H1 ∧ ((∃ a vs, x = .ref a ∧ SqL K H1 a vs ∧ J = Itl K a) ∨ (∃ a vs, x = .ref a ∧ SqT K H1 a vs ∧ J = Itt K a) ∨ ∃ z, x = .str z ∧ J = Its z)
theorem pi_any {tg e : Expr} {te : TE} (he : PE X e te) : PI X tg e (iAny X.K te) := by
  have w : ∀ {α : Type}, True := fun {_} => trivial
  refine ⟨fun pins s σ H R I h => ?_⟩
  refine thn (he.run pins s σ H _ I h) fun v s1 ⟨x, H1, I1, r1, J, q, hx⟩ => ?_
  rcases hx with ⟨a, vs, rfl, l, rfl⟩ | ⟨a, vs, rfl, l, rfl⟩ | ⟨z, rfl, rfl⟩
  · cases r1
    obtain ⟨its, rv, p, hz⟩ := I1.list l
    exact wpAny_pyIter_list p.isList (pi_one (tk := s1.toks) I1 _ (turn_list a _) ⟨_, Heap.get?_push_size _ rfl, rfl, rfl⟩ q)
  · cases r1
    obtain ⟨its, rv, p, hz⟩ := I1.tuple l
    exact wpAny_pyIter_tuple (show s1.heap.IsTuple a its.toArray from p) (pi_one (tk := s1.toks) I1 _ (turn_tuple a _) ⟨_, Heap.get?_push_size _ rfl, rfl, rfl⟩ q)
  · obtain ⟨t, rfl⟩ := r1
    cases ha : z.cps.all (· < 128)
    · exact wpAny_pyIter_wide ha (pi_one (tk := s1.toks) I1 _ (turn_str _ z t "str_iterator" (.inr rfl)) ⟨_, Heap.get?_push_size _ rfl, rfl, rfl⟩ q)
    · exact wpAny_pyIter_ascii ha (pi_one (tk := s1.toks) I1 _ (turn_str _ z t "str_ascii_iterator" (.inl rfl)) ⟨_, Heap.get?_push_size _ rfl, rfl, rfl⟩ q)
theorem i_seq {tg e : Expr} {e' : CE} (he : PE X e (TE' X G nm W call e')) : PI X tg e (TI' X G nm W call (.seq e')) := by
  refine PI.of (pi_any he) fun σ H R ⟨Z, μ, ρ, Kp, E, hs, b, w, k⟩ => ?_
  rw [wpI] at w
  refine td_to hs b w fun x μ1 w1 v1 H1 Z1 st1 hs1 b1 r1 => ?_
  unfold seqSrc at w1
  cases x with
  | d x =>
    cases x <;> simp only [items] at w1 <;> try exact w1.elim
    case str l =>
      cases r1 with
      | d r => cases r with
        | str z o => exact ⟨Its z, k _ _ _ w1 _ _ _ st1 hs1 (walk_str o), .inr (.inr ⟨z, rfl, rfl⟩)⟩
    case tup xs =>
      cases r1 with
      | d r => cases r with
        | tup l rr => exact ⟨_, k _ _ _ w1 _ _ _ st1 hs1 (walk_tup l rr), .inr (.inl ⟨_, _, rfl, SqT.same hs1.z l, rfl⟩)⟩
    case lst xs =>
      obtain ⟨a, rfl, ls, vs, l⟩ := src_of hs1 r1 (.inl ⟨rfl, rfl⟩)
      exact ⟨_, k _ _ _ w1 _ _ _ st1 hs1 (walk_list ls), .inl ⟨a, vs, rfl, l, rfl⟩⟩
  | ptr n =>
    simp only at w1
    cases e : μ1 n with
    | none => rw [e] at w1; exact w1.elim
    | some c =>
      rw [e] at w1
      cases c with
      | lst xs =>
        obtain ⟨a, rfl, ls, vs, l⟩ := src_of hs1 r1 (.inr ⟨n, rfl, e, rfl⟩)
        exact ⟨_, k _ _ _ w1 _ _ _ st1 hs1 (walk_list ls), .inl ⟨a, vs, rfl, l, rfl⟩⟩
      | dct ks vs => exact w1.elim
      | obj c fs => exact w1.elim
      | lok o0 kvs0 ks vs => exact w1.elim
      | lsA xs => exact w1.elim
      | dcT ks vs => exact w1.elim
theorem i_rng1 {tg a : Expr} {a' : CE} {p pos : Pos} (hg : Gl X "range") (hm : X.mg "range" = none) (h1 : notStar a = true) (ha : PE X a (TE' X G nm W call a')) : PI X tg (.Call (.Name "range" p) [a] [] pos) (TI' X G nm W call (.rng1 a')) := by
  refine PI.of (pi_range1 hg hm (pa_cons ha pa_nil (star_cons h1)) (star_cons h1)) fun σ H R ⟨Z, μ, ρ, Kp, E, hs, b, w, k⟩ => ?_
  rw [wpI] at w
  refine td_to hs b w fun x μ1 w1 v1 H1 Z1 st1 hs1 b1 r1 => ?_
  split at w1
  · rename_i j
    cases r1 with
    | d r =>
      cases r
      refine ⟨j, rfl, w1.1.1, w1.1.2, k _ _ _ w1.2 _ _ _ st1 hs1 ?_⟩
      have := walk_range (X := X) (G := G) (nm := nm) (Z := Z1) (i := 0) (j := j)
      simpa using this
  · exact w1.elim
theorem i_rng2 {tg a c : Expr} {a' c' : CE} {p pos : Pos} (hg : Gl X "range") (hm : X.mg "range" = none) (h1 : notStar a = true) (h2 : notStar c = true) (ha : PE X a (TE' X G nm W call a')) (hc : PE X c (TE' X G nm W call c')) : PI X tg (.Call (.Name "range" p) [a, c] [] pos) (TI' X G nm W call (.rng2 a' c')) := by
  refine PI.of (pi_range2 hg hm (pa_cons ha (pa_cons hc pa_nil (star_cons h2)) (star_cons h1)) (by rw [star_cons h1, star_cons h2]; rfl) (star_cons h2)) fun σ H R ⟨Z, μ, ρ, Kp, E, hs, b, w, k⟩ => ?_
  rw [wpI] at w
  refine td_to hs b w fun x μ1 w1 v1 H1 Z1 st1 hs1 b1 r1 => td_to hs1 b1 w1 fun y μ2 w2 v2 H2 Z2 st2 hs2 b2 r2 => ?_
  split at w2
  · rename_i i j
    cases r1 with
    | d r1 =>
    cases r1
    cases r2 with
    | d r2 =>
    cases r2
    exact ⟨i, j, rfl, ⟨w2.1.1, w2.1.2, w2.2.1.1, w2.2.1.2⟩, k _ _ _ w2.2.2 _ _ _ (Cr.Same.tr st1 st2) hs2 walk_range⟩
  · exact w2.elim
theorem enumD_len : ∀ {i : Int} {xs : List D}, (enumD i xs).length = xs.length
  | _, [] => rfl
  | _, _ :: xs => by simp [enumD, enumD_len (xs := xs)]
theorem enumD_get : ∀ {i : Int} {xs : List D} {k : Nat} {d : D}, (enumD i xs)[k]? = some d → ∃ x, xs[k]? = some x ∧ d = .tup [.int (i + k), x]
  | _, [], _, _, h => by simp [enumD] at h
  | i, x :: xs, 0, d, h => by simp [enumD] at h; exact ⟨x, rfl, by rw [← h]; simp⟩
  | i, x :: xs, k + 1, d, h => by
    obtain ⟨y, e1, e2⟩ := enumD_get (xs := xs) (k := k) (by simpa [enumD] using h)
    refine ⟨y, by simpa using e1, ?_⟩
    rw [e2]
    have : i + 1 + (k : Int) = i + ((k + 1 : Nat) : Int) := by omega
    rw [this]
theorem walk_enum {src : Option (Nat × Cell)} {a : Addr} {xs : List D} (h : LstSrc X.K G nm Z src a xs) : WalkOk X.K G nm Z src (enumD 0 xs) (Ite X.K a) := by
  refine ⟨fun i Z' H μ hi st hs sl => ?_, fun i d Z' H μ x H' e st hs sl y => ?_, fun Z' H μ st hs sl => ?_⟩
  · obtain ⟨vs, l, r⟩ := h Z' H μ st hs sl
    rw [enumD_len] at hi
    obtain ⟨v, e1, _⟩ := r.get (List.getElem?_eq_getElem hi)
    exact ⟨vs, v, l, e1⟩
  · obtain ⟨vs, l, r⟩ := h Z' H μ st hs sl
    obtain ⟨u, e1, rfl⟩ := enumD_get e
    obtain ⟨w, e2, rw'⟩ := r.get e1
    obtain ⟨T, x', rfl, hT, rfl, y⟩ := y
    have := y vs l
    rw [e2] at this
    cases this
    obtain ⟨h2, st2⟩ := hs.frozen (o := .tup [.int ((i : Nat) : Int), w]) hT
    refine ⟨_, st2, h2, .tup (SqT.of upd_same) (.cons ?_ (.cons (rw'.same st2) .nil))⟩
    have e0 : (0 : Int) + (i : Int) = ((i : Nat) : Int) := by omega
    rw [e0]
    exact .int _
  · obtain ⟨vs, l, r⟩ := h Z' H μ st hs sl
    exact ⟨vs, l, by rw [r.length, enumD_len]; exact Nat.le_refl _⟩
theorem walk_enumT {a : Addr} {vs : List V} {xs : List D} (l : SqT X.K Z a vs) (r : Reps X.K G nm Z vs xs) : WalkOk X.K G nm Z none (enumD 0 xs) (IteT X.K a) := by
  refine ⟨fun i Z' H μ hi st hs sl => ?_, fun i d Z' H μ x H' e st hs sl y => ?_, fun Z' H μ st hs sl => ?_⟩
  · rw [enumD_len] at hi
    obtain ⟨v, e1, _⟩ := r.get (List.getElem?_eq_getElem hi)
    exact ⟨vs, v, SqT.same hs.z (SqT.same st l), e1⟩
  · obtain ⟨u, e1, rfl⟩ := enumD_get e
    obtain ⟨w, e2, rw'⟩ := r.get e1
    obtain ⟨T, x', rfl, hT, rfl, y⟩ := y
    have := y vs (SqT.same hs.z (SqT.same st l))
    rw [e2] at this
    cases this
    obtain ⟨h2, st2⟩ := hs.frozen (o := .tup [.int ((i : Nat) : Int), w]) hT
    refine ⟨_, st2, h2, .tup (SqT.of upd_same) (.cons ?_ (.cons (rw'.same (Cr.Same.tr st st2)) .nil))⟩
    have e0 : (0 : Int) + (i : Int) = ((i : Nat) : Int) := by omega
    rw [e0]
    exact .int _
  · exact ⟨vs, SqT.same hs.z (SqT.same st l), by rw [r.length, enumD_len]⟩
theorem i_enum {e : Expr} {e' : CE} {p pos tpos : Pos} {elts : List Expr} {kk : Nat} (hg : Gl X "enumerate") (hm : X.mg "enumerate" = none) (h1 : notStar e = true) (he : PE X e (TE' X G nm W call e')) :
    PI X (.Tuple elts kk tpos) (.Call (.Name "enumerate" p) [e] [] pos) (TI' X G nm W call (.enum e')) := by
  refine PI.of (pi_enumA hg hm (pa_cons he pa_nil (star_cons h1)) (star_cons h1)) fun σ H R ⟨Z, μ, ρ, Kp, E, hs, b, w, k⟩ => ?_
  rw [wpI] at w
  refine td_to hs b w fun x μ1 w1 v1 H1 Z1 st1 hs1 b1 r1 => ?_
  unfold enuSrc lstSrc at w1
  split at w1
  · cases r1 with
    | d r => cases r with
      | tup l rr => exact ⟨_, _, rfl, .inr ⟨SqT.same hs1.z l, k _ _ _ w1 _ _ _ st1 hs1 (walk_enumT l rr)⟩⟩
  split at w1
  · rename_i xs _
    obtain ⟨a, rfl, ls, vs, l⟩ := src_of hs1 r1 (.inl ⟨rfl, rfl⟩)
    exact ⟨a, vs, rfl, .inl ⟨l, k _ _ _ w1 _ _ _ st1 hs1 (walk_enum ls)⟩⟩
  · exact w1.elim
  · rename_i n _
    split at w1
    · rename_i xs e
      obtain ⟨a, rfl, ls, vs, l⟩ := src_of hs1 r1 (.inr ⟨n, rfl, e, rfl⟩)
      exact ⟨a, vs, rfl, .inl ⟨l, k _ _ _ w1 _ _ _ st1 hs1 (walk_enum ls)⟩⟩
    · exact w1.elim
theorem zipD_len : ∀ {xs ys : List D}, (zipD xs ys).length = min xs.length ys.length
  | [], _ => by simp [zipD]
  | _ :: _, [] => by simp [zipD]
  | _ :: xs, _ :: ys => by simp [zipD, zipD_len (xs := xs) (ys := ys)]
theorem zipD_get : ∀ {xs ys : List D} {k : Nat} {d : D}, (zipD xs ys)[k]? = some d → ∃ x y, xs[k]? = some x ∧ ys[k]? = some y ∧ d = .tup [x, y]
  | [], _, _, _, h => by simp [zipD] at h
  | _ :: _, [], _, _, h => by simp [zipD] at h
  | x :: xs, y :: ys, 0, d, h => by simp [zipD] at h; exact ⟨x, y, rfl, rfl, h.symm⟩
  | x :: xs, y :: ys, k + 1, d, h => by
    obtain ⟨a, b, e1, e2, e3⟩ := zipD_get (xs := xs) (ys := ys) (k := k) (by simpa [zipD] using h)
    exact ⟨a, b, by simpa using e1, by simpa using e2, e3⟩
theorem walk_zip {a b : Addr} {vs ws : List V} {xs ys : List D} (l1 : LstAt X.K Z a vs) (l2 : LstAt X.K Z b ws) (r1 : Reps X.K G nm Z vs xs) (r2 : Reps X.K G nm Z ws ys) : WalkOk X.K G nm Z none (zipD xs ys) (Itz X.K a b) := by
  refine ⟨fun i Z' H μ hi st hs sl => ?_, fun i d Z' H μ x H' e st hs sl y => ?_, fun Z' H μ st hs sl => ?_⟩
  · rw [zipD_len] at hi
    obtain ⟨v, e1, _⟩ := r1.get (List.getElem?_eq_getElem (show i < xs.length by omega))
    obtain ⟨w, e2, _⟩ := r2.get (List.getElem?_eq_getElem (show i < ys.length by omega))
    exact ⟨vs, ws, v, w, (LstAt.same hs.z (LstAt.same st l1)).sq, (LstAt.same hs.z (LstAt.same st l2)).sq, e1, e2⟩
  · obtain ⟨u1, u2, e1, e2, rfl⟩ := zipD_get e
    obtain ⟨v, e3, rv⟩ := r1.get e1
    obtain ⟨w, e4, rw'⟩ := r2.get e2
    obtain ⟨T, x', y', rfl, hT, rfl, y1, y2⟩ := y
    have q1 := y1 vs (LstAt.same hs.z (LstAt.same st l1)).sq
    have q2 := y2 ws (LstAt.same hs.z (LstAt.same st l2)).sq
    rw [e3] at q1; cases q1
    rw [e4] at q2; cases q2
    obtain ⟨h2, st2⟩ := hs.frozen (o := .tup [v, w]) hT
    exact ⟨_, st2, h2, .tup (SqT.of upd_same) (.cons (rv.same (Cr.Same.tr st st2)) (.cons (rw'.same (Cr.Same.tr st st2)) .nil))⟩
  · refine ⟨vs, ws, (LstAt.same hs.z (LstAt.same st l1)).sq, (LstAt.same hs.z (LstAt.same st l2)).sq, ?_⟩
    rw [zipD_len, r1.length, r2.length]
    omega
theorem walk_zipT {a b : Addr} {vs ws : List V} {xs ys : List D} (l1 : SqT X.K Z a vs) (l2 : SqT X.K Z b ws) (r1 : Reps X.K G nm Z vs xs) (r2 : Reps X.K G nm Z ws ys) : WalkOk X.K G nm Z none (zipD xs ys) (RZ.ItzT X.K a b) := by
  refine ⟨fun i Z' H μ hi st hs sl => ?_, fun i d Z' H μ x H' e st hs sl y => ?_, fun Z' H μ st hs sl => ?_⟩
  · rw [zipD_len] at hi
    obtain ⟨v, e1, _⟩ := r1.get (List.getElem?_eq_getElem (show i < xs.length by omega))
    obtain ⟨w, e2, _⟩ := r2.get (List.getElem?_eq_getElem (show i < ys.length by omega))
    exact ⟨vs, ws, v, w, SqT.same hs.z (SqT.same st l1), SqT.same hs.z (SqT.same st l2), e1, e2⟩
  · obtain ⟨u1, u2, e1, e2, rfl⟩ := zipD_get e
    obtain ⟨v, e3, rv⟩ := r1.get e1
    obtain ⟨w, e4, rw'⟩ := r2.get e2
    obtain ⟨T, x', y', rfl, hT, rfl, y1, y2⟩ := y
    have q1 := y1 vs (SqT.same hs.z (SqT.same st l1))
    have q2 := y2 ws (SqT.same hs.z (SqT.same st l2))
    rw [e3] at q1; cases q1
    rw [e4] at q2; cases q2
    obtain ⟨h2, st2⟩ := hs.frozen (o := .tup [v, w]) hT
    exact ⟨_, st2, h2, .tup (SqT.of upd_same) (.cons (rv.same (Cr.Same.tr st st2)) (.cons (rw'.same (Cr.Same.tr st st2)) .nil))⟩
  · refine ⟨vs, ws, SqT.same hs.z (SqT.same st l1), SqT.same hs.z (SqT.same st l2), ?_⟩
    rw [zipD_len, r1.length, r2.length]
    omega
theorem walk_zipM {a b : Addr} {vs ws : List V} {xs ys : List D} (l1 : SqT X.K Z a vs) (l2 : LstAt X.K Z b ws) (r1 : Reps X.K G nm Z vs xs) (r2 : Reps X.K G nm Z ws ys) : WalkOk X.K G nm Z none (zipD xs ys) (ItzM X.K a b) := by
  have L1 : ∀ {Z' μ H}, Same Z Z' → HSim X.K G nm Z' μ H → SqT X.K H a vs := fun st hs => SqT.same hs.z (SqT.same st l1)
  have L2 : ∀ {Z' μ H}, Same Z Z' → HSim X.K G nm Z' μ H → SqL X.K H b ws := fun st hs => (LstAt.same hs.z (LstAt.same st l2)).sq
  refine ⟨fun i Z' H μ hi st hs sl => ?_, fun i d Z' H μ x H' e st hs sl y => ?_, fun Z' H μ st hs sl => ?_⟩
  · rw [zipD_len] at hi
    obtain ⟨v, e1, _⟩ := r1.get (List.getElem?_eq_getElem (show i < xs.length by omega))
    obtain ⟨w, e2, _⟩ := r2.get (List.getElem?_eq_getElem (show i < ys.length by omega))
    exact ⟨vs, ws, v, w, L1 st hs, L2 st hs, e1, e2⟩
  · obtain ⟨u1, u2, e1, e2, rfl⟩ := zipD_get e
    obtain ⟨v, e3, rv⟩ := r1.get e1
    obtain ⟨w, e4, rw'⟩ := r2.get e2
    obtain ⟨T, x', y', rfl, hT, rfl, y1, y2⟩ := y
    have q1 := y1 vs (L1 st hs)
    have q2 := y2 ws (L2 st hs)
    rw [e3] at q1; cases q1
    rw [e4] at q2; cases q2
    obtain ⟨h2, st2⟩ := hs.frozen (o := .tup [v, w]) hT
    exact ⟨_, st2, h2, .tup (SqT.of upd_same) (.cons (rv.same (Cr.Same.tr st st2)) (.cons (rw'.same (Cr.Same.tr st st2)) .nil))⟩
  · refine ⟨vs, ws, L1 st hs, L2 st hs, ?_⟩
    rw [zipD_len, r1.length, r2.length]
    omega
theorem i_zip {e e2 : Expr} {e' e2' : CE} {p pos tpos : Pos} {elts : List Expr} {kk : Nat} (hg : Gl X "zip") (hm : X.mg "zip" = none) (h1 : notStar e = true) (h2 : notStar e2 = true) (he : PE X e (TE' X G nm W call e')) (he2 : PE X e2 (TE' X G nm W call e2')) :
    PI X (.Tuple elts kk tpos) (.Call (.Name "zip" p) [e, e2] [] pos) (TI' X G nm W call (.zip e' e2')) := by
  refine PI.of (pi_zip3 hg hm (pa_cons he (pa_cons he2 pa_nil (star_cons h2)) (star_cons h1)) (star_cons h1) (star_all (by simp [h2])).1) fun σ H R ⟨Z, μ, ρ, Kp, E, hs, b, w, k⟩ => ?_
  rw [wpI] at w
  refine td_to hs b w fun x μ1 w1 v1 H1 Z1 st1 hs1 b1 r1 => td_to hs1 b1 w1 fun y μ2 w2 v2 H2 Z2 st2 hs2 b2 r2 => ?_
  split at w2
  · cases r1 with
    | d r1 =>
    cases r2 with
    | d r2 =>
    cases r1 with
    | lst l1 q1 =>
    cases r2 with
    | lst l2 q2 =>
    exact ⟨_, _, _, _, rfl, .inl ⟨(LstAt.same hs2.z (LstAt.same st2 l1)).sq, (LstAt.same hs2.z l2).sq, k _ _ _ w2 _ _ _ (Cr.Same.tr st1 st2) hs2 (walk_zip (LstAt.same st2 l1) l2 (q1.same st2) q2)⟩⟩
  · cases r1 with
    | d r1 =>
    cases r2 with
    | d r2 =>
    cases r1 with
    | tup l1 q1 =>
    cases r2 with
    | tup l2 q2 =>
    exact ⟨_, _, _, _, rfl, .inr (.inl ⟨SqT.same hs2.z (SqT.same st2 l1), SqT.same hs2.z l2, k _ _ _ w2 _ _ _ (Cr.Same.tr st1 st2) hs2 (walk_zipT (SqT.same st2 l1) l2 (q1.same st2) q2)⟩)⟩
  · cases r1 with
    | d r1 =>
    cases r2 with
    | d r2 =>
    cases r1 with
    | tup l1 q1 =>
    cases r2 with
    | lst l2 q2 =>
    exact ⟨_, _, _, _, rfl, .inr (.inr ⟨SqT.same hs2.z (SqT.same st2 l1), (LstAt.same hs2.z l2).sq, k _ _ _ w2 _ _ _ (Cr.Same.tr st1 st2) hs2 (walk_zipM (SqT.same st2 l1) l2 (q1.same st2) q2)⟩)⟩
  · exact w2.elim
end
end Cr


/-! Cr16: comprehensions. -/
namespace Cr
open PySem PySem.Spec PyProof.Rows L2

section
variable {X : Cx} {G : Prog} {nm : Nm} {Wd : Wo} {lv : Nat} {W : WX} {call : Nat → List A → Store → KA → KX → Prop} {Z Z' H : Hp} {μ : Store} {pins : List (Addr × Obj)} {σ : L2.St} {s : Shared} {cell : Bool}
/-- no exception is wanted -/
abbrev W0 : WX := fun _ _ _ _ => False
theorem takes0' {X : Cx} : Takes X W0 := fun u s' ⟨_, _, _, _, _, _, _, _, _, _, _, _, _, _, _, _, w⟩ => w.elim
theorem wipe_in : ∀ {l : List Nat} {σ : L2.St} {j : Nat}, j ∈ l → (L2.wipe σ l)[j]? = if j < σ.length then some none else none
  | [], _, _, h => by cases h
  | i :: r, σ, j, h => by
    rw [L2.wipe, List.getElem?_set, L2.wipe_length]
    by_cases e : i = j
    · subst e
      rw [if_pos rfl]
    · rw [if_neg e]
      exact wipe_in (by
        rcases List.mem_cons.mp h with z | z
        · exact absurd z.symm e
        · exact z)
theorem wipe_only {l m : List Nat} {σ σ' : L2.St} (h : OnlyIn m (L2.wipe σ l) σ') (hm : ∀ j ∈ m, j ∈ l) : L2.wipe σ' l = L2.wipe σ l := by
  apply List.ext_getElem?
  intro j
  by_cases hj : j ∈ l
  · rw [wipe_in hj, wipe_in hj, h.1, L2.wipe_length]
  · rw [wipe_out hj, h.2 j (fun z => hj (hm j z))]
abbrev TC' (X : Cx) (G : Prog) (nm : Nm) (W : WX) (call : Nat → List A → Store → KA → KX → Prop) (e : CEs) : TT := TDT X.K G nm W (wpC G call e)
theorem PTs.of {ifs : List Expr} {t t' : TT} (h : PTs X ifs t) (m : ∀ σ H Q, t' σ H Q → t σ H Q) : PTs X ifs t' := ⟨fun pins s σ H Q I q => h.run pins s σ H Q I (m _ _ _ q)⟩
theorem c_nil : PTs X [] (TC' X G nm W call .nil) := PTs.of pts_nil fun σ H Q ⟨Z, μ, ρ, Kp, E, hs, b, w, k⟩ => by
  rw [wpC] at w
  exact k _ _ w _ _ same_refl hs
theorem c_one {c : Expr} {c' : CE} (h : PT X c (TT' X G nm W call c')) : PTs X [c] (TC' X G nm W call (.cons c' .nil)) := PTs.of (pts_one h) fun σ H Q ⟨Z, μ, ρ, Kp, E, hs, b, w, k⟩ => by
  rw [wpC] at w
  refine tdt_to hs b w fun t μ1 w1 H1 Z1 st1 hs1 b1 => ?_
  cases t with
  | true =>
    simp only [wpC] at w1
    exact k _ _ w1 _ _ st1 hs1
  | false => exact k _ _ w1 _ _ st1 hs1
/-- the reading of a comprehension -/
theorem comp_read {elt : CE} {t : Tg} {it : CI} {conds : CEs} {own : List Nat} {σ : L2.St} {H : Hp} {Q : VK} (ht : ∀ j ∈ tgS t, j ∈ own)
    (h : TE' X G nm W call (.comp cell elt t it conds own) σ H Q) : tLc (TI' X G nm W call it) (TG' X G nm t) (TC' X G nm W0 call conds) (TE' X G nm W0 call elt) own σ H Q := by
  obtain ⟨Z, μ, ρ, Kp, E, hs, b, w, k⟩ := h
  rw [wpE] at w
  refine ⟨Z, μ, ρ, _, E, hs, b, w, fun src xs μ1 w1 H1 Z1 J st1 hs1 wk D hD => ?_⟩
  have w2 := w1 D (hs1.free hD).2
  generalize hKf : (fun ds μ9 => match cell with
        | true => Kp (.ptr D) μ9
        | false => Kp (.d (.lst ds)) (Cr.del μ9 D)) = Kf at w2
  refine ⟨fun i m H => ∃ Z' μ' acc, i ≤ xs.length ∧ m = xs.length - i ∧ Same Z1 Z' ∧ HSim X.K G nm Z' μ' H ∧ compLoop D src _ (xs.drop i) acc μ' Kf, ⟨xs.length, Z1, _, [], Nat.zero_le _, rfl, same_refl, hs1.cell (c := .lst []) (o := .lst []) hD ⟨[], upd_same, .nil⟩, w2⟩, ?_⟩
  rintro i m H2 ⟨Z2, μ2, acc, hi, rfl, st2, hs2, w3⟩
  by_cases hlt : i < xs.length
  · rw [List.drop_eq_getElem_cons hlt, compLoop] at w3
    obtain ⟨sl, w3⟩ := w3
    refine .inr ⟨wk.go i Z2 H2 μ2 hlt st2 hs2 sl, _, fun H' nx => ⟨xs.length - (i + 1), by omega, nx⟩, fun x H3 y => ?_⟩
    obtain ⟨Z3, st3, hs3, rx⟩ := wk.yld i _ Z2 H2 μ2 x H3 (List.getElem?_eq_getElem hlt) st2 hs2 sl y
    have st13 := Cr.Same.tr st1 (Cr.Same.tr st2 st3)
    refine ⟨Z3, μ2, _, _, _, hs3, ssim_wipe (b.ss.same st13), rx, w3, fun ρ' σ' w4 ss' o => ⟨wipe_only o ht, ?_⟩⟩
    refine tdt_to (ρ := ρ') (E := fun _ _ _ => False) hs3 ⟨ss', fun _ _ _ z => z.elim⟩ w4 fun t μ4 w5 H4 Z4 st4 hs4 b4 => ?_
    cases t with
    | false =>
      rw [if_neg Bool.false_ne_true]
      exact ⟨Z4, μ4, acc, hlt, rfl, Cr.Same.tr st2 (Cr.Same.tr st3 st4), hs4, w5⟩
    | true =>
      rw [if_pos rfl]
      refine td_to hs4 b4 w5 fun a μ5 w6 v5 H5 Z5 st5 hs5 b5 r5 => ?_
      obtain ⟨d, μ6, Z6, st6, hs6, r6, eD, ln, w7⟩ := toD_of hs5 r5 w6
      obtain ⟨ws, q1, q2⟩ := hs6.cells D _ eD
      refine ⟨ws, q1, by rw [q2.length, ← line_eq]; exact ln, Z6, _, acc ++ [d], hlt, rfl, Cr.Same.tr st2 (Cr.Same.tr st3 (Cr.Same.tr st4 (Cr.Same.tr st5 st6))), hs6.wrote (c := .lst (acc ++ [d])) (o := .lst (ws ++ [v5])) eD ⟨_, upd_same, q2.append (.cons r6 .nil)⟩, w7⟩
  · have e : i = xs.length := by omega
    subst e
    rw [List.drop_length, compLoop] at w3
    obtain ⟨sl, eD, w3⟩ := w3
    refine .inl ⟨wk.stop Z2 H2 μ2 st2 hs2 sl, ?_⟩
    subst hKf
    cases cell with
    | true => exact k _ _ w3 _ _ _ (Cr.Same.tr st1 st2) hs2 (.ptr D)
    | false =>
      obtain ⟨ws, q1, q2⟩ := hs2.cells D _ eD
      obtain ⟨hs3, st3⟩ := hs2.froze eD q1
      exact k _ _ w3 _ _ _ (Cr.Same.tr st1 (Cr.Same.tr st2 st3)) hs3 (.d (.lst (LstAt.of upd_same) (q2.same st3)))
end
end Cr


/-! Cr17: comprehensions, ranges, new dicts, isinstance. -/
namespace Cr
open PySem PySem.Spec PyProof.Rows L2

section
variable {X : Cx} {G : Prog} {nm : Nm} {Wd : Wo} {lv : Nat} {W : WX} {call : Nat → List A → Store → KA → KX → Prop} {Z Z' H : Hp} {μ : Store} {pins : List (Addr × Obj)} {σ : L2.St} {s : Shared} {cell : Bool}
def notSetE : Expr → Bool
  | .Set _ _ _ => false
  | _ => true
theorem folded_of {e : Expr} (h : notSetE e = true) (env : PySem.Env) (x : Value) : foldedSetIterable e env x = pure x := by
  cases e <;> first | rfl | (exfalso; exact Bool.false_ne_true h)
/-- what of a block must hold -/
structure CompOk (X : Cx) (G : Prog) (nm : Nm) (W : WX) (call : Nat → List A → Store → KA → KX → Prop) (elt tg iter : Expr) (ifs : List Expr) (scope : Scope) (own : List (Str × Nat)) (elt' : CE) (t : Tg) (it : CI) (conds : CEs) : Prop where
  calm : X.calm = true
  nd : X.N.Nodup
  it : PI X tg iter (TI' X G nm W call it)
  ok : BlkOk X.N X.env.scope scope own
  own : ∀ j ∈ tgS t, j ∈ own.map (·.2)
  g : ∀ (s : Shared) (H : Hp) (C : Addr) (cl : List (Str × Addr)) (fp : List Addr), PG (X.blk s H scope (compEnvC scope cl C X.env) fp) tg (TG' X G nm t)
  c : ∀ (s : Shared) (H : Hp) (C : Addr) (cl : List (Str × Addr)) (fp : List Addr), PTs (X.blk s H scope (compEnvC scope cl C X.env) fp) ifs (TC' X G nm W0 call conds)
  e : ∀ (s : Shared) (H : Hp) (C : Addr) (cl : List (Str × Addr)) (fp : List Addr), PE (X.blk s H scope (compEnvC scope cl C X.env) fp) elt (TE' X G nm W0 call elt')
  st : notSetE iter = true
theorem e_comp {elt tg iter : Expr} {ifs : List Expr} {scope : Scope} {own : List (Str × Nat)} {elt' : CE} {t : Tg} {it : CI} {conds : CEs} {pos : Pos} (h : CompOk X G nm W call elt tg iter ifs scope own elt' t it conds) :
    PE X (.ListComp elt [⟨tg, iter, ifs, 0⟩] scope pos) (TE' X G nm W call (.comp cell elt' t it conds (own.map (·.2)))) :=
  PE.of (pe_lc h.calm h.nd h.it h.ok h.g h.c h.e (folded_of h.st _)) fun σ H Q w => comp_read h.own w

/-! ### list(range(..)) -/
theorem reps_rng {i j : Int} : Reps X.K G nm Z (rgV i j) (rangeD i j) := by
  unfold rgV rangeD
  generalize (List.range (j - i).toNat) = l
  induction l with
  | nil => exact .nil
  | cons k l ih => exact .cons (.int _) ih
theorem rg_fin {i j : Int} {Kp : KA} {Q : VK} {p : Addr} (hs : HSim X.K G nm Z μ H) (w : finL cell (rangeD i j) μ Kp) (k : ∀ a μ', Kp a μ' → FinA X.K G nm Z Q a μ') (hp : H p = none) : Q (.ref p) (upd H p (.lst (rgV i j))) := by
  have w3 : FinX X.K G nm cell Z μ Q (.lst (rangeD i j)) := by
    unfold FinX Cr.fin
    cases cell with
    | false => exact k _ _ w
    | true => exact fun a ha => k _ _ (w a ha)
  exact w3.list hs reps_rng hp
theorem e_rng1 {a : Expr} {a' : CE} {p p2 pos pos2 : Pos} (hc : X.calm = true) (hg : Gl X "list") (hm : X.mg "list" = none) (hg2 : Gl X "range") (hm2 : X.mg "range" = none) (h1 : notStar a = true) (ha : PE X a (TE' X G nm W call a')) :
    PE X (.Call (.Name "list" p) [.Call (.Name "range" p2) [a] [] pos2] [] pos) (TE' X G nm W call (.rng cell (.cons a' .nil))) := by
  refine PE.of (pe_listRg hc hg hm (prg_1 hg2 hm2 ha (star_cons h1)) (star_cons rfl)) fun σ H Q ⟨Z, μ, ρ, Kp, E, hs, b, w, k⟩ => ?_
  rw [wpE, wpEs] at w
  refine td_to hs b w fun x μ1 w1 v1 H1 Z1 st1 hs1 b1 r1 => ?_
  rw [wpEs] at w1
  split at w1
  · rename_i j e
    cases e
    cases r1 with
    | d r =>
    cases r
    obtain ⟨⟨s1, s2⟩, hl, w2⟩ := w1
    exact ⟨j, rfl, ⟨by omega, by omega, s1, s2, by have : line = 16777216 := rfl; omega⟩, fun q hq => rg_fin hs1 w2 (fun a μ' ka => (k a μ' ka).same st1) hq⟩
  · rename_i e
    cases e
  · exact w1.elim
theorem e_rng2 {a c : Expr} {a' c' : CE} {p p2 pos pos2 : Pos} (hc : X.calm = true) (hg : Gl X "list") (hm : X.mg "list" = none) (hg2 : Gl X "range") (hm2 : X.mg "range" = none) (h1 : notStar a = true) (h2 : notStar c = true) (ha : PE X a (TE' X G nm W call a')) (hcc : PE X c (TE' X G nm W call c')) :
    PE X (.Call (.Name "list" p) [.Call (.Name "range" p2) [a, c] [] pos2] [] pos) (TE' X G nm W call (.rng cell (.cons a' (.cons c' .nil)))) := by
  refine PE.of (pe_listRg hc hg hm (prg_2 hg2 hm2 ha hcc (star_cons h1) (star_cons h2) (star_all (by simp [h2])).1) (star_cons rfl)) fun σ H Q ⟨Z, μ, ρ, Kp, E, hs, b, w, k⟩ => ?_
  rw [wpE, wpEs] at w
  refine td_to hs b w fun x μ1 w1 v1 H1 Z1 st1 hs1 b1 r1 => ?_
  rw [wpEs] at w1
  refine td_to hs1 b1 w1 fun y μ2 w2 v2 H2 Z2 st2 hs2 b2 r2 => ?_
  rw [wpEs] at w2
  split at w2
  · rename_i e
    cases e
  · rename_i i j e
    cases e
    cases r1 with
    | d r1 =>
    cases r1
    cases r2 with
    | d r2 =>
    cases r2
    obtain ⟨⟨s1, s2⟩, ⟨s3, s4⟩, hl, w3⟩ := w2
    exact ⟨i, j, rfl, rfl, ⟨s1, s2, s3, s4, by have : line = 16777216 := rfl; omega⟩, fun q hq => rg_fin hs2 w3 (fun a μ' ka => (k a μ' ka).same (Cr.Same.tr st1 st2)) hq⟩
  · exact w2.elim

/-! ### {}, xs[::-1] -/
theorem e_dct {pos : Pos} : PE X (.Dict [] [] pos) (TE' X G nm W call .dct) := PE.of pe_dnewK fun σ H Q ⟨Z, μ, ρ, Kp, E, hs, b, w, k⟩ => by
  rw [wpE] at w
  exact fun p hp => k _ _ (w p (hs.free hp).2) _ _ _ same_refl (hs.cell (c := .dct [] []) (o := .dK []) hp ⟨[], upd_same, rfl, ⟨by simp, fun p h => by cases h⟩, .nil⟩) (.ptr p)
theorem e_dctT {pos : Pos} : PE X (.Dict [] [] pos) (TE' X G nm W call .dctT) := PE.of pe_dnewT fun σ H Q ⟨Z, μ, ρ, Kp, E, hs, b, w, k⟩ => by
  rw [wpE] at w
  exact fun p hp => k _ _ (w p (hs.free hp).2) _ _ _ same_refl (hs.cell (c := .dcT [] []) (o := .dT []) hp ⟨[], upd_same, rfl, by simp, .nil⟩) (.ptr p)
theorem e_srtSet {a : Expr} {a' : CE} {p p2 pos pos2 : Pos} (hc : X.calm = true) (hg : Gl X "sorted") (hm : X.mg "sorted" = none) (hg2 : Gl X "set") (hm2 : X.mg "set" = none) (h1 : notStar a = true) (ha : PE X a (TE' X G nm W call a')) :
    PE X (.Call (.Name "sorted" p) [.Call (.Name "set" p2) [a] [] pos2] [] pos) (TE' X G nm W call (.srtSet cell a')) := by
  refine PE.of (pe_srtSet hc hg hm hg2 hm2 ha (star_cons h1)) fun σ H Q ⟨Z, μ, ρ, Kp, E, hs, b, w, k⟩ => ?_
  rw [wpE] at w
  refine td_to hs b w fun x μ1 w1 v1 H1 Z1 st1 hs1 b1 r1 => ?_
  obtain ⟨u, ru, w2⟩ := rd_of hs1 r1 w1
  cases u <;> try exact w2.elim
  case lst xs =>
    obtain ⟨ns, e, hl, w2⟩ := w2
    obtain ⟨l, vs, rfl, sq, rr⟩ := ru.list hs1.z
    refine ⟨l, ns, rfl, by rw [← reps_ints rr e]; exact sq.sq, hl, fun ms p h1 h2 hp => ?_⟩
    have w3 : FinX X.K G nm cell Z1 μ1 Q (.lst (ms.map D.int)) := finX_of st1 k (w2 ms h1 h2)
    exact w3.list hs1 (reps_intL ms) hp
theorem e_rev {e : Expr} {e' : CE} {k0 : Nat} {p1 p2 p3 pos : Pos} (he : PE X e (TE' X G nm W call e')) : PE X (.Subscript e (.Slice none none (some (.UnaryOp .USub (.Constant (.int 1) k0 p1) p2)) p3) pos) (TE' X G nm W call (.rev cell e')) := by
  refine PE.of (pe_revX he) fun σ H Q ⟨Z, μ, ρ, Kp, E, hs, b, w, k⟩ => ?_
  rw [wpE] at w
  refine td_to hs b w fun x μ1 w1 v1 H1 Z1 st1 hs1 b1 r1 => ?_
  obtain ⟨u, ru, w2⟩ := rd_of hs1 r1 w1
  cases u <;> try exact w2.elim
  case lst xs =>
    obtain ⟨a, vs, rfl, l, rr⟩ := ru.list hs1.z
    have w3 : FinX X.K G nm cell Z1 μ1 Q (.lst xs.reverse) := finX_of st1 k w2
    exact ⟨a, vs, rfl, .inl ⟨l.sq, fun p hp => w3.list hs1 rr.reverse hp⟩⟩
  case tup xs =>
    obtain ⟨a, vs, rfl, l, rr⟩ := ru.tuple hs1.z
    have w3 : FinX X.K G nm cell Z1 μ1 Q (.tup xs.reverse) := finX_of st1 k w2
    refine ⟨a, vs, rfl, .inr ⟨l, fun p hp => ?_⟩⟩
    obtain ⟨h2, st⟩ := hs1.frozen (o := .tup vs.reverse) hp
    exact w3.z (by intro _ z; cases z) (by intro _ _ z; cases z) _ _ _ st h2 (.tup (SqT.of upd_same) (rr.reverse.same st))
end
end Cr


/-! Cr18: isinstance. -/
namespace Cr
open PySem PySem.Spec PyProof.Rows L2

def kitD (K : PySem.W.Frag) (nm : Nm) : D → Value
  | .non => .type "NoneType"
  | .bl _ => .type "bool"
  | .int _ => .type "int"
  | .str _ => .type "str"
  | .tup _ => .type "tuple"
  | .lst _ => .type "list"
  | .dct _ _ => .type "dict"
  | .set _ => .type "set"
  | .obj c _ => .ref (ca K nm c)
  | .exn c _ => .ref (ea K nm c)
def tyVal (K : PySem.W.Frag) (nm : Nm) : Ty → Value
  | .int => .type "int"
  | .bool => .type "bool"
  | .str => .type "str"
  | .tuple => .type "tuple"
  | .list => .type "list"
  | .own c => .ref (ca K nm c)
  | .exn c => .ref (ea K nm c)
def tyV (K : PySem.W.Frag) (nm : Nm) : Ty → V
  | .int => .ty "int"
  | .bool => .ty "bool"
  | .str => .ty "str"
  | .tuple => .ty "tuple"
  | .list => .ty "list"
  | .own c => .ref (ca K nm c)
  | .exn c => .ref (ea K nm c)
structure IsiOk (K : PySem.W.Frag) (G : Prog) (nm : Nm) (ts : List Ty) : Prop where
  cl : ∀ c ci, G.cls[c]? = some ci → Cls K (ca K nm c) ∧ PySem.W.findIn K (.ref (ca K nm c)) "__class__" = some (some (.builtin "object.__class__")) ∧ PySem.W.mroIn K (ca K nm c) (.type "object") = some true
  n : PySem.W.specialIn K (.builtin "object.__class__") "__get__" = some (some (.builtin "getset_descriptor.__get__"))
  t : PySem.W.takesIn K (.builtin "object.__class__") = some true
  k : ∀ d t, t ∈ ts → isiD G d = true → PySem.W.kitOne K (kitD K nm d) (tyVal K nm t) = some (isTy d t)

section
variable {X : Cx} {G : Prog} {nm : Nm} {Wd : Wo} {lv : Nat} {W : WX} {call : Nat → List A → Store → KA → KX → Prop} {Z Z' H : Hp} {μ : Store} {pins : List (Addr × Obj)} {σ : L2.St} {s : Shared} {cell : Bool}
theorem tyx_list {a : Addr} {vs : List V} (h : LstAt X.K H a vs) : TyX X.K H (.ref a) (.type "list") := by
  rcases h with (h | ⟨o, h⟩) | ⟨its, h, _⟩
  · exact .base (.lst h)
  · exact .base (.frz h)
  · exact .kList h rfl
theorem tyx_tup {a : Addr} {vs : List V} (h : SqT X.K H a vs) : TyX X.K H (.ref a) (.type "tuple") := by
  rcases h with (h | ⟨o, h⟩) | ⟨o, its, n, e1, e2, _⟩
  · exact .base (.tup h)
  · exact .fTuple h
  · exact .kTuple e1 e2
theorem tyx_of {ts : List Ty} (S : IsiOk X.K G nm ts) (hs : HSim X.K G nm Z μ H) {v : V} {x : A} {u : D} (r : ARep X.K G nm Z v x) (h : kindOf μ x = some u) (hu : isiD G u = true) : TyX X.K H v (kitD X.K nm u) := by
  cases r with
  | d r =>
    cases h
    cases r with
    | non => exact .base .non
    | bl b => exact .base (.bl b)
    | int i => exact .base (.int i)
    | str z _ => exact .base (.str z)
    | tup l _ => exact tyx_tup (SqT.same hs.z l)
    | lst l _ => exact tyx_list (LstAt.same hs.z l)
    | dct q _ _ _ =>
      rcases q with q | ⟨o, q⟩
      · exact .base (.dK (hs.z _ _ q))
      · exact .fDict (hs.z _ _ q)
    | obj q _ _ =>
      rename_i a c dx fs ws vs f rr
      cases e : G.cls[c]? with
      | none => simp [isiD, e] at hu
      | some ci =>
        obtain ⟨c1, c2, c3⟩ := S.cl c ci e
        exact .base (.ins (hs.z _ _ q) c1 c2 S.n S.t c3)
  | ptr n =>
    unfold kindOf at h
    cases e : μ n with
    | none => simp [e] at h
    | some c =>
      have q := hs.cells n c e
      cases c with
      | lst xs => simp [e] at h; subst h; obtain ⟨ws, q1, _⟩ := q; exact .base (.lst q1)
      | dct ks vs => simp [e] at h; subst h; obtain ⟨kvs, q1, _⟩ := q; exact .base (.dK q1)
      | lok o0 kvs0 ks vs => simp [e] at h; subst h; obtain ⟨q1, _⟩ := q; exact .fDict q1
      | lsA xs => simp [e] at h
      | dcT ks vs => simp [e] at h
      | obj c fs =>
        simp [e] at h
        subst h
        obtain ⟨dx, l, ws, q1, _⟩ := q
        cases e2 : G.cls[c]? with
        | none => simp [isiD, e2] at hu
        | some ci =>
          obtain ⟨c1, c2, c3⟩ := S.cl c ci e2
          exact .base (.ins q1 c1 c2 S.n S.t c3)
theorem e_isi {ts : List Ty} {t : Ty} {e c : Expr} {e' : CE} {p pos : Pos} (S : IsiOk X.K G nm ts) (ht : t ∈ ts) (hg : Gl X "isinstance") (hm : X.mg "isinstance" = none) (h1 : notStar e = true) (h2 : notStar c = true)
    (hc : PE X c (tC (tyV X.K nm t))) (he : PE X e (TE' X G nm W call e')) : PE X (.Call (.Name "isinstance" p) [e, c] [] pos) (TE' X G nm W call (.isi e' t)) := by
  refine PE.of (pe_callB call_isi hg hm boot_isinstance (pa_cons he (pa_cons hc pa_nil (star_cons h2)) (star_cons h1)) (by decide) (by decide) (star_cons h1) (star_all (by simp [h2])).1) fun σ H Q ⟨Z, μ, ρ, Kp, E, hs, b, w, k⟩ => ?_
  rw [wpE] at w
  refine td_to hs b w fun x μ1 w1 v1 H1 Z1 st1 hs1 b1 r1 => ?_
  split at w1
  · rename_i u eu
    obtain ⟨hu, w1⟩ := w1
    refine ⟨v1, tyV X.K nm t, kitD X.K nm u, tyVal X.K nm t, isTy u t, rfl, ?_, tyx_of S hs1 r1 eu hu, S.k u t ht hu, k _ _ w1 _ _ _ st1 hs1 (.d (.bl _))⟩
    cases t <;> first | exact .ty _ | exact .own _
  · exact w1.elim
end
end Cr


/-! Cr19: targets of assignments. -/
namespace Cr
open PySem PySem.Spec PyProof.Rows L2

section
variable {X : Cx} {G : Prog} {nm : Nm} {Wd : Wo} {lv : Nat} {W : WX} {call : Nat → List A → Store → KA → KX → Prop} {Z Z' H : Hp} {μ : Store} {pins : List (Addr × Obj)} {σ : L2.St} {s : Shared} {cell : Bool}
/-- what is wanted of an exception, whatever the slots are then -/
def ExOk (K : PySem.W.Frag) (G : Prog) (nm : Nm) (W : WX) (Z : Hp) (E : Nat → D → Cr.Env → Store → Prop) : Prop := ∀ c v ρ' μ', E c v ρ' μ' → ∀ Z' H' σ' cls d, Same Z Z' → HSim K G nm Z' μ' H' → SSim K G nm Z' ρ' σ' → ExRep K G nm Z' H' cls d c v → W cls d σ' H'
theorem ExOk.same {K : PySem.W.Frag} {E : Nat → D → Cr.Env → Store → Prop} (st : Same Z Z') (h : ExOk K G nm W Z E) : ExOk K G nm W Z' E := fun c v ρ' μ' e Z'' H' σ' cls d s => h c v ρ' μ' e Z'' H' σ' cls d (Cr.Same.tr st s)
theorem ExOk.bun {K : PySem.W.Frag} {E : Nat → D → Cr.Env → Store → Prop} {ρ : Cr.Env} (h : ExOk K G nm W Z E) (ss : SSim K G nm Z ρ σ) : Bun K G nm W σ Z ρ (fun x v μ1 => E x v ρ μ1) :=
  ⟨ss, fun c v μ' e H' Z' cls d st hs er => h c v ρ μ' e Z' H' σ cls d st hs (ss.same st) er⟩

/-! ### fields -/
theorem mem_putF {f : Str} {v : V} : ∀ {fs : List (Str × V)} {x : Str}, x ∈ (putF f v fs).map (·.1) → x = f ∨ x ∈ fs.map (·.1)
  | [], x, h => by simp [putF] at h; exact .inl h
  | (g, y) :: r, x, h => by
    unfold putF at h
    split at h
    · rename_i e
      rcases List.mem_cons.mp h with h | h
      · exact .inl (h.trans e)
      · exact .inr (by simp; right; simpa using h)
    · rcases List.mem_cons.mp h with h | h
      · exact .inr (by simp; left; exact h)
      · rcases mem_putF (fs := r) h with h | h
        · exact .inl h
        · exact .inr (by simp; right; simpa using h)
theorem nodup_putF {f : Str} {v : V} : ∀ {fs : List (Str × V)}, (fs.map (·.1)).Nodup → ((putF f v fs).map (·.1)).Nodup
  | [], _ => by simp [putF]
  | (g, y) :: r, h => by
    have h2 := List.nodup_cons.mp (show (g :: r.map (·.1)).Nodup from h)
    unfold putF
    split
    · exact h
    · rename_i e
      refine List.nodup_cons.mpr ⟨fun z => ?_, nodup_putF h2.2⟩
      rcases mem_putF z with z | z
      · exact e z
      · exact h2.1 z
theorem fldsAt_put {ns : List Str} {fs : List (Str × V)} {ws : List (Option V)} {i : Nat} {f : Str} {v : V} (h : FldsAt ns fs ws) (hi : ns[i]? = some f) : FldsAt ns (putF f v fs) (ws.set i (some v)) := by
  have hm : f ∈ ns := List.mem_of_getElem? hi
  refine ⟨⟨nodup_putF h.kn.1, fun x hx => ?_, h.kn.2.2⟩, h.nd, by rw [List.length_set]; exact h.eq, fun j x hj => ?_, fun x hx => ?_⟩
  · rcases mem_putF hx with e | hx
    · rw [e]; exact hm
    · exact h.kn.2.1 x hx
  · rw [lookup_putF]
    by_cases e : x = f
    · subst e
      rw [if_pos rfl]
      have ij : i = j := nodup_ix h.nd hi hj
      subst ij
      have hl : i < ws.length := by rw [h.eq]; exact (List.getElem?_eq_some_iff.mp hi).1
      rw [List.getElem?_set_self hl]; rfl
    · rw [if_neg e]
      have ij : i ≠ j := fun z => e (by rw [← z, hi] at hj; exact (Option.some.inj hj).symm)
      rw [List.getElem?_set_ne ij]
      exact h.get j x hj
  · rw [lookup_putF, if_neg (fun e => hx (by rw [e]; exact hm))]
    exact h.out x hx
theorem optReps_set : ∀ {ws : List (Option V)} {fs : List (Option A)} {i : Nat} {w : V} {a : A}, Paired (OptRep X.K G nm Z) ws fs → ARep X.K G nm Z w a → Paired (OptRep X.K G nm Z) (ws.set i (some w)) (fs.set i (some a))
  | _, _, _, _, _, .nil, _ => .nil
  | _, _, 0, _, _, .cons _ t, q => .cons q t
  | _, _, i + 1, _, _, .cons h t, q => .cons h (optReps_set t q)
abbrev TA2 (X : Cx) (G : Prog) (nm : Nm) (W : WX) (call : Nat → List A → Store → KA → KX → Prop) (t : Cr.TA) : TG := fun v σ H Q => ∃ Z μ ρ a K E, HSim X.K G nm Z μ H ∧ SSim X.K G nm Z ρ σ ∧ ExOk X.K G nm W Z E ∧ ARep X.K G nm Z v a ∧ wpTA G call t a ρ μ K E ∧
  ∀ ρ' μ', K ρ' μ' → ∀ Z' H' σ', Same Z Z' → HSim X.K G nm Z' μ' H' → SSim X.K G nm Z' ρ' σ' → Q σ' H'
theorem ta_slot {i : Nat} {x : Str} {pos : Pos} (hN : X.N.Nodup) (hi : X.N[i]? = some x) (hx : Loc X.env.scope x) (hf : X.fn x = true ∨ X.env.scope.names.lookup x = some .local) : PG X (.Name x pos) (TA2 X G nm W call (.slot i)) :=
  PG.of (pg_name hN hi hx hf) fun v σ H Q ⟨Z, μ, ρ, a, K, E, hs, ss, ex, r, w, k⟩ => by
    rw [wpTA] at w
    exact k _ _ w _ _ _ same_refl hs (ssim_set ss r)
theorem run_setFld {fi : Nat} {f : Str} {x a : A} {v : V} {ov u : Value} {vo : V} {K : Store → Prop} {Q : L2.St → Hp → Prop} (S : ClsOk X.K G nm Wd) (hx : nm.attr[fi]? = some f) (I : Inv X pins σ H s) (hs : HSim X.K G nm Z μ H) (ro : ARep X.K G nm Z vo x) (rvo : RelV vo ov) (ra : ARep X.K G nm Z v a) (rv : RelV v u)
    (w : setFld G x fi a μ K) (k : ∀ μ', K μ' → ∀ H', HSim X.K G nm Z μ' H' → Q σ H') : wpAny (model X.prog X.w) X.A (setAttr ov f u) (fun _ s' => ∃ σ' H', Inv X pins σ' H' s' ∧ Q σ' H') X.xe s := by
  cases ro with
  | d r => exact w.elim
  | ptr n =>
    obtain rfl : ov = Value.ref n := rvo
    unfold setFld at w
    simp only at w
    cases e : μ n with
    | none => rw [e] at w; exact w.elim
    | some c =>
      rw [e] at w
      cases c with
      | lst xs => exact w.elim
      | dct ks vs => exact w.elim
      | lok o0 kvs0 ks vs => exact w.elim
      | lsA xs => exact w.elim
      | dcT ks vs => exact w.elim
      | obj c fs =>
        simp only at w
        split at w
        · rename_i ci eci
          split at w
          · rename_i i ep ei
            obtain ⟨dx, l, ws, q1, q2, q3⟩ := hs.cells n _ e
            have hi : (Cr.fns G nm c)[i]? = some f := by rw [fns_of eci, List.getElem?_map, idx_get ei]; simp [List.getD_eq_getElem?_getD, hx]
            refine setattr_ok I q1 (S.cls c ci eci) (S.fld c ci fi i f eci ei ep hx) (by have := q2.len; omega) rv fun s' I' => ⟨σ, _, I', k _ w _ ?_⟩
            exact hs.wrote (c := .obj c (fs.set i (some a))) (o := .ins (ca X.K nm c) dx (putF f v l)) e ⟨dx, _, _, upd_same, fldsAt_put q2 hi, optReps_set q3 ra⟩
          · exact w.elim
        · exact w.elim
theorem ta_fld {fi : Nat} {f : Str} {o : Expr} {o' : CE} {pos : Pos} (S : ClsOk X.K G nm Wd) (hx : nm.attr[fi]? = some f) (ho : PE X o (TE' X G nm W call o')) : PG X (.Attribute o f pos) (TA2 X G nm W call (.fld o' fi)) := by
  refine ⟨fun pins s σ H v u Q I r ⟨Z, μ, ρ, a, K, E, hs, ss, ex, ra, w, k⟩ => ?_⟩
  rw [wpTA] at w
  show wpAny _ _ (do let ov ← holding [u] (eval o X.env); standAt pos.atName; holding [u, ov] (PySem.setAttr ov f u); release [u, ov] []) _ _ _
  refine wpAny_bind (wpAny_holding (thn (ho.run pins s σ H (fun vo H1 => ∃ Z1 μ1 x, Same Z Z1 ∧ HSim X.K G nm Z1 μ1 H1 ∧ ARep X.K G nm Z1 vo x ∧ setFld G x fi a μ1 fun μ2 => K ρ μ2) I (td_to hs (ex.bun ss) w fun x μ1 w1 v1 H1 Z1 st1 hs1 b1 r1 => ⟨Z1, μ1, x, st1, hs1, r1, w1⟩))
    fun ov s1 ⟨vo, H1, I1, rvo, Z1, μ1, x, st1, hs1, r1, w1⟩ => ?_))
  refine wpAny_bind (wpAny_standAt (wpAny_bind (wpAny_holding (thn (run_setFld S hx I1 hs1 r1 rvo (ra.same st1) r w1 fun μ' kk H' hs' => k _ _ kk _ _ _ st1 hs' (ss.same st1)) fun _ s3 q3 => ?_))))
  exact wpAny_release q3
end
end Cr


/-! Cr20: items that are stored, several targets. -/
namespace Cr
open PySem PySem.Spec PyProof.Rows L2

section
variable {X : Cx} {G : Prog} {nm : Nm} {Wd : Wo} {lv : Nat} {W : WX} {call : Nat → List A → Store → KA → KX → Prop} {Z Z' H : Hp} {μ : Store} {pins : List (Addr × Obj)} {σ : L2.St} {s : Shared} {cell : Bool}
theorem putK_cons {p : Key × V} {r : List (Key × V)} {k : Key} {v : V} (nd : ((p :: r).map (·.1)).Nodup) : L2.putK (p :: r) k v = if p.1 = k then (k, v) :: r else p :: L2.putK r k v := by
  have h2 := List.nodup_cons.mp (show (p.1 :: r.map (·.1)).Nodup from nd)
  by_cases e : p.1 = k
  · rw [if_pos e]
    unfold L2.putK
    rw [if_pos (by simp [e])]
    simp only [List.map_cons, if_pos e]
    congr 1
    · rw [← e]
    · have : ∀ q ∈ r, (if q.1 = k then (q.1, v) else q) = q := fun q hq => if_neg fun z => h2.1 (List.mem_map.mpr ⟨q, hq, by rw [z, e]⟩)
      rw [List.map_congr_left this]
      simp
  · rw [if_neg e]
    unfold L2.putK
    by_cases a : (r.any fun kv => decide (kv.1 = k)) = true
    · rw [if_pos a, if_pos (by simp only [List.any_cons, a, Bool.or_true])]
      simp [e]
    · rw [if_neg a, if_neg (by simp only [List.any_cons, decide_eq_false e, Bool.false_or]; exact a)]
      rfl
theorem mem_putK {k : Key} {v : V} : ∀ {kvs : List (Key × V)} {q : Key × V}, (kvs.map (·.1)).Nodup → q ∈ L2.putK kvs k v → q.1 = k ∨ q ∈ kvs
  | [], q, _, h => by simp [L2.putK] at h; exact .inl (by rw [h])
  | p :: r, q, nd, h => by
    rw [putK_cons nd] at h
    have h2 := List.nodup_cons.mp (show (p.1 :: r.map (·.1)).Nodup from nd)
    split at h
    · rcases List.mem_cons.mp h with e | h
      · exact .inl (by rw [e])
      · exact .inr (List.mem_cons_of_mem _ h)
    · rcases List.mem_cons.mp h with e | h
      · exact .inr (by rw [e]; simp)
      · rcases mem_putK h2.2 h with e | h
        · exact .inl e
        · exact .inr (List.mem_cons_of_mem _ h)
theorem put_rep {k : Key} {v : V} {x : D} (rx : Rep X.K G nm Z v x) : ∀ {kvs : List (Key × V)} {vs : List D}, (kvs.map (·.1)).Nodup → Reps X.K G nm Z (kvs.map (·.2)) vs →
    Cr.putK (keyD k) (kvs.map fun p => keyD p.1) = (L2.putK kvs k v).map (fun p => keyD p.1) ∧ Reps X.K G nm Z ((L2.putK kvs k v).map (·.2)) (Cr.putV (keyD k) x (kvs.map fun p => keyD p.1) vs) ∧ ((L2.putK kvs k v).map (·.1)).Nodup
  | [], vs, _, r => by
    cases r
    refine ⟨rfl, ?_, by simp [L2.putK]⟩
    exact .cons rx .nil
  | p :: kvs, vs, nd, r => by
    cases r with
    | @cons _ _ y ys h t =>
      have h2 := List.nodup_cons.mp (show (p.1 :: kvs.map (·.1)).Nodup from nd)
      obtain ⟨i1, i2, i3⟩ := put_rep (k := k) (kvs := kvs) rx h2.2 t
      rw [putK_cons nd]
      by_cases e : p.1 = k
      · rw [if_pos e]
        refine ⟨?_, ?_, ?_⟩
        · simp [Cr.putK, e, eqD_key]
        · simp only [List.map_cons, Cr.putV, e, eqD_key]
          simp
          exact .cons rx t
        · show (k :: kvs.map (·.1)).Nodup
          rw [← e]
          exact nd
      · rw [if_neg e]
        refine ⟨?_, ?_, ?_⟩
        · simp only [List.map_cons, Cr.putK, eqD_key]
          simp [e, i1]
        · simp only [List.map_cons, Cr.putV, eqD_key]
          simp only [decide_eq_true_eq, if_neg e]
          exact .cons h i2
        · refine List.nodup_cons.mpr ⟨fun z => ?_, i3⟩
          obtain ⟨q, hq, eq⟩ := List.mem_map.mp z
          rcases mem_putK h2.2 hq with e2 | hq
          · exact e (eq.symm.trans e2)
          · exact h2.1 (List.mem_map.mpr ⟨q, hq, eq⟩)
theorem putKT_cons {p : List Key × V} {r : List (List Key × V)} {k : List Key} {v : V} (nd : ((p :: r).map (·.1)).Nodup) : L2.putK (p :: r) k v = if p.1 = k then (k, v) :: r else p :: L2.putK r k v := by
  have h2 := List.nodup_cons.mp (show (p.1 :: r.map (·.1)).Nodup from nd)
  by_cases e : p.1 = k
  · rw [if_pos e]
    unfold L2.putK
    rw [if_pos (by simp [e])]
    simp only [List.map_cons, if_pos e]
    congr 1
    · rw [← e]
    · have : ∀ q ∈ r, (if q.1 = k then (q.1, v) else q) = q := fun q hq => if_neg fun z => h2.1 (List.mem_map.mpr ⟨q, hq, by rw [z, e]⟩)
      rw [List.map_congr_left this]
      simp
  · rw [if_neg e]
    unfold L2.putK
    by_cases a : (r.any fun kv => decide (kv.1 = k)) = true
    · rw [if_pos a, if_pos (by simp only [List.any_cons, a, Bool.or_true])]
      simp [e]
    · rw [if_neg a, if_neg (by simp only [List.any_cons, decide_eq_false e, Bool.false_or]; exact a)]
      rfl
theorem mem_putKT {k : List Key} {v : V} : ∀ {kvs : List (List Key × V)} {q : List Key × V}, (kvs.map (·.1)).Nodup → q ∈ L2.putK kvs k v → q.1 = k ∨ q ∈ kvs
  | [], q, _, h => by simp [L2.putK] at h; exact .inl (by rw [h])
  | p :: r, q, nd, h => by
    rw [putKT_cons nd] at h
    have h2 := List.nodup_cons.mp (show (p.1 :: r.map (·.1)).Nodup from nd)
    split at h
    · rcases List.mem_cons.mp h with e | h
      · exact .inl (by rw [e])
      · exact .inr (List.mem_cons_of_mem _ h)
    · rcases List.mem_cons.mp h with e | h
      · exact .inr (by rw [e]; simp)
      · rcases mem_putKT h2.2 h with e | h
        · exact .inl e
        · exact .inr (List.mem_cons_of_mem _ h)
theorem put_repT {k : List Key} {v : V} {x : D} (rx : Rep X.K G nm Z v x) : ∀ {kvs : List (List Key × V)} {vs : List D}, (kvs.map (·.1)).Nodup → Reps X.K G nm Z (kvs.map (·.2)) vs →
    Cr.putK (keyT k) (kvs.map fun p => keyT p.1) = (L2.putK kvs k v).map (fun p => keyT p.1) ∧ Reps X.K G nm Z ((L2.putK kvs k v).map (·.2)) (Cr.putV (keyT k) x (kvs.map fun p => keyT p.1) vs) ∧ ((L2.putK kvs k v).map (·.1)).Nodup
  | [], vs, _, r => by
    cases r
    refine ⟨rfl, ?_, by simp [L2.putK]⟩
    exact .cons rx .nil
  | p :: kvs, vs, nd, r => by
    cases r with
    | @cons _ _ y ys h t =>
      have h2 := List.nodup_cons.mp (show (p.1 :: kvs.map (·.1)).Nodup from nd)
      obtain ⟨i1, i2, i3⟩ := put_repT (k := k) (kvs := kvs) rx h2.2 t
      rw [putKT_cons nd]
      by_cases e : p.1 = k
      · rw [if_pos e]
        refine ⟨?_, ?_, ?_⟩
        · simp [Cr.putK, e, eqD_keyT]
        · simp only [List.map_cons, Cr.putV, e, eqD_keyT]
          simp
          exact .cons rx t
        · show (k :: kvs.map (·.1)).Nodup
          rw [← e]
          exact nd
      · rw [if_neg e]
        refine ⟨?_, ?_, ?_⟩
        · simp only [List.map_cons, Cr.putK, eqD_keyT]
          simp [e, i1]
        · simp only [List.map_cons, Cr.putV, eqD_keyT]
          simp only [decide_eq_true_eq, if_neg e]
          exact .cons h i2
        · refine List.nodup_cons.mpr ⟨fun z => ?_, i3⟩
          obtain ⟨q, hq, eq⟩ := List.mem_map.mp z
          rcases mem_putKT h2.2 hq with e2 | hq
          · exact e (eq.symm.trans e2)
          · exact h2.1 (List.mem_map.mpr ⟨q, hq, eq⟩)
theorem keysOk_put {k : Key} {v : V} {kvs : List (Key × V)} (h : KeysOk kvs) (nd : ((L2.putK kvs k v).map (·.1)).Nodup) (hk : ∀ z, k = Sum.inr z → strOk z = true) : KeysOk (L2.putK kvs k v) := by
  refine ⟨nd, fun p hp z e => ?_⟩
  rcases mem_putK h.1 hp with e2 | hp
  · exact hk z (by rw [← e2, e])
  · exact h.2 p hp z e
/-- o[i] = v, by what Core asks -/
def tSub (K : PySem.W.Frag) (G : Prog) (nm : Nm) : TSet := fun o i v H Q => ∃ Z μ x y a Ks, HSim K G nm Z μ H ∧ ARep K G nm Z o x ∧ ARep K G nm Z i y ∧ ARep K G nm Z v a ∧ setSub x y a μ Ks ∧ ∀ μ', Ks μ' → ∀ H' Z', Same Z Z' → HSim K G nm Z' μ' H' → Q H'
theorem set_sub (hu : X.A.units + 100 < cLine) : PSet X (tSub X.K G nm) := by
  intro pins s σ H o i v ov iv u Q I ro ri rv ⟨Z, μ, x, y, a, Ks, hs, rx, ry, ra, w, k⟩
  cases rx with
  | d r => exact w.elim
  | ptr n =>
    unfold setSub at w
    simp only at w
    cases e : μ n with
    | none => rw [e] at w; exact w.elim
    | some c =>
      rw [e] at w
      cases c with
      | obj c fs => exact w.elim
      | lok o0 kvs0 ks vs => exact w.elim
      | lsA xs => exact w.elim
      | dcT ks vs => exact w.elim
      | lst xs =>
        simp only at w
        split at w
        · rename_i k0
          obtain ⟨d, μ1, Z1, st1, hs1, rd1, j, ej, e1, w⟩ := toD_of hs ra w
          obtain ⟨ws, q1, q2⟩ := hs1.cells n _ e1
          cases ry with
          | d ry =>
          cases ry
          refine set_list pins s σ H _ _ v ov iv u Q I ro ri rv ⟨n, ws, k0, j, rfl, rfl, q1, by rw [q2.length]; exact ej, ?_⟩
          exact k _ w _ _ st1 (hs1.wrote (c := .lst (xs.set j d)) (o := .lst (ws.set j v)) e1 ⟨_, upd_same, q2.set j rd1⟩)
        · exact w.elim
      | dct ks vs =>
        simp only at w
        obtain ⟨kd, rk, w⟩ := rd_of hs ry w
        obtain ⟨d, μ1, Z1, st1, hs1, rd1, hk, hl, e1, w⟩ := toD_of hs ra w
        obtain ⟨key, rfl, rfl⟩ := key_of_rep hk rk
        obtain ⟨kvs, q1, q2, q3, q4⟩ := hs1.cells n _ e1
        subst q2
        obtain rfl : ov = Value.ref n := ro
        have hl' : kvs.length < sizeLine := by rw [← line_eq]; simpa using hl
        obtain ⟨p1, p2, p3⟩ := put_rep (k := key) rd1 q3.1 q4
        have hkey : ∀ z, key = Sum.inr z → strOk z = true := fun z ez => by
          subst ez
          obtain ⟨z', e1, e2, e3⟩ := rk.str
          have : z = z' := by injection e1
          rw [this]; exact e3
        refine d_setItem (by omega) I (DPut.k q1 hl') ri rv fun s' I' => ⟨_, I', k _ w _ _ st1 ?_⟩
        exact hs1.wrote (c := .dct (Cr.putK (keyD key) _) (Cr.putV (keyD key) d _ vs)) (o := .dK (L2.putK kvs key v)) e1 ⟨_, upd_same, p1, keysOk_put q3 p3 hkey, p2⟩
def notSlice : Expr → Bool
  | .Slice _ _ _ _ => false
  | _ => true
theorem ta_sub {o i : Expr} {o' i' : CE} {pos : Pos} (hu : X.A.units + 100 < cLine) (hi : notSlice i = true) (ho : PE X o (TE' X G nm W call o')) (hii : PE X i (TE' X G nm W call i')) : PG X (.Subscript o i pos) (TA2 X G nm W call (.sub o' i')) := by
  refine PG.of (pg_sub ho hii (set_sub (G := G) (nm := nm) hu) (fun v => by cases i <;> first | rfl | (exfalso; exact Bool.false_ne_true hi))) fun v σ H Q ⟨Z, μ, ρ, a, K, E, hs, ss, ex, ra, w, k⟩ => ?_
  rw [wpTA] at w
  refine td_to hs (ex.bun ss) w fun x μ1 w1 v1 H1 Z1 st1 hs1 b1 r1 => ?_
  refine td_to hs1 ((ex.same st1).bun b1.ss) w1 fun y μ2 w2 v2 H2 Z2 st2 hs2 b2 r2 => ?_
  exact ⟨Z2, μ2, x, y, a, _, hs2, r1.same st2, r2, ra.same (Cr.Same.tr st1 st2), w2, fun μ' kk H' Z' st3 hs3 => k _ _ kk _ _ _ (Cr.Same.tr st1 (Cr.Same.tr st2 st3)) hs3 (b2.ss.same st3)⟩

/-- o[(.., ..)] = v -/
def tSubT (K : PySem.W.Frag) (G : Prog) (nm : Nm) : TSet := fun o i v H Q => ∃ Z μ x ds a Ks b ws, HSim K G nm Z μ H ∧ ARep K G nm Z o x ∧ i = .ref b ∧ H b = some (.tup ws) ∧ Reps K G nm Z ws ds ∧ ARep K G nm Z v a ∧ setSubT x ds a μ Ks ∧ ∀ μ', Ks μ' → ∀ H' Z', Same Z Z' → HSim K G nm Z' μ' H' → Q H'
theorem set_subT (hu : X.A.units + 100 < cLine) : PSet X (tSubT X.K G nm) := by
  intro pins s σ H o i v ov iv u Q I ro ri rv ⟨Z, μ, x, ds, a, Ks, b, ws, hs, rx, ei, hb, rr, ra, w, k⟩
  subst ei
  cases rx with
  | d r => exact w.elim
  | ptr n =>
    unfold setSubT at w
    simp only at w
    cases e : μ n with
    | none => rw [e] at w; exact w.elim
    | some c =>
      rw [e] at w
      cases c <;> try exact w.elim
      rename_i ks vs
      simp only at w
      obtain ⟨d, μ1, Z1, st1, hs1, rd1, hk, hl, e1, w⟩ := toD_of hs ra w
      obtain ⟨kvs, q1, q2, q3, q4⟩ := hs1.cells n _ e1
      subst q2
      obtain ⟨key, rfl, rfl⟩ := keys_of_reps hk rr
      obtain rfl : ov = Value.ref n := ro
      have hl' : kvs.length < sizeLine := by rw [← line_eq]; simpa using hl
      obtain ⟨p1, p2, p3⟩ := put_repT (k := key) rd1 q3 q4
      refine d_setItem (by omega) I (DPut.t q1 hb hl') ri rv fun s' I' => ⟨_, I', k _ w _ _ st1 ?_⟩
      exact hs1.wrote (c := .dcT (Cr.putK (keyT key) _) (Cr.putV (keyT key) d _ vs)) (o := .dT (L2.putK kvs key v)) e1 ⟨_, upd_same, p1, p3, p2⟩
theorem ta_subT {o : Expr} {es : List Expr} {o' : CE} {es' : CEs} {k1 : Nat} {p1 pos : Pos} (hu : X.A.units + 100 < cLine) (ho : PE X o (TE' X G nm W call o')) (he : PA X es (TA' X G nm W call es')) : PG X (.Subscript o (.Tuple es k1 p1) pos) (TA2 X G nm W call (.subT o' es')) := by
  refine PG.of (pg_sub ho (pe_tup he) (set_subT (G := G) (nm := nm) hu) (fun v => by rfl)) fun v σ H Q ⟨Z, μ, ρ, a, K, E, hs, ss, ex, ra, w, k⟩ => ?_
  rw [wpTA] at w
  refine td_to hs (ex.bun ss) w fun x μ1 w1 v1 H1 Z1 st1 hs1 b1 r1 => ?_
  refine tda_to hs1 ((ex.same st1).bun b1.ss) w1 fun as μ2 w2 vs H2 Z2 st2 hs2 b2 r2 => ?_
  obtain ⟨ds, μ3, Z3, st3, hs3, rr, hl, w3⟩ := toDs_of hs2 r2 w2
  refine ⟨by rw [← line_eq, rr.length]; exact hl, fun p hp => ?_⟩
  obtain ⟨hs4, st4⟩ := hs3.frozen (o := .tup vs) hp
  have st := Cr.Same.tr st1 (Cr.Same.tr st2 (Cr.Same.tr st3 st4))
  exact ⟨_, μ3, x, ds, a, _, p, vs, hs4, r1.same (Cr.Same.tr st2 (Cr.Same.tr st3 st4)), rfl, upd_same, rr.same st4, ra.same st, w3, fun μ' kk H' Z' st5 hs5 => k _ _ kk _ _ _ (Cr.Same.tr st st5) hs5 (b2.ss.same (Cr.Same.tr st3 (Cr.Same.tr st4 st5)))⟩

/-! ### several -/
abbrev TAs2 (X : Cx) (G : Prog) (nm : Nm) (W : WX) (call : Nat → List A → Store → KA → KX → Prop) (ts : List Cr.TA) : TGs := fun vs σ H Q => ∃ Z μ ρ as K E, HSim X.K G nm Z μ H ∧ SSim X.K G nm Z ρ σ ∧ ExOk X.K G nm W Z E ∧ AReps X.K G nm Z vs as ∧ wpTAs G call ts as ρ μ K E ∧
  ∀ ρ' μ', K ρ' μ' → ∀ Z' H' σ', Same Z Z' → HSim X.K G nm Z' μ' H' → SSim X.K G nm Z' ρ' σ' → Q σ' H'
theorem tas_nil : PGs X [] (TAs2 X G nm W call []) := PGs.of pgs_nil fun vs σ H Q ⟨Z, μ, ρ, as, K, E, hs, ss, ex, r, w, k⟩ => by
  cases r with
  | nil => rw [wpTAs] at w; exact ⟨rfl, k _ _ w _ _ _ same_refl hs ss⟩
  | cons _ _ => exact w.elim
theorem tas_cons {e : Expr} {es : List Expr} {t : Cr.TA} {ts : List Cr.TA} (h1 : PG X e (TA2 X G nm W call t)) (h2 : PGs X es (TAs2 X G nm W call ts)) (hst : notStar e = true) : PGs X (e :: es) (TAs2 X G nm W call (t :: ts)) := by
  refine PGs.of (pgs_cons h1 h2 (by rw [asg_cons hst]; rfl)) fun vs σ H Q ⟨Z, μ, ρ, as, K, E, hs, ss, ex, r, w, k⟩ => ?_
  cases r with
  | nil => exact w.elim
  | cons r rr =>
    rw [wpTAs] at w
    exact ⟨_, _, rfl, Z, μ, ρ, _, _, E, hs, ss, ex, r, w, fun ρ' μ' w' Z' H' σ' st hs' ss' => ⟨Z', μ', ρ', _, _, E, hs', ss', ex.same st, AReps.same st rr, w', fun ρ2 μ2 k2 Z2 H2 σ2 st2 hs2 ss2 => k ρ2 μ2 k2 Z2 H2 σ2 (Cr.Same.tr st st2) hs2 ss2⟩⟩
theorem ta_tup {es : List Expr} {ts : List Cr.TA} {k : Nat} {pos : Pos} (hc : X.calm = true) (h : PGs X es (TAs2 X G nm W call ts)) (hst : es.all notStar = true) (hl : es.length = ts.length) : PG X (.Tuple es k pos) (TA2 X G nm W call (.tup ts)) := by
  obtain ⟨a1, a2⟩ := asg_all (env := X.env) hst
  refine PG.of (PG.or (pg_tup hc h (n := ts.length) (by rw [a1, hl]) a2) (pg_lst hc h (n := ts.length) (by rw [a1, hl]) a2)) fun v σ H Q ⟨Z, μ, ρ, a, K, E, hs, ss, ex, r, w, kk⟩ => ?_
  unfold wpTA at w
  split at w
  · rename_i xs
    cases r with
    | d r => cases r with
      | tup l rr => exact .inl ⟨_, _, rfl, SqT.same hs.z l, by rw [rr.length]; exact w.1, Z, μ, ρ, _, K, E, hs, ss, ex, areps_d rr, w.2, kk⟩
  · rename_i xs
    cases r with
    | d r => cases r with
      | lst l rr => exact .inr ⟨_, _, rfl, (LstAt.same hs.z l).sq, by rw [rr.length]; exact w.1, Z, μ, ρ, _, K, E, hs, ss, ex, areps_d rr, w.2, kk⟩
  · exact w.elim
end
end Cr


/-! Cr21: statements. -/
namespace Cr
open PySem PySem.Spec PyProof.Rows L2

section
variable {X : Cx} {G : Prog} {nm : Nm} {Wd : Wo} {lv : Nat} {W : WX} {call : Nat → List A → Store → KA → KX → Prop} {Z Z' H : Hp} {μ : Store} {pins : List (Addr × Obj)} {σ : L2.St} {s : Shared} {cell : Bool}
/-- what is wanted behind a statement -/
structure PostOk (K : PySem.W.Frag) (G : Prog) (nm : Nm) (W : WX) (Z : Hp) (P : Post) (D : Ends) : Prop where
  nx : ∀ ρ' μ', P.nx ρ' μ' → ∀ Z' H' σ', Same Z Z' → HSim K G nm Z' μ' H' → SSim K G nm Z' ρ' σ' → D.nx σ' H'
  rt : ∀ a μ', P.rt a μ' → FinA K G nm Z D.rt a μ'
  bk : ∀ ρ' μ', P.bk ρ' μ' → ∀ Z' H' σ', Same Z Z' → HSim K G nm Z' μ' H' → SSim K G nm Z' ρ' σ' → D.bk σ' H'
  ct : ∀ ρ' μ', P.ct ρ' μ' → ∀ Z' H' σ', Same Z Z' → HSim K G nm Z' μ' H' → SSim K G nm Z' ρ' σ' → D.ct σ' H'
  ex : ExOk K G nm W Z P.ex
theorem PostOk.same {K : PySem.W.Frag} {P : Post} {D : Ends} (st : Same Z Z') (h : PostOk K G nm W Z P D) : PostOk K G nm W Z' P D :=
  ⟨fun ρ' μ' q Z2 H' σ' s => h.nx ρ' μ' q Z2 H' σ' (Cr.Same.tr st s), fun a μ' q => (h.rt a μ' q).same st, fun ρ' μ' q Z2 H' σ' s => h.bk ρ' μ' q Z2 H' σ' (Cr.Same.tr st s), fun ρ' μ' q Z2 H' σ' s => h.ct ρ' μ' q Z2 H' σ' (Cr.Same.tr st s), h.ex.same st⟩
abbrev TSr (X : Cx) (G : Prog) (nm : Nm) (W : WX) (f : Cr.Env → Store → Post → Prop) : TS := fun D σ H => ∃ Z μ ρ P, HSim X.K G nm Z μ H ∧ SSim X.K G nm Z ρ σ ∧ f ρ μ P ∧ PostOk X.K G nm W Z P D
abbrev TS' (X : Cx) (G : Prog) (nm : Nm) (W : WX) (call : Nat → List A → Store → KA → KX → Prop) (c : CS) : TS := TSr X G nm W (wpS G call c)
abbrev TSs' (X : Cx) (G : Prog) (nm : Nm) (W : WX) (call : Nat → List A → Store → KA → KX → Prop) (c : List CS) : TS := TSr X G nm W (wpSs G call c)
theorem PS.of {st : Stmt} {t t' : TS} (h : PS X st t) (m : ∀ D σ H, t' D σ H → t D σ H) : PS X st t' := ⟨fun pins s σ H D I q => h.run pins s σ H D I (m _ _ _ q)⟩
theorem PSs.of {st : List Stmt} {t t' : TS} (h : PSs X st t) (m : ∀ D σ H, t' D σ H → t D σ H) : PSs X st t' := ⟨fun pins s σ H D I q => h.run pins s σ H D I (m _ _ _ q)⟩
theorem ss_nil : PSs X [] (TSs' X G nm W call []) := PSs.of pss_nil fun D σ H ⟨Z, μ, ρ, P, hs, ss, w, k⟩ => by
  rw [wpSs] at w
  exact k.nx _ _ w _ _ _ same_refl hs ss
theorem ss_cons {st : Stmt} {sts : List Stmt} {c : CS} {cs : List CS} (h1 : PS X st (TS' X G nm W call c)) (h2 : PSs X sts (TSs' X G nm W call cs)) : PSs X (st :: sts) (TSs' X G nm W call (c :: cs)) := by
  refine PSs.of (pss_cons h1 h2) fun D σ H ⟨Z, μ, ρ, P, hs, ss, w, k⟩ => ?_
  rw [wpSs] at w
  exact ⟨Z, μ, ρ, _, hs, ss, w, ⟨fun ρ' μ' q Z' H' σ' st hs' ss' => ⟨Z', μ', ρ', P, hs', ss', q, k.same st⟩, k.rt, k.bk, k.ct, k.ex⟩⟩
theorem s_pass {pos : Pos} : PS X (.Pass pos) (TS' X G nm W call .pass) := PS.of ps_pass fun D σ H ⟨Z, μ, ρ, P, hs, ss, w, k⟩ => by
  rw [wpS] at w
  exact k.nx _ _ w _ _ _ same_refl hs ss
theorem s_brk {pos : Pos} : PS X (.Break pos) (TS' X G nm W call .brk) := PS.of ps_break fun D σ H ⟨Z, μ, ρ, P, hs, ss, w, k⟩ => by
  rw [wpS] at w
  exact k.bk _ _ w _ _ _ same_refl hs ss
theorem s_cont {pos : Pos} : PS X (.Continue pos) (TS' X G nm W call .cont) := PS.of ps_continue fun D σ H ⟨Z, μ, ρ, P, hs, ss, w, k⟩ => by
  rw [wpS] at w
  exact k.ct _ _ w _ _ _ same_refl hs ss
/-- what is raised is not come to -/
theorem s_raise {st : Stmt} {c : Nat} {e : CE} : PS X st (TS' X G nm W call (.raise c e)) := PS.of ps_never fun D σ H ⟨Z, μ, ρ, P, hs, ss, w, k⟩ => by
  rw [wpS] at w
  exact w
def notComp : Expr → Bool
  | .ListComp _ _ _ _ => false
  | .SetComp _ _ _ _ => false
  | .DictComp _ _ _ _ _ => false
  | _ => true
theorem swaps_of {e : Expr} (h : notComp e = true) (t : Option Expr) (l : Nat) (env : PySem.Env) : swapsWith e t l env = pure false := by
  cases e <;> first | rfl | (exfalso; exact Bool.false_ne_true h)
theorem s_expr {e : Expr} {e' : CE} {pos : Pos} (hn : notComp e = true) (he : PE X e (TE' X G nm W call e')) : PS X (.Expr e pos) (TS' X G nm W call (.expr e')) := by
  refine PS.of (ps_expr he (swaps_of hn _ _ _)) fun D σ H ⟨Z, μ, ρ, P, hs, ss, w, k⟩ => ?_
  rw [wpS] at w
  exact td_to hs (k.ex.bun ss) w fun x μ1 w1 v1 H1 Z1 st1 hs1 b1 r1 => k.nx _ _ w1 _ _ _ st1 hs1 b1.ss
theorem s_ret {e : Expr} {e' : CE} {pos : Pos} (he : PE X e (TE' X G nm W call e')) : PS X (.Return (some e) pos) (TS' X G nm W call (.ret e')) := by
  refine PS.of (ps_ret he) fun D σ H ⟨Z, μ, ρ, P, hs, ss, w, k⟩ => ?_
  rw [wpS] at w
  exact td_to hs (k.ex.bun ss) w fun x μ1 w1 v1 H1 Z1 st1 hs1 b1 r1 => k.rt _ _ w1 _ _ _ st1 hs1 r1
theorem s_retN {pos : Pos} : PS X (.Return none pos) (TS' X G nm W call (.ret (.lit .non))) := PS.of ps_retN fun D σ H ⟨Z, μ, ρ, P, hs, ss, w, k⟩ => by
  rw [wpS, wpE] at w
  exact k.rt _ _ w _ _ _ same_refl hs (.d .non)
theorem s_ife {c : Expr} {c' : CE} {a b : List Stmt} {a' b' : List CS} {pos : Pos} (hc : PT X c (TT' X G nm W call c')) (ha : PSs X a (TSs' X G nm W call a')) (hb : PSs X b (TSs' X G nm W call b')) : PS X (.If c a b pos) (TS' X G nm W call (.ife c' a' b')) := by
  refine PS.of (ps_if hc ha hb) fun D σ H ⟨Z, μ, ρ, P, hs, ss, w, k⟩ => ?_
  rw [wpS] at w
  refine tdt_to hs (k.ex.bun ss) w fun t μ1 w1 H1 Z1 st1 hs1 b1 => ?_
  cases t with
  | true => rw [if_pos rfl]; exact ⟨Z1, μ1, ρ, P, hs1, b1.ss, w1, k.same st1⟩
  | false => rw [if_neg Bool.false_ne_true]; exact ⟨Z1, μ1, ρ, P, hs1, b1.ss, w1, k.same st1⟩

/-! ### assignments -/
theorem asg_read {t : Cr.TA} {e' : CE} {D : Ends} {σ : L2.St} {H : Hp} (h : TS' X G nm W call (.asg t e') D σ H) : tAsg (TE' X G nm W call e') (TA2 X G nm W call t) D σ H := by
  obtain ⟨Z, μ, ρ, P, hs, ss, w, k⟩ := h
  rw [wpS] at w
  exact td_to hs (k.ex.bun ss) w fun x μ1 w1 v1 H1 Z1 st1 hs1 b1 r1 => ⟨Z1, μ1, ρ, x, _, _, hs1, b1.ss, k.ex.same st1, r1, w1, fun ρ' μ' q Z' H' σ' st' hs' ss' => k.nx _ _ q _ _ _ (Cr.Same.tr st1 st') hs' ss'⟩
def notTup : Expr → Bool
  | .Tuple _ _ _ => false
  | _ => true
def notLst : Expr → Bool
  | .List _ _ => false
  | _ => true
theorem sw_none {tg e : Expr} (h : notTup e = true ∨ (notTup tg = true ∧ notLst tg = true)) (env : PySem.Env) : swappedStores [tg] e env = pure none := by
  unfold swappedStores
  split
  · rename_i x ts vs hm
    exfalso
    split at hm
    · rename_i h1
      simp only [List.cons.injEq, and_true] at h1
      rcases h with h | h
      · exact Bool.false_ne_true h
      · rw [h1] at h
        exact Bool.false_ne_true h.1
    · rename_i h1
      simp only [List.cons.injEq, and_true] at h1
      rcases h with h | h
      · exact Bool.false_ne_true h
      · rw [h1] at h
        exact Bool.false_ne_true h.2
    · cases hm
  · rfl
theorem s_asg {tg e : Expr} {t : Cr.TA} {e' : CE} {pos : Pos} (hn : swapsWith e (some tg) pos.line X.env = pure false) (h2 : notTup e = true ∨ (notTup tg = true ∧ notLst tg = true)) (hst : notStar tg = true) (he : PE X e (TE' X G nm W call e')) (hg : PG X tg (TA2 X G nm W call t)) :
    PS X (.Assign [tg] e pos) (TS' X G nm W call (.asg t e')) :=
  PS.of (ps_asg he hg hn (sw_none h2 _) (by rw [asg_cons hst]; rfl)) fun D σ H h => asg_read h
end
end Cr


/-! Cr22: statements: comprehensions that are named, several at once, loops. -/
namespace Cr
open PySem PySem.Spec PyProof.Rows L2

section
variable {X : Cx} {G : Prog} {nm : Nm} {Wd : Wo} {lv : Nat} {W : WX} {call : Nat → List A → Store → KA → KX → Prop} {Z Z' H : Hp} {μ : Store} {pins : List (Addr × Obj)} {σ : L2.St} {s : Shared} {cell : Bool}
theorem s_comp {y : Str} {py pos spos : Pos} {i : Nat} {elt tg iter : Expr} {ifs : List Expr} {scope : Scope} {own : List (Str × Nat)} {elt' : CE} {t : Tg} {it : CI} {conds : CEs} (hi : X.N[i]? = some y) (hyl : X.env.scope.names.lookup y = some .local)
    (hsw : swapsWith (.ListComp elt [⟨tg, iter, ifs, 0⟩] scope pos) (some (.Name y py)) spos.line X.env = pure true) (h : CompOk X G nm W call elt tg iter ifs scope own elt' t it conds) :
    PS X (.Assign [.Name y py] (.ListComp elt [⟨tg, iter, ifs, 0⟩] scope pos) spos) (TS' X G nm W call (.asg (.slot i) (.comp cell elt' t it conds (own.map (·.2))))) := by
  refine PS.of (ps_setLc h.calm h.nd hi hyl hsw h.it h.ok h.g h.c h.e (folded_of h.st _)) fun D σ H w => ?_
  have w2 : TE' X G nm W call (.comp cell elt' t it conds (own.map (·.2))) σ H (fun x H1 => TA2 X G nm W call (.slot i) x σ H1 D.nx) := asg_read w
  refine comp_read (cell := cell) h.own ?_
  obtain ⟨Z, μ, ρ, Kp, E, hs, b, w3, k⟩ := w2
  refine ⟨Z, μ, ρ, Kp, E, hs, b, w3, fun a μ' q v H' Z' st hs' r => ?_⟩
  obtain ⟨Z2, μ2, ρ2, a2, K2, E2, hs2, ss2, ex2, r2, w4, k2⟩ := k a μ' q v H' Z' st hs' r
  rw [wpTA] at w4
  exact k2 _ _ w4 _ _ _ same_refl hs2 (ssim_set ss2 r2)

/-! ### several at once -/
theorem s_parT {ts es : List Expr} {ts' : List Cr.TA} {es' : CEs} {k1 k2 : Nat} {p1 p2 pos : Pos} (hc : X.calm = true) (hw : swappedStores [.Tuple ts k1 p1] (.Tuple es k2 p2) X.env = pure none) (hst : ts.all notStar = true) (hl : ts.length = ts'.length) (h9 : ts'.length ≤ 1000)
    (he : PA X es (TA' X G nm W call es')) (hg : PGs X ts (TAs2 X G nm W call ts')) : PS X (.Assign [.Tuple ts k1 p1] (.Tuple es k2 p2) pos) (TS' X G nm W call (.par ts' es')) := by
  obtain ⟨a1, a2⟩ := asg_all (env := X.env) hst
  refine PS.of (ps_asg (pe_tup he) (pg_tup hc hg (n := ts'.length) (by rw [a1, hl]) a2) (by rfl) hw (by rfl)) fun D σ H ⟨Z, μ, ρ, P, hs, ss, w, k⟩ => ?_
  rw [wpS] at w
  refine tda_to hs (k.ex.bun ss) w fun as μ1 w1 vs H1 Z1 st1 hs1 b1 r1 => ⟨?_, fun p hp => ⟨p, vs, rfl, SqT.of upd_same, ?_, Z1, μ1, ρ, as, _, _, hs1.laid hp, b1.ss, k.ex.same st1, r1, w1.2, fun ρ' μ' q Z' H' σ' st' hs' ss' => k.nx _ _ q _ _ _ (Cr.Same.tr st1 st') hs' ss'⟩⟩
  · have h1 := w1.1
    have h2 := r1.length
    have : line = 16777216 := rfl
    rw [h2, ← line_eq]; omega
  · rw [r1.length]; exact w1.1
theorem areps2 {vs : List V} {a b : A} (r : AReps X.K G nm Z vs [a, b]) : ∃ v w, vs = [v, w] ∧ ARep X.K G nm Z v a ∧ ARep X.K G nm Z w b := by
  cases r with | cons h t => cases t with | cons h2 t => cases t; exact ⟨_, _, rfl, h, h2⟩
theorem areps3 {vs : List V} {a b c : A} (r : AReps X.K G nm Z vs [a, b, c]) : ∃ v w u, vs = [v, w, u] ∧ ARep X.K G nm Z v a ∧ ARep X.K G nm Z w b ∧ ARep X.K G nm Z u c := by
  cases r with | cons h t => cases t with | cons h2 t => cases t with | cons h3 t => cases t; exact ⟨_, _, _, rfl, h, h2, h3⟩
theorem s_par2 {i j : Nat} {x y : Str} {a b : Expr} {es' : CEs} {px py pt pos : Pos} {kt k2 : Nat} {pt2 : Pos} (hc : X.calm = true) (hN : X.N.Nodup) (hi : X.N[i]? = some x) (hj : X.N[j]? = some y) (hij : i ≠ j) (hx : X.env.scope.names.lookup x = some .local) (hy : X.env.scope.names.lookup y = some .local)
    (hw : swappedStores [.Tuple [.Name x px, .Name y py] kt pt] (.Tuple [a, b] k2 pt2) X.env = pure (some [x, y])) (ha : PA X [a, b] (TA' X G nm W call es')) :
    PS X (.Assign [.Tuple [.Name x px, .Name y py] kt pt] (.Tuple [a, b] k2 pt2) pos) (TS' X G nm W call (.par [.slot i, .slot j] es')) := by
  refine PS.of (ps_par hc hN hi hj hij hx hy ha hw rfl) fun D σ H ⟨Z, μ, ρ, P, hs, ss, w, k⟩ => ?_
  rw [wpS] at w
  refine tda_to hs (k.ex.bun ss) w fun as μ1 w1 vs H1 Z1 st1 hs1 b1 r1 => ?_
  obtain ⟨hl, w1⟩ := w1
  match as, hl, r1, w1 with
  | [a1, a2], _, r1, w1 =>
    obtain ⟨v, w2, rfl, q1, q2⟩ := areps2 r1
    rw [wpTAs, wpTA, wpTAs, wpTA, wpTAs] at w1
    exact ⟨v, w2, rfl, k.nx _ _ w1 _ _ _ st1 hs1 (ssim_set (ssim_set b1.ss q1) q2)⟩
theorem s_par3 {i j l : Nat} {x y z : Str} {a b c : Expr} {es' : CEs} {px py pz pt pos : Pos} {kt k2 : Nat} {pt2 : Pos} (hc : X.calm = true) (hN : X.N.Nodup) (hi : X.N[i]? = some x) (hj : X.N[j]? = some y) (hl : X.N[l]? = some z) (hij : i ≠ j) (hil : i ≠ l) (hjl : j ≠ l)
    (hx : X.env.scope.names.lookup x = some .local) (hy : X.env.scope.names.lookup y = some .local) (hz : X.env.scope.names.lookup z = some .local)
    (hw : swappedStores [.Tuple [.Name x px, .Name y py, .Name z pz] kt pt] (.Tuple [a, b, c] k2 pt2) X.env = pure (some [x, y, z])) (ha : PA X [a, b, c] (TA' X G nm W call es')) :
    PS X (.Assign [.Tuple [.Name x px, .Name y py, .Name z pz] kt pt] (.Tuple [a, b, c] k2 pt2) pos) (TS' X G nm W call (.par [.slot i, .slot j, .slot l] es')) := by
  refine PS.of (ps_par3 hc hN hi hj hl hij hil hjl hx hy hz ha hw rfl) fun D σ H ⟨Z, μ, ρ, P, hs, ss, w, k⟩ => ?_
  rw [wpS] at w
  refine tda_to hs (k.ex.bun ss) w fun as μ1 w1 vs H1 Z1 st1 hs1 b1 r1 => ?_
  obtain ⟨hl, w1⟩ := w1
  match as, hl, r1, w1 with
  | [a1, a2, a3], _, r1, w1 =>
    obtain ⟨v, w2, u, rfl, q1, q2, q3⟩ := areps3 r1
    rw [wpTAs, wpTA, wpTAs, wpTA, wpTAs, wpTA, wpTAs] at w1
    exact ⟨v, w2, u, rfl, k.nx _ _ w1 _ _ _ st1 hs1 (ssim_set (ssim_set (ssim_set b1.ss q1) q2) q3)⟩

/-! ### loops -/
theorem mask_get : ∀ {ρ0 ρ1 : Cr.Env} {i : Nat} {a : A}, (mask ρ0 ρ1)[i]? = some (some a) → ρ1[i]? = some (some a)
  | [], _, _, _, h => by simp [mask] at h
  | _ :: _, [], _, _, h => by simp [mask] at h
  | o :: r, n :: s, 0, a, h => by
    cases o <;> simp [mask] at h
    simpa using h
  | o :: r, n :: s, i + 1, a, h => by
    have := mask_get (ρ0 := r) (ρ1 := s) (i := i) (a := a) (by simpa [mask] using h)
    simpa using this
theorem mask_len : ∀ {ρ0 ρ1 : Cr.Env}, (mask ρ0 ρ1).length ≤ ρ1.length
  | [], _ => by simp [mask]
  | _ :: _, [] => by simp [mask]
  | _ :: r, _ :: s => by have := mask_len (ρ0 := r) (ρ1 := s); simp [mask]; exact this
theorem ssim_mask {ρ0 ρ1 : Cr.Env} (h : SSim X.K G nm Z ρ1 σ) : SSim X.K G nm Z (mask ρ0 ρ1) σ := ⟨Nat.le_trans mask_len h.1, fun i a e => h.2 i a (mask_get e)⟩
theorem loop_read {t : Tg} {body' : List CS} {src : Option (Nat × Cell)} {xs : List D} {J : It} {ρ : Cr.Env} {P : Post} {D : Ends} (hs : HSim X.K G nm Z μ H) (ss : SSim X.K G nm Z ρ σ) (k : PostOk X.K G nm W Z P D) (wk : WalkOk X.K G nm Z src xs J)
    (w : forLoop src ρ (fun x ρ1 μ2 P1 => wpTg t x ρ1 fun ρ2 => wpSs G call body' ρ2 μ2 P1) xs ρ μ P) : tFor (fun _ H R => R J H) (TG' X G nm t) (TSs' X G nm W call body') D σ H := by
  refine ⟨fun i m σ H => ∃ Z' μ' ρ', i ≤ xs.length ∧ m = xs.length - i ∧ Same Z Z' ∧ HSim X.K G nm Z' μ' H ∧ SSim X.K G nm Z' ρ' σ ∧ forLoop src ρ _ (xs.drop i) ρ' μ' P, ⟨xs.length, Z, μ, ρ, Nat.zero_le _, rfl, same_refl, hs, ss, w⟩, ?_⟩
  rintro i m σ2 H2 ⟨Z2, μ2, ρ2, hi, rfl, st2, hs2, ss2, w3⟩
  by_cases hlt : i < xs.length
  · rw [List.drop_eq_getElem_cons hlt, forLoop] at w3
    obtain ⟨sl, w3⟩ := w3
    refine .inr ⟨wk.go i Z2 H2 μ2 hlt st2 hs2 sl, fun σ' H' => ∃ Z' μ' ρ', i + 1 ≤ xs.length ∧ Same Z Z' ∧ HSim X.K G nm Z' μ' H' ∧ SSim X.K G nm Z' ρ' σ' ∧ forLoop src ρ _ (xs.drop (i + 1)) ρ' μ' P, fun σ' H' ⟨Z', μ', ρ', a1, a2, a3, a4, a5⟩ => ⟨xs.length - (i + 1), by omega, Z', μ', ρ', a1, rfl, a2, a3, a4, a5⟩, fun x H3 y => ?_⟩
    obtain ⟨Z3, st3, hs3, rx⟩ := wk.yld i _ Z2 H2 μ2 x H3 (List.getElem?_eq_getElem hlt) st2 hs2 sl y
    refine ⟨Z3, μ2, ρ2, _, _, hs3, ss2.same st3, rx, w3, fun ρ' σ' w4 ss' o => ⟨Z3, μ2, ρ', _, hs3, ss', w4, ?_⟩⟩
    have st23 := Cr.Same.tr st2 st3
    exact ⟨fun ρ4 μ4 q Z4 H4 σ4 s4 h4 ss4 => ⟨Z4, μ4, _, hlt, Cr.Same.tr st23 s4, h4, ssim_mask ss4, q⟩, fun a μ4 q => (k.rt a μ4 q).same st23, fun ρ4 μ4 q Z4 H4 σ4 s4 h4 ss4 => k.nx _ _ q _ _ _ (Cr.Same.tr st23 s4) h4 (ssim_mask ss4),
      fun ρ4 μ4 q Z4 H4 σ4 s4 h4 ss4 => ⟨Z4, μ4, _, hlt, Cr.Same.tr st23 s4, h4, ssim_mask ss4, q⟩, k.ex.same st23⟩
  · have e : i = xs.length := by omega
    subst e
    rw [List.drop_length, forLoop] at w3
    exact .inl ⟨wk.stop Z2 H2 μ2 st2 hs2 w3.1, k.nx _ _ w3.2 _ _ _ st2 hs2 ss2⟩
theorem s_for {tg iter : Expr} {body : List Stmt} {t : Tg} {it : CI} {body' : List CS} {pos : Pos} (hp : PassesOwn (model X.prog X.w) X.A X.env X.xe) (hc : X.calm = true) (hi : PI X tg iter (TI' X G nm W call it)) (hg : PG X tg (TG' X G nm t)) (hb : PSs X body (TSs' X G nm W call body')) (hst : notSetE iter = true) :
    PS X (.For tg iter body [] pos) (TS' X G nm W call (.for_ t it body')) := by
  refine PS.of (ps_for hp hc hi hg hb (folded_of hst _)) fun D σ H ⟨Z, μ, ρ, P, hs, ss, w, k⟩ => ?_
  rw [wpS] at w
  exact ⟨Z, μ, ρ, _, _, hs, k.ex.bun ss, w, fun src xs μ1 w1 H1 Z1 J st1 hs1 wk => loop_read hs1 (ss.same st1) (k.same st1) wk w1⟩
theorem walk_items {n : Nat} {od : Obj} {kvs : List (Key × V)} {vs : List D} (nd : KeysOk kvs) (r : Reps X.K G nm Z (kvs.map (·.2)) vs) : WalkOk X.K G nm Z (some (n, .lok od kvs (kvs.map fun p => keyD p.1) vs)) (zipD (kvs.map fun p => keyD p.1) vs) (Iti n od kvs) := by
  have at' : ∀ {Z' H' μ'}, HSim X.K G nm Z' μ' H' → still (some (n, .lok od kvs (kvs.map fun p => keyD p.1) vs)) μ' → H' n = some (.frz od (.dK kvs)) := fun hs sl => (hs.cells n _ sl).1
  have hl := r.length
  rw [List.length_map] at hl
  refine ⟨fun i Z' H μ hi st hs sl => ⟨at' hs sl, ?_⟩, fun i d Z' H μ x H' e st hs sl y => ?_, fun Z' H μ st hs sl => ⟨at' hs sl, ?_⟩⟩
  · rw [zipD_len, List.length_map] at hi; omega
  · obtain ⟨u1, u2, e1, e2, rfl⟩ := zipD_get e
    obtain ⟨T, k, v, e3, rfl, hT, rfl⟩ := y
    rw [List.getElem?_map, e3] at e1
    cases e1
    obtain ⟨w, e4, rw'⟩ := r.get e2
    rw [List.getElem?_map, e3] at e4
    cases e4
    obtain ⟨h2, st2⟩ := hs.frozen (o := .tup [kV k, v]) hT
    refine ⟨_, st2, h2, .tup (SqT.of upd_same) (.cons ?_ (.cons (rw'.same (Cr.Same.tr st st2)) .nil))⟩
    cases k with
    | inl i => exact .int i
    | inr z => exact .str z (nd.2 _ (List.mem_of_getElem? e3) z rfl)
  · rw [zipD_len, List.length_map]; omega
theorem s_forD {x : Str} {i : Nat} {body : List Stmt} {elts : List Expr} {kk : Nat} {t : Tg} {body' : List CS} {px apos cpos tpos pos : Pos} (hp : PassesOwn (model X.prog X.w) X.A X.env X.xe) (hc : X.calm = true) (hN : X.N[i]? = some x) (hv : Vis X.env.scope x) (hd : (x == ("__debug__" : Str)) = false) (hcd : (x == ("__classdict__" : Str)) = false) (hline : (apos.endLine == cpos.line) = true)
    (hg : PG X (.Tuple elts kk tpos) (TG' X G nm t)) (hb : PSs X body (TSs' X G nm W call body')) : PS X (.For (.Tuple elts kk tpos) (.Call (.Attribute (.Name x px) "items" apos) [] [] cpos) body [] pos) (TS' X G nm W call (.forD t i body')) := by
  refine PS.of (ps_lock (ps_for hp hc (pi_items (pe_var hN hv hd hcd) (base_of rfl _ _ _) hline) hg hb (folded_of rfl _))) fun D σ H ⟨Z, μ, ρ, P, hs, ss, w, k⟩ => ?_
  rw [wpS] at w
  split at w
  · rename_i n er
    split at w
    · rename_i ks vs e
      obtain ⟨v, e1, r1⟩ := ss.2 i _ er
      cases r1
      obtain ⟨kvs, q1, rfl, q3, q4⟩ := hs.cells n _ e
      refine ⟨n, .dK kvs, q1, trivial, fun od => ⟨.ref n, e1, n, od, kvs, rfl, upd_same, ?_⟩⟩
      have hs1 : HSim X.K G nm Z (put μ n (.lok od kvs _ vs)) (upd H n (.frz od (.dK kvs))) := hs.wrote e ⟨upd_same, rfl, q3, q4⟩
      have at' : ∀ {Z' H' μ'}, HSim X.K G nm Z' μ' H' → μ' n = some (.lok od kvs (kvs.map fun p => keyD p.1) vs) → H' n = some (.frz od (.dK kvs)) := fun hs sl => (hs.cells n _ sl).1
      have back : ∀ {Z' : Hp} {μ' : Store} {H' : Hp}, Same Z Z' → HSim X.K G nm Z' μ' H' → μ' n = some (.lok od kvs (kvs.map fun p => keyD p.1) vs) → HSim X.K G nm Z' (put μ' n (.dct (kvs.map fun p => keyD p.1) vs)) (upd H' n (.dK kvs)) := fun st hs' e' => hs'.wrote e' ⟨kvs, upd_same, rfl, q3, q4.same st⟩
      refine loop_read hs1 ss ?_ (walk_items q3 q4) (w od kvs)
      refine ⟨fun ρ' μ' q Z' H' σ' st hs' ss' => ⟨at' hs' q.1, k.nx _ _ q.2 _ _ _ st (back st hs' q.1) ss'⟩, fun a μ' q w' H' Z' st hs' r => ⟨at' hs' q.1, k.rt _ _ q.2 _ _ _ st (back st hs' q.1) r⟩, fun _ _ q => q.elim, fun _ _ q => q.elim, fun c v ρ' μ' q Z' H' σ' cls d st hs' ss' er => ?_⟩
      exact k.ex c v ρ' _ q Z' H' σ' cls d st (hs'.sub fun a c e => by
        by_cases z : a = n
        · subst z; rw [del_same'] at e; cases e
        · rwa [del_ne' z] at e) ss' er
    · exact w.elim
  · exact w.elim
theorem s_while {c : Expr} {c' : CE} {body : List Stmt} {body' : List CS} {pos : Pos} (hp : PassesOwn (model X.prog X.w) X.A X.env X.xe) (hc : PT X c (TT' X G nm W call c')) (hb : PSs X body (TSs' X G nm W call body')) :
    PS X (.While c body [] pos) (TS' X G nm W call (.while_ c' body')) := by
  refine PS.of (ps_while hp hc hb) fun D σ H ⟨Z, μ, ρ, P, hs, ss, w, k⟩ => ?_
  rw [wpS] at w
  obtain ⟨n, w⟩ := w
  refine ⟨fun m σ H => ∃ Z' μ' ρ', Same Z Z' ∧ HSim X.K G nm Z' μ' H ∧ SSim X.K G nm Z' ρ' σ ∧ whileLoop ρ _ _ m ρ' μ' P, ⟨n, Z, μ, ρ, same_refl, hs, ss, w⟩, ?_⟩
  rintro m σ2 H2 ⟨Z2, μ2, ρ2, st2, hs2, ss2, w3⟩
  cases m with
  | zero => exact w3.elim
  | succ m =>
    rw [whileLoop] at w3
    refine tdt_to hs2 ((k.ex.same st2).bun ss2) w3 fun t μ4 w4 H4 Z4 st4 hs4 b4 => ?_
    have st24 := Cr.Same.tr st2 st4
    cases t with
    | true =>
      rw [if_pos rfl]
      refine ⟨fun σ' H' => ∃ Z' μ' ρ', Same Z Z' ∧ HSim X.K G nm Z' μ' H' ∧ SSim X.K G nm Z' ρ' σ' ∧ whileLoop ρ _ _ m ρ' μ' P, fun σ' H' q => ⟨m, Nat.lt_succ_self _, q⟩, Z4, μ4, ρ2, _, hs4, b4.ss, w4, ?_⟩
      exact ⟨fun ρ5 μ5 q Z5 H5 σ5 s5 h5 ss5 => ⟨Z5, μ5, _, Cr.Same.tr st24 s5, h5, ssim_mask ss5, q⟩, fun a μ5 q => (k.rt a μ5 q).same st24, fun ρ5 μ5 q Z5 H5 σ5 s5 h5 ss5 => k.nx _ _ q _ _ _ (Cr.Same.tr st24 s5) h5 (ssim_mask ss5),
        fun ρ5 μ5 q Z5 H5 σ5 s5 h5 ss5 => ⟨Z5, μ5, _, Cr.Same.tr st24 s5, h5, ssim_mask ss5, q⟩, k.ex.same st24⟩
    | false =>
      rw [if_neg Bool.false_ne_true]
      exact k.nx _ _ w4 _ _ _ st24 hs4 b4.ss
end
end Cr


/-! Cr23: comparisons as tests; what of the text is plain. -/
namespace Cr
open PySem PySem.Spec PyProof.Rows L2

section
variable {X : Cx} {G : Prog} {nm : Nm} {W : WX} {call : Nat → List A → Store → KA → KX → Prop} {Z H : Hp} {μ : Store}
theorem t_cmp {op : CmpOp} {cop : COp} {a b : Expr} {a' b' : CE} {pos : Pos} (ho : OpR X (compareOp op) (rOp (bop cop) X.K G nm)) (hm : behindInMarks op b = false) (ha : PE X a (TE' X G nm W call a')) (hb : PE X b (TE' X G nm W call b')) :
    PT X (.Compare a [op] [b] pos) (TT' X G nm W call (.cmp cop a' b')) := by
  refine PT.of (pt_cmpR ho ha hb hm) fun σ H Q ⟨Z, μ, ρ, Kp, E, hs, b, w, k⟩ => ?_
  rw [wpT_val rfl, wpE] at w
  refine td_to hs b w fun x μ1 w1 v1 H1 Z1 st1 hs1 b1 r1 => td_to hs1 b1 w1 fun y μ2 w2 v2 H2 Z2 st2 hs2 b2 r2 => ?_
  obtain ⟨u, ru, w3⟩ := rd_of hs2 (r1.same st2) w2
  obtain ⟨v, rv, w4⟩ := rd_of hs2 r2 w3
  refine ⟨Z2, μ2, u, v, hs2, ru, rv, opC_mono w4 fun r q z H3 Z3 st3 hs3 rz => ?_⟩
  cases rz
  exact ⟨r, rfl, k _ _ q _ _ (Cr.Same.tr st1 (Cr.Same.tr st2 st3)) hs3⟩
theorem t_chain {op op' : CmpOp} {cop cop' : COp} {a b c : Expr} {a' b' c' : CE} {pos : Pos} (ho : OpR X (compareOp op) (rOp (bop cop) X.K G nm)) (ho' : OpR X (compareOp op') (rOp (bop cop') X.K G nm)) (hm : lastMarks [op, op'] [b, c] = false)
    (ha : PE X a (TE' X G nm W call a')) (hb : PE X b (TE' X G nm W call b')) (hc : PE X c (TE' X G nm W call c')) : PT X (.Compare a [op, op'] [b, c] pos) (TT' X G nm W call (.chain cop cop' a' b' c')) := by
  refine PT.of (pt_chain ho ho' ha hb hc hm) fun σ H Q ⟨Z, μ, ρ, Kp, E, hs, b, w, k⟩ => ?_
  rw [wpT_val rfl, wpE] at w
  refine td_to hs b w fun x μ1 w1 v1 H1 Z1 st1 hs1 b1 r1 => td_to hs1 b1 w1 fun y μ2 w2 v2 H2 Z2 st2 hs2 b2 r2 => ?_
  obtain ⟨u, ru, w3⟩ := rd_of hs2 (r1.same st2) w2
  obtain ⟨v, rv, w4⟩ := rd_of hs2 r2 w3
  refine ⟨Z2, μ2, u, v, hs2, ru, rv, opC_mono w4 fun t q z H3 Z3 st3 hs3 rz => ?_⟩
  cases rz
  refine ⟨t, rfl, ?_⟩
  cases t with
  | false =>
    rw [if_neg Bool.false_ne_true]
    exact ⟨false, rfl, k _ _ q _ _ (Cr.Same.tr st1 (Cr.Same.tr st2 st3)) hs3⟩
  | true =>
    rw [if_pos rfl]
    refine td_to hs3 (b2.same st3) q fun z' μ4 w5 v4 H4 Z4 st4 hs4 b4 r4 => ?_
    obtain ⟨v', rv', w6⟩ := rd_of hs4 (r2.same (Cr.Same.tr st3 st4)) w5
    obtain ⟨z'', rz', w7⟩ := rd_of hs4 r4 w6
    refine ⟨Z4, μ4, v', z'', hs4, rv', rz', opC_mono w7 fun t q z H5 Z5 st5 hs5 rz => ?_⟩
    cases rz
    exact ⟨t, rfl, k _ _ q _ _ (Cr.Same.tr st1 (Cr.Same.tr st2 (Cr.Same.tr st3 (Cr.Same.tr st4 st5)))) hs5⟩
end

/-- a test that is its value's truth -/
def plainT : Expr → Bool
  | .Name _ _ => true
  | .Call _ _ _ _ => true
  | .Attribute _ _ _ => true
  | .Subscript _ _ _ => true
  | .Constant _ _ _ => true
  | .BinOp _ _ _ _ => true
  | .List _ _ => true
  | _ => false
theorem plainT_of {e : Expr} (h : plainT e = true) (env : PySem.Env) (whole : Sem Value) : isTrue e env whole = (do let v ← whole; standAt e.pos; holding [v] (truthy v)) := by
  cases e <;> first | rfl | (exfalso; exact Bool.false_ne_true h)
theorem plainIx_of {e : Expr} (h : notSlice e = true) : PlainIx e := by
  intro o i
  cases e <;> first | rfl | (exfalso; exact Bool.false_ne_true h)
end Cr


/-! CrDict: dict displays. -/
namespace Cr
open PySem PySem.Spec PyProof.Rows L2

section
variable {X : Cx} {G : Prog} {nm : Nm} {Wd : Wo} {lv : Nat} {W : WX} {call : Nat → List A → Store → KA → KX → Prop} {Z Z' H : Hp} {μ : Store} {pins : List (Addr × Obj)} {σ : L2.St} {s : Shared} {cell : Bool}
/-- the pairs' readings -/
def trsOf (X : Cx) (G : Prog) (nm : Nm) (W : WX) (call : Nat → List A → Store → KA → KX → Prop) : CEs → List (TE × TE)
  | .cons k (.cons v r) => (TE' X G nm W call k, TE' X G nm W call v) :: trsOf X G nm W call r
  | _ => []
/-- an even number of them -/
def evenEs : CEs → Bool
  | .nil => true
  | .cons _ (.cons _ r) => evenEs r
  | _ => false
theorem pairs_read : ∀ (es : CEs), evenEs es = true → ∀ {σ : L2.St} {H Z : Hp} {μ : Store} {ρ : Cr.Env} {Kp : List A → Store → Prop} {E : KX} {Q : List (V × V) → Hp → Prop}, HSim X.K G nm Z μ H → Bun X.K G nm W σ Z ρ E → wpEs G call es ρ μ Kp E →
    (∀ as μ', Kp as μ' → ∀ ps H' Z', Same Z Z' → HSim X.K G nm Z' μ' H' → AReps X.K G nm Z' (ps.flatMap fun p => [p.1, p.2]) as → Q ps H') → tPairs (trsOf X G nm W call es) σ H Q
  | .nil, _, σ, H, Z, μ, ρ, Kp, E, Q, hs, b, w, k => by
    rw [wpEs] at w
    exact k _ _ w [] _ _ same_refl hs .nil
  | .cons a .nil, he, _, _, _, _, _, _, _, _, _, _, _, _ => by simp [evenEs] at he
  | .cons a (.star _ _), he, _, _, _, _, _, _, _, _, _, _, _, _ => by simp [evenEs] at he
  | .star _ _, he, _, _, _, _, _, _, _, _, _, _, _, _ => by simp [evenEs] at he
  | .cons a (.cons c r), he, σ, H, Z, μ, ρ, Kp, E, Q, hs, b, w, k => by
    rw [wpEs] at w
    refine td_to hs b w fun x μ1 w1 v1 H1 Z1 st1 hs1 b1 r1 => ?_
    rw [wpEs] at w1
    refine td_to hs1 b1 w1 fun y μ2 w2 v2 H2 Z2 st2 hs2 b2 r2 => ?_
    refine pairs_read r (by simpa [evenEs] using he) hs2 b2 w2 fun as μ' q ps H' Z' st hs' rr => ?_
    exact k _ _ q _ _ _ (Cr.Same.tr st1 (Cr.Same.tr st2 st)) hs' (.cons (r1.same (Cr.Same.tr st2 st)) (.cons (r2.same st) rr))
theorem keys_of : ∀ {ps : List (V × V)} {ds ks vs : List D}, Reps X.K G nm Z (ps.flatMap fun p => [p.1, p.2]) ds → pairsD ds = some (ks, vs) → ks.all isKey = true →
    ∃ kvs : List (Key × V), ps = kvs.map (fun kv => (kV kv.1, kv.2)) ∧ ks = kvs.map (fun p => keyD p.1) ∧ Reps X.K G nm Z (kvs.map (·.2)) vs ∧ ∀ p ∈ kvs, ∀ z, p.1 = Sum.inr z → strOk z = true
  | [], ds, ks, vs, r, h, _ => by
    cases r
    simp only [pairsD, Option.some.injEq, Prod.mk.injEq] at h
    obtain ⟨rfl, rfl⟩ := h
    exact ⟨[], rfl, rfl, .nil, fun p h => by cases h⟩
  | (a, c) :: ps, ds, ks, vs, r, h, hk => by
    cases r with
    | cons ra t =>
    cases t with
    | cons rc t =>
      simp only [pairsD, Option.map_eq_some_iff, Prod.mk.injEq] at h
      obtain ⟨⟨k1, v1⟩, h1, rfl, rfl⟩ := h
      simp only [List.all_cons, Bool.and_eq_true] at hk
      obtain ⟨kvs, e1, e2, e3, e4⟩ := keys_of t h1 hk.2
      obtain ⟨key, rfl, rfl⟩ := key_of_rep hk.1 (.z (H := Z) ra)
      refine ⟨(key, c) :: kvs, by rw [e1]; rfl, by rw [e2]; rfl, .cons rc e3, fun p hp z ez => ?_⟩
      rcases List.mem_cons.mp hp with rfl | hp
      · simp only at ez
        subst ez
        cases ra with | str z o => exact o
      · exact e4 p hp z ez
theorem merge_rep : ∀ {more kvs : List (Key × V)} {vs ws : List D}, KeysOk kvs → Reps X.K G nm Z (kvs.map (·.2)) ws → Reps X.K G nm Z (more.map (·.2)) vs → (∀ p ∈ more, ∀ z, p.1 = Sum.inr z → strOk z = true) →
    KeysOk (L2.mergeK kvs more) ∧ (putAll (more.map fun p => keyD p.1) vs (kvs.map fun p => keyD p.1) ws).1 = (L2.mergeK kvs more).map (fun p => keyD p.1) ∧ Reps X.K G nm Z ((L2.mergeK kvs more).map (·.2)) (putAll (more.map fun p => keyD p.1) vs (kvs.map fun p => keyD p.1) ws).2
  | [], kvs, vs, ws, ok, r, rm, _ => by
    cases rm
    exact ⟨ok, by simp [putAll, L2.mergeK], by simpa [putAll, L2.mergeK] using r⟩
  | p :: more, kvs, vs, ws, ok, r, rm, hk => by
    cases rm with
    | @cons _ _ x vs rp rm =>
      obtain ⟨p1, p2, p3⟩ := put_rep (k := p.1) rp ok.1 r
      have ok2 := keysOk_put ok p3 (hk p (by simp))
      have := merge_rep (more := more) (kvs := L2.putK kvs p.1 p.2) ok2 p2 rm fun q hq => hk q (by simp [hq])
      simp only [List.map_cons, putAll]
      rw [p1]
      exact this
theorem e_dctL {keys : List (Option Expr)} {values : List Expr} {pos : Pos} {es : CEs} (hev : evenEs es = true) (h : PPs X pos keys values (trsOf X G nm W call es)) (hall : keys.all (·.isSome) = true) (hl : keys.length = values.length) (h0 : keys ≠ []) (h15 : keys.length ≤ 15) :
    PE X (.Dict keys values pos) (TE' X G nm W call (.dctL es)) := by
  refine PE.of (pe_disp h hall hl h0 h15) fun σ H Q ⟨Z, μ, ρ, Kp, E, hs, b, w, k⟩ p hp => ?_
  rw [wpE] at w
  have hs1 : HSim X.K G nm Z (put μ p (.dct [] [])) (upd H p (.dK [])) := hs.cell hp ⟨[], upd_same, rfl, ⟨by simp, fun p h => by cases h⟩, .nil⟩
  refine pairs_read es hev hs1 b (w p (hs.free hp).2) fun as μ1 w1 ps H1 Z1 st1 hs1' r1 => ?_
  obtain ⟨ds, μ2, Z2, st2, hs2, rr, w2⟩ := toDs_of hs1' r1 w1
  split at w2
  · rename_i ks vs e
    obtain ⟨ep, hk, h15', w2⟩ := w2
    obtain ⟨kvs0, q1, q2, q3, q4⟩ := hs2.cells p _ ep
    have : kvs0 = [] := by cases kvs0 with | nil => rfl | cons a t => simp at q2
    subst this
    obtain ⟨kvs, e1, e2, e3, e4⟩ := keys_of rr e hk
    subst e2
    obtain ⟨m1, m2, m3⟩ := merge_rep (kvs := []) ⟨by simp, fun p h => by cases h⟩ (.nil) e3 e4
    refine ⟨q1, kvs, e1, by simpa using h15', ?_⟩
    exact k _ _ w2 _ _ _ (Cr.Same.tr st1 st2) (hs2.wrote ep ⟨_, upd_same, m2, m1, m3⟩) (.ptr p)
  · exact w2.elim
end
end Cr


/-! Cr24: the text against Core: what is looked at. -/
namespace Cr
open PySem PySem.Spec PyProof.Rows L2

structure Tb where
  fnN : List (Str × Nat)
  clN : List (Str × Nat)
  glN : List (Str × Nat)
  free : List Str
  isi : List Ty
  ps : List (List Str)
structure Fx where
  N : List Str
  sc : Scope
  fnb : Str → Bool
def plainN (x : Str) : Bool := !(decide (x = ("__debug__" : Str))) && !(decide (x = ("__classdict__" : Str))) && !(decide (x = ("__name__" : Str)))
def visB (sc : Scope) (x : Str) : Bool := match sc.names.lookup x with
  | some .local => true
  | some .cell => true
  | some .free => true
  | _ => false
def locB (sc : Scope) (x : Str) : Bool := match sc.names.lookup x with
  | some .local => true
  | some .cell => true
  | _ => false
def storB (F : Fx) (x : Str) : Bool := locB F.sc x && (F.fnb x || decide (F.sc.names.lookup x = some .local))
def glB (sc : Scope) (x : Str) : Bool := decide (sc.names.lookup x = some .globalImplicit)
def litB : D → Expr → Bool
  | .non, .Constant .none _ _ => true
  | .bl b, .Constant (.bool c) _ _ => decide (b = c)
  | .int i, .Constant (.int j) _ _ => decide (i = j)
  | .int i, .UnaryOp .USub (.Constant (.int j) _ _) _ => decide (i = -j)
  | .str s, .Constant (.str z) _ _ => decide (z.cps.toList = s) && strOk z
  | _, _ => false
def opOk : BOp → Operator → Bool
  | .add, .Add => true
  | .sub, .Sub => true
  | .mul, .Mult => true
  | .fdiv, .FloorDiv => true
  | .mod, .Mod => true
  | .pow, .Pow => true
  | .shl, .LShift => true
  | _, _ => false
def copOk : COp → CmpOp → Bool
  | .eq, .Eq => true
  | .ne, .NotEq => true
  | .lt, .Lt => true
  | .le, .LtE => true
  | .gt, .Gt => true
  | .ge, .GtE => true
  | .is, .Is => true
  | .isn, .IsNot => true
  | .eqE, .Eq => true
  | .neE, .NotEq => true
  | .inn, .In => true
  | .nin, .NotIn => true
  | _, _ => false
def biN : Bi → Str
  | .len => "len"
  | .int => "int"
  | .str => "str"
  | .tuple => "tuple"
  | .list => "list"
  | .all => "all"
  | .any => "any"
  | .sum => "sum"
  | .abs => "abs"
  | .max => "max"
  | .min => "min"
  | .repr => "repr"
  | .minP => "min"
  | .sorted => "sorted"
  | _ => ""
def biOk : Bi → Bool
  | .len => true
  | .int => true
  | .str => true
  | .tuple => true
  | .list => true
  | .all => true
  | .any => true
  | .sum => true
  | .abs => true
  | .max => true
  | .min => true
  | .repr => true
  | .minP => true
  | .sorted => true
  | _ => false
/-- a name of a built-in that the text leaves alone -/
def frB (T : Tb) (F : Fx) (x : Str) : Bool := glB F.sc x && T.free.contains x
def tyN : Ty → Option Str
  | .int => some "int"
  | .bool => some "bool"
  | .str => some "str"
  | .tuple => some "tuple"
  | .list => some "list"
  | _ => none
def tyB (T : Tb) (F : Fx) (t : Ty) (x : Str) : Bool := match t with
  | .own c => glB F.sc x && (plainN x && decide (T.clN.lookup x = some c))
  | .exn _ => false
  | t => frB T F x && (plainN x && decide (tyN t = some x))
mutual
def chkTg (F : Fx) : Tg → Expr → Bool
  | .slot i, e => match e with
    | .Name x _ => decide (F.N[i]? = some x) && storB F x
    | _ => false
  | .tup ts, e => match e with
    | .Tuple es _ _ => es.all notStar && (decide (es.length = ts.length) && chkTgs F ts es)
    | _ => false
def chkTgs (F : Fx) : List Tg → List Expr → Bool
  | [], es => es.isEmpty
  | t :: ts, es => match es with
    | e :: es => notStar e && (chkTg F t e && chkTgs F ts es)
    | [] => false
end
def blkB (N : List Str) (sc scope : Scope) (own : List (Str × Nat)) : Bool :=
  decide (scope.kind = .function) && ((scope.names.all fun y => decide (scope.names.lookup y.1 = some y.2)) && ((own.all fun p => decide (N[p.2]? = some p.1)) &&
    (scope.names.all fun y => !(decide (y.2 = .free)) || (decide (sc.names.lookup y.1 = some .cell) || decide (sc.names.lookup y.1 = some .free))) &&
      (scope.names.all fun y => !(decide (y.2 = .local) || decide (y.2 = .cell)) || (decide (y.1 ∈ own.map (·.1)) || !(decide (y.1 ∈ N))))))
def nilEs : CEs → Bool
  | .nil => true
  | _ => false
def rev1 : Expr → Bool
  | .UnaryOp .USub (.Constant (.int j) _ _) _ => decide (j = 1)
  | _ => false
def ownP (N : List Str) (own : List Nat) : List (Str × Nat) := own.map fun i => (N.getD i Str.empty, i)
def Fx.blk (F : Fx) (scope : Scope) : Fx := ⟨F.N, relS scope F.sc, fun x => decide (scope.names.lookup x = some .cell)⟩
def inits (G : Prog) (c : Nat) : Bool := match G.cls[c]? with
  | some ci => ci.init.isSome
  | none => false
mutual
def chk (T : Tb) (G : Prog) (nm : Nm) : CE → Bool → Fx → Expr → Bool
  | .slot i, t, F, e => match e with
    | .Name x _ => decide (F.N[i]? = some x) && (visB F.sc x && plainN x)
    | _ => false
  | .lit d, t, F, e => litB d e && (!t || plainT e)
  | .glb i, t, F, e => match e with
    | .Name x _ => decide (T.glN.lookup x = some i) && (glB F.sc x && plainN x)
    | _ => false
  | .bin _ op a b, t, F, e => match e with
    | .BinOp l o r _ => opOk op o && (chk T G nm a false F l && chk T G nm b false F r)
    | _ => false
  | .cmp op a b, t, F, e => match e with
    | .Compare l [o] [r] _ => copOk op o && (!(behindInMarks o r) && (chk T G nm a false F l && chk T G nm b false F r))
    | _ => false
  | .chain op op' a b c, t, F, e => match e with
    | .Compare l [o, o'] [r, r'] _ => copOk op o && (copOk op' o' && (!(behindInMarks o' r') && (chk T G nm a false F l && (chk T G nm b false F r && chk T G nm c false F r'))))
    | _ => false
  | .and a b, t, F, e => match e with
    | .BoolOp .And (x :: y :: rest) pos => chk T G nm a t F x && (match rest with
      | [] => chk T G nm b t F y
      | _ :: _ => chk T G nm b t F (.BoolOp .And (y :: rest) pos))
    | _ => false
  | .or a b, t, F, e => match e with
    | .BoolOp .Or (x :: y :: rest) pos => chk T G nm a t F x && (match rest with
      | [] => chk T G nm b t F y
      | _ :: _ => chk T G nm b t F (.BoolOp .Or (y :: rest) pos))
    | _ => false
  | .not a, t, F, e => match e with
    | .UnaryOp .Not x _ => chk T G nm a t F x
    | _ => false
  | .ife c a b, t, F, e => !t && (match e with
    | .IfExp x y z _ => chk T G nm c true F x && (chk T G nm a false F y && chk T G nm b false F z)
    | _ => false)
  | .neg a, t, F, e => !t && (match e with
    | .UnaryOp .USub x _ => chk T G nm a false F x
    | _ => false)
  | .tup es, t, F, e => !t && (match e with
    | .Tuple xs _ _ => chkEs T G nm es F xs
    | _ => false)
  | .lst _ es, t, F, e => match e with
    | .List xs _ => chkEs T G nm es F xs
    | _ => false
  | .idx a b, t, F, e => match e with
    | .Subscript x y _ => notSlice y && (chk T G nm a false F x && chk T G nm b false F y)
    | _ => false
  | .sli _ a lo hi, t, F, e => match e with
    | .Subscript x (.Slice l h none _) _ => chk T G nm a false F x && (chkO T G nm lo F l && chkO T G nm hi F h)
    | _ => false
  | .srtSet _ a, t, F, e => match e with
    | .Call (.Name x _) [.Call (.Name y _) [z] [] _] [] _ => decide (x = ("sorted" : Str)) && (decide (y = ("set" : Str)) && (frB T F x && (frB T F y && (notStar z && chk T G nm a false F z))))
    | _ => false
  | .rev _ a, t, F, e => match e with
    | .Subscript x (.Slice none none (some y) _) _ => rev1 y && chk T G nm a false F x
    | _ => false
  | .attr a f, t, F, e => match e with
    | .Attribute x y _ => decide (nm.attr[f]? = some y) && (notSuper x && chk T G nm a false F x)
    | _ => false
  | .call f es, t, F, e => match e with
    | .Call (.Name x _) xs [] _ => decide (T.fnN.lookup x = some f) && (glB F.sc x && (plainN x && (xs.all notStar && chkEs T G nm es F xs)))
    | _ => false
  | .callK f n es ks, t, F, e => match e with
    | .Call (.Name x _) xs kws _ => decide (T.fnN.lookup x = some f) && (glB F.sc x && (plainN x && (xs.all notStar && (decide (xs.length = n) && ((kws.all fun k => k.arg.isSome) && (decide (some (kws.filterMap (·.arg)) = (T.ps[f]?).map (·.drop n)) && (((kws.map (·.value)).all notStar) && (chkEs T G nm es F xs && chkEs T G nm ks F (kws.map (·.value))))))))))
    | _ => false
  | .ctor c _ es, t, F, e => match e with
    | .Call (.Name x _) xs [] _ => decide (T.clN.lookup x = some c) && (inits G c && (glB F.sc x && (plainN x && (xs.all notStar && chkEs T G nm es F xs))))
    | _ => false
  | .meth a m es, t, F, e => match e with
    | .Call (.Attribute o x apos) xs [] pos => decide (nm.attr[m]? = some x) && (notSuper o && (xs.all notStar && (decide (xs.length < 20) && ((apos.endLine == pos.line) && (chk T G nm a false F o && chkEs T G nm es F xs)))))
    | _ => false
  | .bi b _ es, t, F, e => match e with
    | .Call (.Name x _) (y :: xs) [] _ => biOk b && (decide (x = biN b) && (frB T F x && (plainN x && ((y :: xs).all notStar && chkEs T G nm es F (y :: xs)))))
    | _ => false
  | .bm m _ a es, t, F, e => match e with
    | .Call (.Attribute o x apos) xs [] pos => decide (x = bmN m) && (notSuper o && (xs.all notStar && (decide (xs.length < 20) && ((apos.endLine == pos.line) && (chk T G nm a false F o && chkEs T G nm es F xs)))))
    | _ => false
  | .rng _ es, t, F, e => match e with
    | .Call (.Name x _) [.Call (.Name y _) xs [] _] [] _ => decide (x = ("list" : Str)) && (decide (y = ("range" : Str)) && (frB T F x && (frB T F y && (xs.all notStar && ((decide (xs.length = 1) || decide (xs.length = 2)) && chkEs T G nm es F xs)))))
    | _ => false
  | .comp _ elt tg it conds own, t, F, e => !t && (match e with
    | .ListComp x [⟨y, z, ifs, k⟩] scope _ => decide (k = 0) && (notSetE z && (blkB F.N F.sc scope (ownP F.N own) && ((tgS tg).all (fun j => own.contains j) && (chkI T G nm it F y z && (chkTg (F.blk scope) tg y && (chkC T G nm conds (F.blk scope) ifs && chk T G nm elt false (F.blk scope) x))))))
    | _ => false)
  | .dct, t, F, e => !t && (match e with
    | .Dict [] [] _ => true
    | _ => false)
  | .dctT, t, F, e => !t && (match e with
    | .Dict [] [] _ => true
    | _ => false)
  | .dctL es, t, F, e => !t && (match e with
    | .Dict keys values _ => evenEs es && (decide (keys.length = values.length) && (!(keys.isEmpty) && (decide (keys.length ≤ 15) && ((keys.all (·.isSome)) && chkPs T G nm es F keys values))))
    | _ => false)
  | .isi a ty, t, F, e => match e with
    | .Call (.Name x _) [y, .Name z _] [] _ => decide (x = ("isinstance" : Str)) && (frB T F x && (notStar y && (T.isi.contains ty && (tyB T F ty z && chk T G nm a false F y))))
    | _ => false
def chkEs (T : Tb) (G : Prog) (nm : Nm) : CEs → Fx → List Expr → Bool
  | .nil, F, es => es.isEmpty
  | .cons c r, F, es => match es with
    | e :: es => notStar e && (chk T G nm c false F e && chkEs T G nm r F es)
    | [] => false
  | .star c r, F, es => match es with
    | .Starred e _ :: es => chk T G nm c false F e && chkEs T G nm r F es
    | _ => false
def chkPs (T : Tb) (G : Prog) (nm : Nm) : CEs → Fx → List (Option Expr) → List Expr → Bool
  | .nil, F, ks, vs => ks.isEmpty && vs.isEmpty
  | .cons k (.cons v r), F, ks, vs => match ks, vs with
    | some x :: ks, y :: vs => chk T G nm k false F x && (chk T G nm v false F y && chkPs T G nm r F ks vs)
    | _, _ => false
  | _, F, _, _ => false
def chkO (T : Tb) (G : Prog) (nm : Nm) : CO → Fx → Option Expr → Bool
  | .no, F, e => e.isNone
  | .yes c, F, e => match e with
    | some e => chk T G nm c false F e
    | none => false
def chkI (T : Tb) (G : Prog) (nm : Nm) : CI → Fx → Expr → Expr → Bool
  | .seq c, F, tg, e => chk T G nm c false F e
  | .rng1 a, F, tg, e => match e with
    | .Call (.Name x _) [y] [] _ => decide (x = ("range" : Str)) && (frB T F x && (notStar y && chk T G nm a false F y))
    | _ => false
  | .rng2 a b, F, tg, e => match e with
    | .Call (.Name x _) [y, z] [] _ => decide (x = ("range" : Str)) && (frB T F x && (notStar y && (notStar z && (chk T G nm a false F y && chk T G nm b false F z))))
    | _ => false
  | .enum a, F, tg, e => !(notTup tg) && (match e with
    | .Call (.Name x _) [y] [] _ => decide (x = ("enumerate" : Str)) && (frB T F x && (notStar y && chk T G nm a false F y))
    | _ => false)
  | .zip a b, F, tg, e => !(notTup tg) && (match e with
    | .Call (.Name x _) [y, z] [] _ => decide (x = ("zip" : Str)) && (frB T F x && (notStar y && (notStar z && (chk T G nm a false F y && chk T G nm b false F z))))
    | _ => false)
def chkC (T : Tb) (G : Prog) (nm : Nm) : CEs → Fx → List Expr → Bool
  | .nil, F, es => es.isEmpty
  | .cons c r, F, es => match es with
    | [e] => nilEs r && chk T G nm c true F e
    | _ => false
  | .star _ _, F, es => false
end
end Cr


/-! Cr25: what the checker lets through is sound: expressions. -/
namespace Cr
open PySem PySem.Spec PyProof.Rows L2

/-- what of the written part stands behind the names -/
structure KOk (K : PySem.W.Frag) (mg : Str → Option Value) (G : Prog) (nm : Nm) (Wd : Wo) (T : Tb) : Prop where
  f : ∀ x i, T.fnN.lookup x = some i → i < G.fns.length ∧ mg x = some (.ref (Wd.fa i)) ∧ PySem.W.keepIn K (.ref (Wd.fa i)) = true
  c : ∀ x c, T.clN.lookup x = some c → mg x = some (.ref (ca K nm c))
  g : ∀ x i, T.glN.lookup x = some i → ∃ u v d, mg x = some u ∧ RelV v u ∧ G.glb[i]? = some d ∧ ∀ Z, Rep K G nm Z v d
  n : ∀ x, T.free.contains x = true → mg x = none
  fl : ∀ c ci, G.cls[c]? = some ci → (fns G nm c).Nodup ∧ (fns G nm c).length ≤ 900
  isi : IsiOk K G nm T.isi
  ps : ∀ i l, T.ps[i]? = some l → Wd.ps i = l
structure XOk (X : Cx) (F : Fx) (T : Tb) (G : Prog) (nm : Nm) (Wd : Wo) (W : WX) (call : Nat → List A → Store → KA → KX → Prop) (lv : Nat) : Prop where
  sig : Sig X G nm Wd W call lv
  k : KOk X.K X.mg G nm Wd T
  N : X.N = F.N
  nd : X.N.Nodup
  sc : X.env.scope = F.sc
  fn : X.fn = F.fnb
  calm : X.calm = true
theorem ba {a b : Bool} (h : (a && b) = true) : a = true ∧ b = true := Bool.and_eq_true_iff.mp h
theorem bd {p : Prop} [Decidable p] (h : decide p = true) : p := of_decide_eq_true h
theorem bn {a : Bool} (h : (!a) = true) : a = false := by cases a <;> simp at h ⊢

section
variable {X : Cx} {F : Fx} {T : Tb} {G : Prog} {nm : Nm} {Wd : Wo} {lv : Nat} {W : WX} {call : Nat → List A → Store → KA → KX → Prop}
theorem gl_of (h : XOk X F T G nm Wd W call lv) {x : Str} (e : glB F.sc x = true) : Gl X x := by
  show X.env.scope.names.lookup x = _
  rw [h.sc]
  exact bd e
theorem vis_of (h : XOk X F T G nm Wd W call lv) {x : Str} (e : visB F.sc x = true) : Vis X.env.scope x := by
  unfold Vis
  rw [h.sc]
  unfold visB at e
  split at e
  · rename_i q; exact .inl q
  · rename_i q; exact .inr (.inl q)
  · rename_i q; exact .inr (.inr q)
  · cases e
theorem loc_of (h : XOk X F T G nm Wd W call lv) {x : Str} (e : storB F x = true) : Loc X.env.scope x ∧ (X.fn x = true ∨ X.env.scope.names.lookup x = some .local) := by
  obtain ⟨e1, e2⟩ := ba e
  refine ⟨?_, ?_⟩
  · unfold L2.Loc
    rw [h.sc]
    unfold locB at e1
    split at e1
    · rename_i q; exact .inl q
    · rename_i q; exact .inr q
    · cases e1
  · rw [h.sc, h.fn]
    rcases Bool.or_eq_true_iff.mp e2 with q | q
    · exact .inl q
    · exact .inr (bd q)
theorem pln {x : Str} (h : plainN x = true) : (x == ("__debug__" : Str)) = false ∧ (x == ("__classdict__" : Str)) = false ∧ x ≠ "__name__" := by
  obtain ⟨h1, h2⟩ := ba h
  obtain ⟨h1, h3⟩ := ba h1
  have a1 := bn h1
  have a2 := bn h3
  have a3 := bn h2
  refine ⟨?_, ?_, of_decide_eq_false a3⟩
  · exact beq_false_of_ne (of_decide_eq_false a1)
  · exact beq_false_of_ne (of_decide_eq_false a2)
theorem lit_ok {d : D} {e : Expr} (h : litB d e = true) : PE X e (TE' X G nm W call (.lit d)) := by
  unfold litB at h
  split at h
  · exact e_lit pe_non fun Z => .non
  · cases bd h; exact e_lit pe_bl fun Z => .bl _
  · cases bd h; exact e_lit pe_int fun Z => .int _
  · have := bd h
    subst this
    refine PE.of (pe_un un_neg pe_int) fun σ H Q ⟨Z, μ, ρ, Kp, E, hs, b, w, k⟩ => ?_
    rw [wpE] at w
    exact ⟨_, rfl, k _ _ w _ _ _ same_refl hs (.d (.int _))⟩
  · obtain ⟨h1, h2⟩ := ba h
    cases bd h1
    exact e_lit pe_str fun Z => .str _ h2
  · cases h
theorem op_ok {cell : Bool} {op : BOp} {o : Operator} (h : opOk op o = true) : OpR X (binaryOp o) (rOpX (opB op) cell X.K G nm) := by
  unfold opOk at h
  split at h
  · exact or_add
  · exact or_sub
  · exact or_mul
  · exact or_fdiv
  · exact or_mod
  · exact or_pow
  · exact or_shl
  · cases h
theorem cop_ok (hu : X.A.units + 100 < cLine) {op : COp} {o : CmpOp} (h : copOk op o = true) : OpR X (compareOp o) (rOp (bop op) X.K G nm) := by
  unfold copOk at h
  split at h
  · exact oc_eq (by omega)
  · exact oc_ne (by omega)
  · exact oc_lt hu
  · exact oc_le
  · exact oc_gt hu
  · exact oc_ge
  · exact oc_is
  · exact oc_isn
  · exact oc_eqE hu
  · exact oc_neE hu
  · exact oc_in hu
  · exact oc_nin hu
  · cases h
theorem bi_ok (hc : X.calm = true) (hg : X.A.guards = some []) (hu : X.A.units + 100 < cLine) {b : Bi} (cell : Bool) (h : biOk b = true) : ∃ f, CallR X f (rBi (opBi b) cell X.K G nm) ∧ ((∃ id, f = .builtin id) ∨ ∃ T, f = .type T) ∧ bootBuiltins (biN b) = some f := by
  cases b <;> simp [biOk] at h
  · exact ⟨_, cb_len, .inl ⟨_, rfl⟩, boot_len⟩
  · exact ⟨_, cb_int, .inr ⟨_, rfl⟩, boot_int⟩
  · exact ⟨_, cb_str, .inr ⟨_, rfl⟩, boot_str⟩
  · exact ⟨_, cb_tuple, .inr ⟨_, rfl⟩, boot_tuple⟩
  · exact ⟨_, cb_list hc, .inr ⟨_, rfl⟩, boot_list⟩
  · exact ⟨_, cb_all hc, .inl ⟨_, rfl⟩, boot_all⟩
  · exact ⟨_, cb_any hc, .inl ⟨_, rfl⟩, boot_any⟩
  · exact ⟨_, cb_sum hc, .inl ⟨_, rfl⟩, boot_sum⟩
  · exact ⟨_, cb_sorted hc, .inl ⟨_, rfl⟩, boot_sorted⟩
  · exact ⟨_, cb_min hc (by omega), .inl ⟨_, rfl⟩, boot_min⟩
  · exact ⟨_, cb_max hc (by omega), .inl ⟨_, rfl⟩, boot_max⟩
  · exact ⟨_, cb_abs, .inl ⟨_, rfl⟩, boot_abs⟩
  · exact ⟨_, cb_repr hg (by omega), .inl ⟨_, rfl⟩, boot_repr⟩
  · exact ⟨_, cb_minP hc (by omega), .inl ⟨_, rfl⟩, boot_min⟩
theorem fr_of (h : XOk X F T G nm Wd W call lv) {x : Str} (e : frB T F x = true) : Gl X x ∧ X.mg x = none := by
  obtain ⟨e1, e2⟩ := ba e
  exact ⟨gl_of h e1, h.k.n x e2⟩
theorem ty_ok (h : XOk X F T G nm Wd W call lv) {t : Ty} {x : Str} {p : Pos} (e : tyB T F t x = true) : PE X (.Name x p) (tC (tyV X.K nm t)) := by
  cases t <;> simp only [tyB] at e
  case own c =>
    obtain ⟨e1, e2⟩ := ba e
    obtain ⟨e2, e3⟩ := ba e2
    exact pe_glob (gl_of h e1) (h.k.c x c (bd e3)) rfl (pln e2).1
  case exn c => cases e
  all_goals
    obtain ⟨e1, e2⟩ := ba e
    obtain ⟨e2, e3⟩ := ba e2
    have e4 := bd e3
    simp only [tyN, Option.some.injEq] at e4
    subst e4
    first
      | exact pe_bltn (fr_of h e1).1 (fr_of h e1).2 boot_int rfl (pln e2).2.2 (pln e2).1
      | exact pe_bltn (fr_of h e1).1 (fr_of h e1).2 boot_bool rfl (pln e2).2.2 (pln e2).1
      | exact pe_bltn (fr_of h e1).1 (fr_of h e1).2 boot_str rfl (pln e2).2.2 (pln e2).1
      | exact pe_bltn (fr_of h e1).1 (fr_of h e1).2 boot_tuple rfl (pln e2).2.2 (pln e2).1
      | exact pe_bltn (fr_of h e1).1 (fr_of h e1).2 boot_list rfl (pln e2).2.2 (pln e2).1
mutual
theorem tg_ok (hX : XOk X F T G nm Wd W call lv) : ∀ (t : Tg) (e : Expr), chkTg F t e = true → PG X e (TG' X G nm t)
  | .slot i, e, h => by
    simp only [chkTg] at h
    split at h
    · obtain ⟨h1, h2⟩ := ba h
      obtain ⟨l1, l2⟩ := loc_of hX h2
      exact g_slot hX.nd (by rw [hX.N]; exact bd h1) l1 l2
    · cases h
  | .tup ts, e, h => by
    simp only [chkTg] at h
    split at h
    · obtain ⟨h1, h2⟩ := ba h
      obtain ⟨h2, h3⟩ := ba h2
      exact g_tup hX.calm (tgs_ok hX ts _ h3) h1 (bd h2)
    · cases h
theorem tgs_ok (hX : XOk X F T G nm Wd W call lv) : ∀ (ts : List Tg) (es : List Expr), chkTgs F ts es = true → PGs X es (TGs' X G nm ts)
  | [], es, h => by
    simp only [chkTgs] at h
    rw [List.isEmpty_iff.mp h]
    exact gs_nil
  | t :: ts, es, h => by
    simp only [chkTgs] at h
    split at h
    · obtain ⟨h1, h2⟩ := ba h
      obtain ⟨h2, h3⟩ := ba h2
      exact gs_cons (tg_ok hX t _ h2) (tgs_ok hX ts _ h3) h1
    · cases h
end
theorem blk_ok {N : List Str} {sc scope : Scope} {own : List (Str × Nat)} (h : blkB N sc scope own = true) : BlkOk N sc scope own := by
  unfold blkB at h
  obtain ⟨h1, h⟩ := ba h
  obtain ⟨h2, h⟩ := ba h
  obtain ⟨h3, h5⟩ := ba h
  obtain ⟨h3, h4⟩ := ba h3
  refine ⟨bd h1, fun y hy => bd (List.all_eq_true.mp h2 y hy), fun p hp => bd (List.all_eq_true.mp h3 p hp), fun y hy e => ?_, fun y hy e => ?_⟩
  · have := List.all_eq_true.mp h4 y hy
    simp only [e, decide_true, Bool.not_true, Bool.false_or] at this
    rcases Bool.or_eq_true_iff.mp this with q | q
    · exact .inl (bd q)
    · exact .inr (bd q)
  · have := List.all_eq_true.mp h5 y hy
    have e2 : (decide (y.2 = NameKind.local) || decide (y.2 = NameKind.cell)) = true := by
      rcases e with e | e <;> simp [e]
    rw [e2] at this
    simp only [Bool.not_true, Bool.false_or] at this
    rcases Bool.or_eq_true_iff.mp this with q | q
    · exact .inl (bd q)
    · exact .inr (of_decide_eq_false (bn q))
theorem blkX (hX : XOk X F T G nm Wd W call lv) {scope : Scope} (s : Shared) (H : Hp) (C : Addr) (cl : List (Str × Addr)) (fp : List Addr) : XOk (X.blk s H scope (compEnvC scope cl C X.env) fp) (F.blk scope) T G nm Wd W0 call lv :=
  ⟨⟨hX.sig.c, hX.sig.f, hX.sig.r, takes0', hX.sig.g⟩, hX.k, hX.N, hX.nd, by rw [show (F.blk scope).sc = relS scope F.sc from rfl, ← hX.sc]; rfl, by funext x; show (scope.names.lookup x == some .cell) = decide (scope.names.lookup x = some .cell); rw [Bool.eq_iff_iff]; simp, hX.calm⟩
end
end Cr


/-! Cr26: what the checker lets through is sound. -/
namespace Cr
open PySem PySem.Spec PyProof.Rows L2

def isBO : Expr → Bool
  | .BoolOp _ _ _ => true
  | _ => false
/-- of an expression: its value, as a test, as a test in a row -/
structure Snd (X : Cx) (G : Prog) (nm : Nm) (W : WX) (call : Nat → List A → Store → KA → KX → Prop) (c : CE) (tt : Bool) (ee : Expr) : Prop where
  e : tt = false → PE X ee (TE' X G nm W call c)
  t : tt = true → PT X ee (TT' X G nm W call c)
  w : tt = true → isBO ee = true → PW X ee (TT' X G nm W call c)
section
variable {T : Tb} {G : Prog} {nm : Nm} {Wd : Wo} {lv : Nat} {call : Nat → List A → Store → KA → KX → Prop}
theorem Snd.val {X : Cx} {W : WX} {c : CE} {t : Bool} {e : Expr} (h : PE X e (TE' X G nm W call c)) (hv : valT c = true) (hp : t = true → plainT e = true) : Snd X G nm W call c t e :=
  ⟨fun _ => h, fun q => t_truth hv h (fun w => plainT_of (hp q) _ w), fun q b => by
    have := hp q
    cases e <;> simp [isBO, plainT] at b this⟩
theorem Snd.not {X : Cx} {W : WX} {c : CE} {t : Bool} {e : Expr} (h : PE X e (TE' X G nm W call c)) (ht : t = false) : Snd X G nm W call c t e :=
  ⟨fun _ => h, fun q => (by rw [ht] at q; cases q), fun q => (by rw [ht] at q; cases q)⟩
theorem chkEs_nil {es : CEs} {F : Fx} {xs : List Expr} (h : chkEs T G nm es F xs = true) (e : xs = []) : es = .nil := by
  subst e
  cases es <;> simp [chkEs] at h
  rfl
theorem chkEs_one {es : CEs} {F : Fx} {u : Expr} (h : chkEs T G nm es F [u] = true) (hu : notStar u = true) : ∃ a, es = .cons a .nil ∧ chk T G nm a false F u = true := by
  cases es with
  | nil => simp [chkEs] at h
  | star c r =>
    simp only [chkEs] at h
    split at h
    · rename_i e
      simp only [List.cons.injEq] at e
      rw [e.1] at hu
      cases hu
    · cases h
  | cons c r =>
    simp only [chkEs] at h
    obtain ⟨_, h⟩ := ba h
    obtain ⟨h1, h2⟩ := ba h
    cases chkEs_nil h2 rfl
    exact ⟨c, rfl, h1⟩
theorem chkEs_two {es : CEs} {F : Fx} {u v : Expr} (h : chkEs T G nm es F [u, v] = true) (hu : notStar u = true) (hv : notStar v = true) : ∃ a b, es = .cons a (.cons b .nil) ∧ chk T G nm a false F u = true ∧ chk T G nm b false F v = true := by
  cases es with
  | nil => simp [chkEs] at h
  | star c r =>
    simp only [chkEs] at h
    split at h
    · rename_i e
      simp only [List.cons.injEq] at e
      rw [e.1] at hu
      cases hu
    · cases h
  | cons c r =>
    simp only [chkEs] at h
    obtain ⟨_, h⟩ := ba h
    obtain ⟨h1, h2⟩ := ba h
    obtain ⟨b, rfl, h3⟩ := chkEs_one h2 hv
    exact ⟨c, b, rfl, h1, h3⟩
mutual
theorem chk_ok : ∀ (c : CE) {t : Bool} {F : Fx} {X : Cx} {W : WX} {e : Expr}, XOk X F T G nm Wd W call lv → chk T G nm c t F e = true → Snd X G nm W call c t e
  | .slot i, t, F, X, W, e, hX, h => by
    simp only [chk] at h
    split at h
    · obtain ⟨h1, h2⟩ := ba h
      obtain ⟨h2, h3⟩ := ba h2
      exact .val (e_slot (by rw [hX.N]; exact bd h1) (vis_of hX h2) (pln h3).1 (pln h3).2.1) rfl fun _ => rfl
    · cases h
  | .lit d, t, F, X, W, e, hX, h => by
    simp only [chk] at h
    obtain ⟨h1, h2⟩ := ba h
    exact .val (lit_ok h1) rfl fun q => by rw [q] at h2; simpa using h2
  | .glb i, t, F, X, W, e, hX, h => by
    simp only [chk] at h
    split at h
    · obtain ⟨h1, h2⟩ := ba h
      obtain ⟨h2, h3⟩ := ba h2
      obtain ⟨u, v, d, m, rv, hg, rep⟩ := hX.k.g _ _ (bd h1)
      exact .val (e_glb (pe_glob (gl_of hX h2) m rv (pln h3).1) hg rep) rfl fun _ => rfl
    · cases h
  | .bin cell op a b, t, F, X, W, e, hX, h => by
    simp only [chk] at h
    split at h
    · obtain ⟨h1, h2⟩ := ba h
      obtain ⟨h2, h3⟩ := ba h2
      exact .val (e_bin (cell := cell) (op_ok h1) ((chk_ok a hX h2).e rfl) ((chk_ok b hX h3).e rfl)) rfl fun _ => rfl
    · cases h
  | .cmp op a b, t, F, X, W, e, hX, h => by
    simp only [chk] at h
    split at h
    · obtain ⟨h1, h2⟩ := ba h
      obtain ⟨h2, h3⟩ := ba h2
      obtain ⟨h3, h4⟩ := ba h3
      have ho := cop_ok (X := X) (G := G) (nm := nm) (rooms hX.sig) h1
      exact ⟨fun _ => e_cmp ho (bn h2) ((chk_ok a hX h3).e rfl) ((chk_ok b hX h4).e rfl), fun _ => t_cmp ho (bn h2) ((chk_ok a hX h3).e rfl) ((chk_ok b hX h4).e rfl), fun _ q => by cases q⟩
    · cases h
  | .chain op op' a b c, t, F, X, W, e, hX, h => by
    simp only [chk] at h
    split at h
    · obtain ⟨h1, h2⟩ := ba h
      obtain ⟨h2, h3⟩ := ba h2
      obtain ⟨h3, h4⟩ := ba h3
      obtain ⟨h4, h5⟩ := ba h4
      obtain ⟨h5, h6⟩ := ba h5
      have ho := cop_ok (X := X) (G := G) (nm := nm) (rooms hX.sig) h1
      have ho' := cop_ok (X := X) (G := G) (nm := nm) (rooms hX.sig) h2
      exact ⟨fun _ => e_chain ho ho' (bn h3) ((chk_ok a hX h4).e rfl) ((chk_ok b hX h5).e rfl) ((chk_ok c hX h6).e rfl), fun _ => t_chain ho ho' (bn h3) ((chk_ok a hX h4).e rfl) ((chk_ok b hX h5).e rfl) ((chk_ok c hX h6).e rfl), fun _ q => by cases q⟩
    · cases h
  | .and a b, t, F, X, W, e, hX, h => by
    simp only [chk] at h
    split at h
    · rename_i x y rest pos
      obtain ⟨h1, h2⟩ := ba h
      have sa := chk_ok a hX h1
      cases rest with
      | nil =>
        have sb := chk_ok b hX h2
        exact ⟨fun q => e_and (sa.e q) (e_one (sb.e q)), fun q => (t_and (sa.t q) (t_and1 (sb.t q))).pt, fun q _ => t_and (sa.t q) (t_and1 (sb.t q))⟩
      | cons z r =>
        have sb := chk_ok b hX h2
        exact ⟨fun q => e_and (sa.e q) (sb.e q), fun q => (t_and (sa.t q) (sb.w q rfl)).pt, fun q _ => t_and (sa.t q) (sb.w q rfl)⟩
    · cases h
  | .or a b, t, F, X, W, e, hX, h => by
    simp only [chk] at h
    split at h
    · rename_i x y rest pos
      obtain ⟨h1, h2⟩ := ba h
      have sa := chk_ok a hX h1
      cases rest with
      | nil =>
        have sb := chk_ok b hX h2
        exact ⟨fun q => e_or (sa.e q) (e_one (sb.e q)), fun q => (t_or (sa.t q) (t_or1 (sb.t q))).pt, fun q _ => t_or (sa.t q) (t_or1 (sb.t q))⟩
      | cons z r =>
        have sb := chk_ok b hX h2
        exact ⟨fun q => e_or (sa.e q) (sb.e q), fun q => (t_or (sa.t q) (sb.w q rfl)).pt, fun q _ => t_or (sa.t q) (sb.w q rfl)⟩
    · cases h
  | .not a, t, F, X, W, e, hX, h => by
    simp only [chk] at h
    split at h
    · have sa := chk_ok a hX h
      exact ⟨fun q => e_not (sa.e q), fun q => t_not (sa.t q), fun _ q => by cases q⟩
    · cases h
  | .ife c a b, t, F, X, W, e, hX, h => by
    simp only [chk] at h
    obtain ⟨ht, h⟩ := ba h
    split at h
    · obtain ⟨h1, h2⟩ := ba h
      obtain ⟨h2, h3⟩ := ba h2
      exact .not (e_ife ((chk_ok c hX h1).t rfl) ((chk_ok a hX h2).e rfl) ((chk_ok b hX h3).e rfl)) (bn ht)
    · cases h
  | .neg a, t, F, X, W, e, hX, h => by
    simp only [chk] at h
    obtain ⟨ht, h⟩ := ba h
    split at h
    · exact .not (e_neg ((chk_ok a hX h).e rfl)) (bn ht)
    · cases h
  | .tup es, t, F, X, W, e, hX, h => by
    simp only [chk] at h
    obtain ⟨ht, h⟩ := ba h
    split at h
    · exact .not (e_tup (chkEs_ok es hX h)) (bn ht)
    · cases h
  | .lst cell es, t, F, X, W, e, hX, h => by
    simp only [chk] at h
    split at h
    · exact .val (e_lst (chkEs_ok es hX h)) rfl fun _ => rfl
    · cases h
  | .idx a b, t, F, X, W, e, hX, h => by
    simp only [chk] at h
    split at h
    · obtain ⟨h1, h2⟩ := ba h
      obtain ⟨h2, h3⟩ := ba h2
      exact .val (e_idx (rooms hX.sig) (plainIx_of h1) ((chk_ok a hX h2).e rfl) ((chk_ok b hX h3).e rfl)) rfl fun _ => rfl
    · cases h
  | .sli cell a lo hi, t, F, X, W, e, hX, h => by
    simp only [chk] at h
    split at h
    · obtain ⟨h1, h2⟩ := ba h
      obtain ⟨h2, h3⟩ := ba h2
      exact .val (e_sli ((chk_ok a hX h1).e rfl) (chkO_ok lo hX h2) (chkO_ok hi hX h3)) rfl fun _ => rfl
    · cases h
  | .srtSet cell a, t, F, X, W, e, hX, h => by
    simp only [chk] at h
    split at h
    · rename_i x p y p2 z pos2 pos
      obtain ⟨h1, h2⟩ := ba h
      obtain ⟨h2, h3⟩ := ba h2
      obtain ⟨h3, h4⟩ := ba h3
      obtain ⟨h4, h5⟩ := ba h4
      obtain ⟨h5, h6⟩ := ba h5
      rw [bd h1, bd h2]
      have g1 := fr_of hX h3
      have g2 := fr_of hX h4
      rw [bd h1] at g1
      rw [bd h2] at g2
      exact .val (e_srtSet hX.calm g1.1 g1.2 g2.1 g2.2 h5 ((chk_ok a hX h6).e rfl)) rfl fun _ => rfl
    · cases h
  | .rev cell a, t, F, X, W, e, hX, h => by
    simp only [chk] at h
    split at h
    · obtain ⟨h1, h2⟩ := ba h
      unfold rev1 at h1
      split at h1
      · cases bd h1
        exact .val (e_rev ((chk_ok a hX h2).e rfl)) rfl fun _ => rfl
      · cases h1
    · cases h
  | .attr a f, t, F, X, W, e, hX, h => by
    simp only [chk] at h
    split at h
    · obtain ⟨h1, h2⟩ := ba h
      obtain ⟨h2, h3⟩ := ba h2
      exact .val (e_attr hX.sig ((chk_ok a hX h3).e rfl) (bd h1) h2) rfl fun _ => rfl
    · cases h
  | .call f es, t, F, X, W, e, hX, h => by
    simp only [chk] at h
    split at h
    · rename_i x p xs pos
      obtain ⟨h1, q2⟩ := ba h
      obtain ⟨h2, q3⟩ := ba q2
      obtain ⟨h3, q4⟩ := ba q3
      obtain ⟨h4, h5⟩ := ba q4
      obtain ⟨k1, k2, k3⟩ := hX.k.f _ _ (bd h1)
      cases xs with
      | nil =>
        cases chkEs_nil h5 rfl
        exact .val (e_call0 hX.sig k1 (gl_of hX h2) k2 k3 (pln h3).1) rfl fun _ => rfl
      | cons y ys =>
        have h6 : notStar y = true ∧ ys.all notStar = true := by simpa using h4
        exact .val (e_call hX.sig k1 (gl_of hX h2) k2 k3 (pln h3).1 h6.1 h6.2 (chkEs_ok es hX h5)) rfl fun _ => rfl
    · cases h
  | .callK f n es ks, t, F, X, W, e, hX, h => by
    simp only [chk] at h
    split at h
    · rename_i x p xs kws pos
      obtain ⟨h1, q2⟩ := ba h
      obtain ⟨h2, q3⟩ := ba q2
      obtain ⟨h3, q4⟩ := ba q3
      obtain ⟨h4, q5⟩ := ba q4
      obtain ⟨h5, q6⟩ := ba q5
      obtain ⟨h6, q7⟩ := ba q6
      obtain ⟨h7, q8⟩ := ba q7
      obtain ⟨h8, q9⟩ := ba q8
      obtain ⟨h9, h10⟩ := ba q9
      obtain ⟨k1, k2, k3⟩ := hX.k.f _ _ (bd h1)
      have en := bd h5
      subst en
      have e7 := bd h7
      cases ep : T.ps[f]? with
      | none => rw [ep] at e7; cases e7
      | some l =>
        rw [ep] at e7
        have e8 : kws.filterMap (·.arg) = l.drop xs.length := Option.some.inj e7
        exact .val (e_callK hX.sig k1 (gl_of hX h2) k2 k3 (pln h3).1 h4 h6 (by rw [hX.k.ps f l ep]; exact e8) (chkEs_ok es hX h9) (chkEs_nil h9) (chkK_ok ks hX h8 h10)) rfl fun _ => rfl
    · cases h
  | .ctor c cell es, t, F, X, W, e, hX, h => by
    simp only [chk] at h
    split at h
    · rename_i x p xs pos
      obtain ⟨h1, h2⟩ := ba h
      obtain ⟨h2, h3⟩ := ba h2
      obtain ⟨h3, h4⟩ := ba h3
      obtain ⟨h4, h5⟩ := ba h4
      obtain ⟨h5, h6⟩ := ba h5
      unfold inits at h2
      split at h2
      · rename_i ci eci
        cases ei : ci.init with
        | none => rw [ei] at h2; cases h2
        | some i => exact .val (e_ctor hX.sig (hX.k.fl c ci eci) eci ei (gl_of hX h3) (hX.k.c _ _ (bd h1)) (pln h4).1 h5 (chkEs_ok es hX h6) (chkEs_nil h6)) rfl fun _ => rfl
      · cases h2
    · cases h
  | .meth a m es, t, F, X, W, e, hX, h => by
    simp only [chk] at h
    split at h
    · obtain ⟨h1, h2⟩ := ba h
      obtain ⟨h2, h3⟩ := ba h2
      obtain ⟨h3, h4⟩ := ba h3
      obtain ⟨h4, h5⟩ := ba h4
      obtain ⟨h5, h6⟩ := ba h5
      obtain ⟨h6, h7⟩ := ba h6
      exact .val (e_meth hX.sig (bd h1) ((chk_ok a hX h6).e rfl) h2 h3 (bd h4) h5 (chkEs_ok es hX h7) (chkEs_nil h7)) rfl fun _ => rfl
    · cases h
  | .bi b cell es, t, F, X, W, e, hX, h => by
    simp only [chk] at h
    split at h
    · obtain ⟨h1, h2⟩ := ba h
      obtain ⟨h2, h3⟩ := ba h2
      obtain ⟨h3, h4⟩ := ba h3
      obtain ⟨h4, h5⟩ := ba h4
      obtain ⟨h5, h6⟩ := ba h5
      have h7 := List.all_eq_true.mp h5
      obtain ⟨f, k1, k2, k3⟩ := bi_ok (X := X) (G := G) (nm := nm) hX.calm hX.sig.g (rooms hX.sig) cell h1
      rw [← bd h2] at k3
      exact .val (e_bi k1 k2 (fr_of hX h3).1 (fr_of hX h3).2 k3 (pln h4).2.2 (pln h4).1 (h7 _ (by simp)) (List.all_eq_true.mpr fun z hz => h7 z (by simp [hz])) (chkEs_ok es hX h6)) rfl fun _ => rfl
    · cases h
  | .bm m cell a es, t, F, X, W, e, hX, h => by
    simp only [chk] at h
    split at h
    · obtain ⟨h1, h2⟩ := ba h
      obtain ⟨h2, h3⟩ := ba h2
      obtain ⟨h3, h4⟩ := ba h3
      obtain ⟨h4, h5⟩ := ba h4
      obtain ⟨h5, h6⟩ := ba h5
      obtain ⟨h6, h7⟩ := ba h6
      rw [bd h1]
      exact .val (e_bm hX.sig ((chk_ok a hX h6).e rfl) h2 h3 (bd h4) h5 (chkEs_ok es hX h7) (chkEs_nil h7)) rfl fun _ => rfl
    · cases h
  | .rng cell es, t, F, X, W, e, hX, h => by
    simp only [chk] at h
    split at h
    · rename_i x p y p2 xs pos2 pos
      obtain ⟨h1, h2⟩ := ba h
      obtain ⟨h2, h3⟩ := ba h2
      obtain ⟨h3, h4⟩ := ba h3
      obtain ⟨h4, h5⟩ := ba h4
      obtain ⟨h5, h6⟩ := ba h5
      obtain ⟨h6, h7⟩ := ba h6
      rw [bd h1, bd h2]
      have g1 := fr_of hX h3
      have g2 := fr_of hX h4
      rw [bd h1] at g1
      rw [bd h2] at g2
      have h8 := List.all_eq_true.mp h5
      rcases Bool.or_eq_true_iff.mp h6 with q | q
      · obtain ⟨u, rfl⟩ := List.length_eq_one_iff.mp (bd q)
        obtain ⟨a, rfl, q2⟩ := chkEs_one h7 (h8 u (by simp))
        exact .val (e_rng1 hX.calm g1.1 g1.2 g2.1 g2.2 (h8 u (by simp)) ((chk_ok a hX q2).e rfl)) rfl fun _ => rfl
      · obtain ⟨u, v, rfl⟩ : ∃ u v, xs = [u, v] := by
          have := bd q
          match xs, this with
          | [u, v], _ => exact ⟨u, v, rfl⟩
        obtain ⟨a, b, rfl, q2, q3⟩ := chkEs_two h7 (h8 u (by simp)) (h8 v (by simp))
        exact .val (e_rng2 hX.calm g1.1 g1.2 g2.1 g2.2 (h8 u (by simp)) (h8 v (by simp)) ((chk_ok a hX q2).e rfl) ((chk_ok b hX q3).e rfl)) rfl fun _ => rfl
    · cases h
  | .comp cell elt tg it conds own, t, F, X, W, e, hX, h => by
    simp only [chk] at h
    obtain ⟨ht, h⟩ := ba h
    split at h
    · rename_i x y z ifs k scope pos _h
      obtain ⟨h1, h2⟩ := ba h
      obtain ⟨h2, h3⟩ := ba h2
      obtain ⟨h3, h4⟩ := ba h3
      obtain ⟨h4, h5⟩ := ba h4
      obtain ⟨h5, h6⟩ := ba h5
      obtain ⟨h6, h7⟩ := ba h6
      obtain ⟨h7, h8⟩ := ba h7
      cases bd h1
      have eo : (ownP F.N own).map (·.2) = own := by unfold ownP; rw [List.map_map]; exact List.map_id' _
      refine .not ?_ (bn ht)
      have cok : CompOk X G nm W call x y z ifs scope (ownP F.N own) elt tg it conds := by
        refine ⟨hX.calm, hX.nd, chkI_ok it hX h5, ?_, fun j hj => ?_, fun s H C cl fp => tg_ok (blkX hX s H C cl fp) tg y h6, fun s H C cl fp => chkC_ok conds (blkX hX s H C cl fp) h7, fun s H C cl fp => (chk_ok elt (blkX hX s H C cl fp) h8).e rfl, h2⟩
        · rw [hX.N, hX.sc]; exact blk_ok h3
        · rw [eo]; simpa using List.all_eq_true.mp h4 j hj
      have := e_comp (cell := cell) (pos := pos) cok
      rw [eo] at this
      exact this
    · cases h
  | .dct, t, F, X, W, e, hX, h => by
    simp only [chk] at h
    obtain ⟨ht, h⟩ := ba h
    split at h
    · exact .not e_dct (bn ht)
    · cases h
  | .dctT, t, F, X, W, e, hX, h => by
    simp only [chk] at h
    obtain ⟨ht, h⟩ := ba h
    split at h
    · exact .not e_dctT (bn ht)
    · cases h
  | .dctL es, t, F, X, W, e, hX, h => by
    simp only [chk] at h
    obtain ⟨ht, h⟩ := ba h
    split at h
    · rename_i keys values pos
      obtain ⟨h1, h⟩ := ba h
      obtain ⟨h2, h⟩ := ba h
      obtain ⟨h3, h⟩ := ba h
      obtain ⟨h4, h⟩ := ba h
      obtain ⟨h5, h6⟩ := ba h
      exact .not (e_dctL h1 (chkPs_ok es hX h6) h5 (bd h2) (by intro z; rw [z] at h3; simp at h3) (bd h4)) (bn ht)
    · cases h
  | .isi a ty, t, F, X, W, e, hX, h => by
    simp only [chk] at h
    split at h
    · obtain ⟨h1, h2⟩ := ba h
      obtain ⟨h2, h3⟩ := ba h2
      obtain ⟨h3, h4⟩ := ba h3
      obtain ⟨h4, h5⟩ := ba h4
      obtain ⟨h5, h6⟩ := ba h5
      have g := fr_of hX h2
      rw [bd h1] at g ⊢
      exact .val (e_isi hX.k.isi (by simpa using h4) g.1 g.2 h3 rfl (ty_ok hX h5) ((chk_ok a hX h6).e rfl)) rfl fun _ => rfl
    · cases h
theorem chkEs_ok : ∀ (c : CEs) {F : Fx} {X : Cx} {W : WX} {es : List Expr}, XOk X F T G nm Wd W call lv → chkEs T G nm c F es = true → PA X es (TA' X G nm W call c)
  | .nil, F, X, W, es, hX, h => by
    simp only [chkEs] at h
    rw [List.isEmpty_iff.mp h]
    exact a_nil
  | .cons c r, F, X, W, es, hX, h => by
    simp only [chkEs] at h
    split at h
    · obtain ⟨h1, h2⟩ := ba h
      obtain ⟨h2, h3⟩ := ba h2
      exact a_cons ((chk_ok c hX h2).e rfl) (chkEs_ok r hX h3) (star_cons h1)
    · cases h
  | .star c r, F, X, W, es, hX, h => by
    simp only [chkEs] at h
    split at h
    · obtain ⟨h2, h3⟩ := ba h
      exact a_star ((chk_ok c hX h2).e rfl) (chkEs_ok r hX h3) rfl
    · cases h
theorem chkK_ok : ∀ (c : CEs) {F : Fx} {X : Cx} {W : WX} {ks : List Keyword}, XOk X F T G nm Wd W call lv → (ks.map (·.value)).all notStar = true → chkEs T G nm c F (ks.map (·.value)) = true → PK X ks (TA' X G nm W call c)
  | .nil, F, X, W, ks, hX, _, h => by
    simp only [chkEs] at h
    have : ks = [] := by simpa using h
    subst this
    exact k_nil
  | .cons c r, F, X, W, ks, hX, hn, h => by
    simp only [chkEs] at h
    cases ks with
    | nil => simp at h
    | cons k ks =>
      obtain ⟨a, v, kp⟩ := k
      simp only [List.map_cons] at h
      obtain ⟨h1, h2⟩ := ba h
      obtain ⟨h2, h3⟩ := ba h2
      have hn2 : (ks.map (·.value)).all notStar = true := by
        simp only [List.map_cons, List.all_cons, Bool.and_eq_true] at hn
        exact hn.2
      exact k_cons ((chk_ok c hX h2).e rfl) (chkK_ok r hX hn2 h3)
  | .star c r, F, X, W, ks, hX, hn, h => by
    simp only [chkEs] at h
    cases ks with
    | nil => simp at h
    | cons k ks =>
      obtain ⟨a, v, kp⟩ := k
      simp only [List.map_cons, List.all_cons, Bool.and_eq_true] at hn
      simp only [List.map_cons] at h
      split at h
      · rename_i e
        have e1 := (List.cons.inj e).1
        rw [e1] at hn
        exact absurd hn.1 (by simp [notStar])
      · cases h
theorem chkPs_ok : ∀ (c : CEs) {F : Fx} {X : Cx} {W : WX} {pos : Pos} {ks : List (Option Expr)} {vs : List Expr}, XOk X F T G nm Wd W call lv → chkPs T G nm c F ks vs = true → PPs X pos ks vs (trsOf X G nm W call c)
  | .nil, F, X, W, pos, ks, vs, hX, h => by
    simp only [chkPs] at h
    obtain ⟨h1, h2⟩ := ba h
    rw [List.isEmpty_iff.mp h1, List.isEmpty_iff.mp h2]
    exact pps_nil
  | .cons k (.cons v r), F, X, W, pos, ks, vs, hX, h => by
    simp only [chkPs] at h
    split at h
    · obtain ⟨h1, h2⟩ := ba h
      obtain ⟨h2, h3⟩ := ba h2
      exact pps_cons ((chk_ok k hX h1).e rfl) ((chk_ok v hX h2).e rfl) (chkPs_ok r hX h3)
    · cases h
  | .cons _ .nil, F, X, W, pos, ks, vs, hX, h => by simp [chkPs] at h
  | .cons _ (.star _ _), F, X, W, pos, ks, vs, hX, h => by simp [chkPs] at h
  | .star _ _, F, X, W, pos, ks, vs, hX, h => by simp [chkPs] at h
theorem chkO_ok : ∀ (c : CO) {F : Fx} {X : Cx} {W : WX} {e : Option Expr}, XOk X F T G nm Wd W call lv → chkO T G nm c F e = true → PO X e (TO' X G nm W call c)
  | .no, F, X, W, e, hX, h => by
    simp only [chkO] at h
    rw [Option.isNone_iff_eq_none.mp h]
    exact o_no
  | .yes c, F, X, W, e, hX, h => by
    simp only [chkO] at h
    split at h
    · exact o_yes ((chk_ok c hX h).e rfl)
    · cases h
theorem chkI_ok : ∀ (c : CI) {F : Fx} {X : Cx} {W : WX} {tg e : Expr}, XOk X F T G nm Wd W call lv → chkI T G nm c F tg e = true → PI X tg e (TI' X G nm W call c)
  | .seq c, F, X, W, tg, e, hX, h => by
    simp only [chkI] at h
    exact i_seq ((chk_ok c hX h).e rfl)
  | .rng1 a, F, X, W, tg, e, hX, h => by
    simp only [chkI] at h
    split at h
    · obtain ⟨h1, h2⟩ := ba h
      obtain ⟨h2, h3⟩ := ba h2
      obtain ⟨h3, h4⟩ := ba h3
      have g := fr_of hX h2
      rw [bd h1] at g ⊢
      exact i_rng1 g.1 g.2 h3 ((chk_ok a hX h4).e rfl)
    · cases h
  | .rng2 a b, F, X, W, tg, e, hX, h => by
    simp only [chkI] at h
    split at h
    · obtain ⟨h1, h2⟩ := ba h
      obtain ⟨h2, h3⟩ := ba h2
      obtain ⟨h3, h4⟩ := ba h3
      obtain ⟨h4, h5⟩ := ba h4
      obtain ⟨h5, h6⟩ := ba h5
      have g := fr_of hX h2
      rw [bd h1] at g ⊢
      exact i_rng2 g.1 g.2 h3 h4 ((chk_ok a hX h5).e rfl) ((chk_ok b hX h6).e rfl)
    · cases h
  | .enum a, F, X, W, tg, e, hX, h => by
    simp only [chkI] at h
    obtain ⟨ht, h⟩ := ba h
    split at h
    · obtain ⟨h1, h2⟩ := ba h
      obtain ⟨h2, h3⟩ := ba h2
      obtain ⟨h3, h4⟩ := ba h3
      have g := fr_of hX h2
      rw [bd h1] at g ⊢
      cases tg <;> simp [notTup] at ht
      exact i_enum g.1 g.2 h3 ((chk_ok a hX h4).e rfl)
    · cases h
  | .zip a b, F, X, W, tg, e, hX, h => by
    simp only [chkI] at h
    obtain ⟨ht, h⟩ := ba h
    split at h
    · obtain ⟨h1, h2⟩ := ba h
      obtain ⟨h2, h3⟩ := ba h2
      obtain ⟨h3, h4⟩ := ba h3
      obtain ⟨h4, h5⟩ := ba h4
      obtain ⟨h5, h6⟩ := ba h5
      have g := fr_of hX h2
      rw [bd h1] at g ⊢
      cases tg <;> simp [notTup] at ht
      exact i_zip g.1 g.2 h3 h4 ((chk_ok a hX h5).e rfl) ((chk_ok b hX h6).e rfl)
    · cases h
theorem chkC_ok : ∀ (c : CEs) {F : Fx} {X : Cx} {W : WX} {es : List Expr}, XOk X F T G nm Wd W call lv → chkC T G nm c F es = true → PTs X es (TC' X G nm W call c)
  | .nil, F, X, W, es, hX, h => by
    simp only [chkC] at h
    rw [List.isEmpty_iff.mp h]
    exact c_nil
  | .cons c r, F, X, W, es, hX, h => by
    simp only [chkC] at h
    split at h
    · obtain ⟨h1, h2⟩ := ba h
      cases r <;> simp [nilEs] at h1
      exact c_one ((chk_ok c hX h2).t rfl)
    · cases h
  | .star _ _, F, X, W, es, hX, h => by simp [chkC] at h
end
end
end Cr


/-! Cr27: the checker: statements. -/
namespace Cr
open PySem PySem.Spec PyProof.Rows L2

def isStarE : Expr → Bool
  | .Starred _ _ => true
  | _ => false
def nmAt (sc : Scope) (line : Nat) : Expr → Option Str
  | .Name id pos => if sc.names.lookup id == some .local && pos.line == line then some id else none
  | _ => none
/-- what swappedStores says of two tuples; none: not served -/
def swS (sc : Scope) (ts vs : List Expr) : Option (Option (List Str)) :=
  if !(ts.length == 2 || ts.length == 3) || vs.length != ts.length then some none
  else if vs.any isStarE then some none
  else if (ts.filterMap (nmAt sc ((ts.head?.map (·.pos.line)).getD 0))).length != ts.length || (ts.filterMap (nmAt sc ((ts.head?.map (·.pos.line)).getD 0))).eraseDups.length != (ts.filterMap (nmAt sc ((ts.head?.map (·.pos.line)).getD 0))).length then some none
  else if vs.all (foldedForSure 8) then some none
  else if vs.all (constantsAlone 8) then none
  else some (some (ts.filterMap (nmAt sc ((ts.head?.map (·.pos.line)).getD 0))))
theorem blockK {env : PySem.Env} (hk : env.scope.kind = .function) : env.blockKind = .function := by unfold Env.blockKind; rw [hk]; rfl
theorem swS_eq {env : PySem.Env} {ts vs : List Expr} {k1 k2 : Nat} {p1 p2 : Pos} : swappedStores [.Tuple ts k1 p1] (.Tuple vs k2 p2) env =
    (if (!(ts.length == 2 || ts.length == 3) || vs.length != ts.length || env.blockKind != .function) = true then (pure none : Sem (Option (List Str)))
    else if vs.any isStarE = true then pure none
    else if ((ts.filterMap (nmAt env.scope ((ts.head?.map (·.pos.line)).getD 0))).length != ts.length || (ts.filterMap (nmAt env.scope ((ts.head?.map (·.pos.line)).getD 0))).eraseDups.length != (ts.filterMap (nmAt env.scope ((ts.head?.map (·.pos.line)).getD 0))).length) = true then pure none
    else if vs.all (foldedForSure 8) = true then pure none
    else if vs.all (constantsAlone 8) = true then (do unsupported "assign.tuple-of-constant-expressions:order-of-the-stores"; pure (some (ts.filterMap (nmAt env.scope ((ts.head?.map (·.pos.line)).getD 0)))))
    else pure (some (ts.filterMap (nmAt env.scope ((ts.head?.map (·.pos.line)).getD 0))))) := rfl
theorem swS_ok {env : PySem.Env} (hk : env.scope.kind = .function) {ts vs : List Expr} {k1 k2 : Nat} {p1 p2 : Pos} {r : Option (List Str)} (h : swS env.scope ts vs = some r) : swappedStores [.Tuple ts k1 p1] (.Tuple vs k2 p2) env = pure r := by
  have hb := blockK hk
  unfold swS at h
  rw [swS_eq, hb]
  split at h
  · rename_i c
    cases h
    rw [if_pos (by simp only [c, Bool.true_or])]
  · rename_i c
    rw [if_neg (by intro z; apply c; simpa using z)]
    split at h
    · rename_i c2; cases h; rw [if_pos c2]
    · rename_i c2
      rw [if_neg c2]
      split at h
      · rename_i c3; cases h; rw [if_pos c3]
      · rename_i c3
        rw [if_neg c3]
        split at h
        · rename_i c4; cases h; rw [if_pos c4]
        · rename_i c4
          rw [if_neg c4]
          split at h
          · cases h
          · rename_i c5
            cases h
            rw [if_neg c5]
/-- whether the store comes before the block is gone -/
def swB (sc : Scope) (tg e : Expr) : Bool := match e with
  | .ListComp _ _ s p => (match tg with
    | .Name y py => (decide (sc.names.lookup y = some .local) && (py.line == p.line)) && !(s.names.any fun (n, k) => n == y && (k == .local || k == .cell))
    | _ => false)
  | _ => false
def noSD : Expr → Bool
  | .SetComp _ _ _ _ => false
  | .DictComp _ _ _ _ _ => false
  | _ => true
theorem swB_ok {env : PySem.Env} (hk : env.scope.kind = .function) {tg e : Expr} (l : Nat) (h : noSD e = true) : swapsWith e (some tg) l env = pure (swB env.scope tg e) := by
  have hb := blockK hk
  cases e <;> first | rfl | (exfalso; exact Bool.false_ne_true h) | skip
  rename_i elt gs scope pos
  cases tg <;> first | rfl | skip
  rename_i y py
  unfold swapsWith swB
  simp only [hb, Expr.pos]
  congr 1
  have : (env.kindOf y == some NameKind.local) = decide (env.scope.names.lookup y = some .local) := by
    rw [Bool.eq_iff_iff]; simp [Env.kindOf]
  rw [this]
  rfl
mutual
def chkTA (T : Tb) (G : Prog) (nm : Nm) (F : Fx) : Cr.TA → Expr → Bool
  | .slot i, e => match e with
    | .Name x _ => decide (F.N[i]? = some x) && storB F x
    | _ => false
  | .tup ts, e => match e with
    | .Tuple es _ _ => es.all notStar && (decide (es.length = ts.length) && chkTAs T G nm F ts es)
    | _ => false
  | .fld o f, e => match e with
    | .Attribute x y _ => decide (nm.attr[f]? = some y) && chk T G nm o false F x
    | _ => false
  | .sub o i, e => match e with
    | .Subscript x y _ => notSlice y && (chk T G nm o false F x && chk T G nm i false F y)
    | _ => false
  | .subT o es, e => match e with
    | .Subscript x (.Tuple ys _ _) _ => chk T G nm o false F x && chkEs T G nm es F ys
    | _ => false
def chkTAs (T : Tb) (G : Prog) (nm : Nm) (F : Fx) : List Cr.TA → List Expr → Bool
  | [], es => es.isEmpty
  | t :: ts, es => match es with
    | e :: es => notStar e && (chkTA T G nm F t e && chkTAs T G nm F ts es)
    | [] => false
end
def isSlot : Cr.TA → Option Nat
  | .slot i => some i
  | _ => none
def isCE : CE → Bool
  | .comp _ _ _ _ _ _ => true
  | _ => false
def isNonL : CE → Bool
  | .lit .non => true
  | _ => false
/-- names of slots, in a row -/
def namesAt (F : Fx) : List Cr.TA → List Expr → List Str → Bool
  | [], [], [] => true
  | .slot i :: ts, .Name x _ :: es, y :: ys => decide (F.N[i]? = some x) && (decide (x = y) && (decide (F.sc.names.lookup x = some .local) && namesAt F ts es ys))
  | _, _, _ => false
mutual
def chkS (T : Tb) (G : Prog) (nm : Nm) (F : Fx) : CS → Stmt → Bool
  | .pass, s => match s with
    | .Pass _ => true
    | _ => false
  | .expr e, s => match s with
    | .Expr x _ => notComp x && chk T G nm e false F x
    | _ => false
  | .ret e, s => match s with
    | .Return (some x) _ => chk T G nm e false F x
    | .Return none _ => isNonL e
    | _ => false
  | .asg t e, s => match s with
    | .Assign [tg] x _ => noSD x && ((notTup x || (notTup tg && notLst tg)) && (notStar tg && (chkTA T G nm F t tg && (chk T G nm e false F x && (!(swB F.sc tg x) || (isCE e && (isSlot t).isSome))))))
    | _ => false
  | .par ts es, s => match s with
    | .Assign [.Tuple xs _ _] (.Tuple ys _ _) _ => chkEs T G nm es F ys && (match swS F.sc xs ys with
      | some none => xs.all notStar && (decide (xs.length = ts.length) && (decide (ts.length ≤ 1000) && chkTAs T G nm F ts xs))
      | some (some ns) => namesAt F ts xs ns && (decide ns.Nodup && (decide (ns.length = 2) || decide (ns.length = 3)) && decide (ys.length = ns.length))
      | none => false)
    | _ => false
  | .ife c a b, s => match s with
    | .If x p q _ => chk T G nm c true F x && (chkSs T G nm F a p && chkSs T G nm F b q)
    | _ => false
  | .for_ t it body, s => match s with
    | .For tg iter p [] _ => notSetE iter && (chkI T G nm it F tg iter && (chkTg F t tg && chkSs T G nm F body p))
    | _ => false
  | .forD t i body, s => match s with
    | .For (.Tuple es k p1) (.Call (.Attribute (.Name x _) y apos) [] [] cpos) p [] _ => decide (y = ("items" : Str)) && (decide (F.N[i]? = some x) && ((visB F.sc x && plainN x) && ((apos.endLine == cpos.line) && (chkTg F t (.Tuple es k p1) && chkSs T G nm F body p))))
    | _ => false
  | .while_ c body, s => match s with
    | .While x p [] _ => chk T G nm c true F x && chkSs T G nm F body p
    | _ => false
  | .raise _ _, s => true
  | .brk, s => match s with
    | .Break _ => true
    | _ => false
  | .cont, s => match s with
    | .Continue _ => true
    | _ => false
def chkSs (T : Tb) (G : Prog) (nm : Nm) (F : Fx) : List CS → List Stmt → Bool
  | [], ss => ss.isEmpty
  | c :: cs, ss => match ss with
    | s :: ss => chkS T G nm F c s && chkSs T G nm F cs ss
    | [] => false
end
end Cr


/-! Cr28: what the checker lets through is sound: statements. -/
namespace Cr
open PySem PySem.Spec PyProof.Rows L2

section
variable {T : Tb} {G : Prog} {nm : Nm} {Wd : Wo} {lv : Nat} {call : Nat → List A → Store → KA → KX → Prop} {F : Fx} {X : Cx} {W : WX}
mutual
theorem ta_ok (hX : XOk X F T G nm Wd W call lv) : ∀ (t : Cr.TA) (e : Expr), chkTA T G nm F t e = true → PG X e (TA2 X G nm W call t)
  | .slot i, e, h => by
    simp only [chkTA] at h
    split at h
    · obtain ⟨h1, h2⟩ := ba h
      obtain ⟨l1, l2⟩ := loc_of hX h2
      exact ta_slot hX.nd (by rw [hX.N]; exact bd h1) l1 l2
    · cases h
  | .tup ts, e, h => by
    simp only [chkTA] at h
    split at h
    · obtain ⟨h1, h2⟩ := ba h
      obtain ⟨h2, h3⟩ := ba h2
      exact ta_tup hX.calm (tas_ok hX ts _ h3) h1 (bd h2)
    · cases h
  | .fld o f, e, h => by
    simp only [chkTA] at h
    split at h
    · obtain ⟨h1, h2⟩ := ba h
      exact ta_fld hX.sig.c (bd h1) ((chk_ok o hX h2).e rfl)
    · cases h
  | .sub o i, e, h => by
    simp only [chkTA] at h
    split at h
    · obtain ⟨h1, h2⟩ := ba h
      obtain ⟨h2, h3⟩ := ba h2
      exact ta_sub (rooms hX.sig) h1 ((chk_ok o hX h2).e rfl) ((chk_ok i hX h3).e rfl)
    · cases h
  | .subT o es, e, h => by
    simp only [chkTA] at h
    split at h
    · obtain ⟨h1, h2⟩ := ba h
      exact ta_subT (rooms hX.sig) ((chk_ok o hX h1).e rfl) (chkEs_ok es hX h2)
    · cases h
theorem tas_ok (hX : XOk X F T G nm Wd W call lv) : ∀ (ts : List Cr.TA) (es : List Expr), chkTAs T G nm F ts es = true → PGs X es (TAs2 X G nm W call ts)
  | [], es, h => by
    simp only [chkTAs] at h
    rw [List.isEmpty_iff.mp h]
    exact tas_nil
  | t :: ts, es, h => by
    simp only [chkTAs] at h
    split at h
    · obtain ⟨h1, h2⟩ := ba h
      obtain ⟨h2, h3⟩ := ba h2
      exact tas_cons (ta_ok hX t _ h2) (tas_ok hX ts _ h3) h1
    · cases h
end
theorem comp_okk (hX : XOk X F T G nm Wd W call lv) {cell : Bool} {elt : CE} {tg : Tg} {it : CI} {conds : CEs} {own : List Nat} {x y z : Expr} {ifs : List Expr} {k : Int} {scope : Scope} {pos : Pos} (h : chk T G nm (.comp cell elt tg it conds own) false F (.ListComp x [⟨y, z, ifs, k⟩] scope pos) = true) :
    k = 0 ∧ (ownP F.N own).map (·.2) = own ∧ CompOk X G nm W call x y z ifs scope (ownP F.N own) elt tg it conds := by
  simp only [chk, Bool.not_false, Bool.true_and] at h
  obtain ⟨h1, h2⟩ := ba h
  obtain ⟨h2, h3⟩ := ba h2
  obtain ⟨h3, h4⟩ := ba h3
  obtain ⟨h4, h5⟩ := ba h4
  obtain ⟨h5, h6⟩ := ba h5
  obtain ⟨h6, h7⟩ := ba h6
  obtain ⟨h7, h8⟩ := ba h7
  have eo : (ownP F.N own).map (·.2) = own := by unfold ownP; rw [List.map_map]; exact List.map_id' _
  refine ⟨bd h1, eo, hX.calm, hX.nd, chkI_ok it hX h5, ?_, fun j hj => ?_, fun s H C cl fp => tg_ok (blkX hX s H C cl fp) tg y h6, fun s H C cl fp => chkC_ok conds (blkX hX s H C cl fp) h7, fun s H C cl fp => (chk_ok elt (blkX hX s H C cl fp) h8).e rfl, h2⟩
  · rw [hX.N, hX.sc]; exact blk_ok h3
  · rw [eo]; simpa using List.all_eq_true.mp h4 j hj
theorem names2 {i j : Nat} {a b : Str} (h : a ≠ b) (e1 : F.N[i]? = some a) (e2 : F.N[j]? = some b) : i ≠ j := fun z => h (by rw [z, e2] at e1; exact (Option.some.inj e1).symm)
theorem namesAt_nil {ts : List Cr.TA} {xs : List Expr} (h : namesAt F ts xs [] = true) : ts = [] ∧ xs = [] := by
  unfold namesAt at h
  split at h
  · exact ⟨rfl, rfl⟩
  · rename_i e; cases e
  · cases h
theorem namesAt_cons {ts : List Cr.TA} {xs : List Expr} {y : Str} {ys : List Str} (h : namesAt F ts xs (y :: ys) = true) : ∃ i ts' px xs', ts = .slot i :: ts' ∧ xs = .Name y px :: xs' ∧ F.N[i]? = some y ∧ F.sc.names.lookup y = some .local ∧ namesAt F ts' xs' ys = true := by
  unfold namesAt at h
  split at h
  · rename_i e; cases e
  · rename_i e
    cases e
    obtain ⟨a1, q1⟩ := ba h
    obtain ⟨a2, q2⟩ := ba q1
    obtain ⟨a3, q3⟩ := ba q2
    have := bd a2
    subst this
    exact ⟨_, _, _, _, rfl, rfl, bd a1, bd a3, q3⟩
  · cases h
theorem par_ok (hX : XOk X F T G nm Wd W call lv) {ts : List Cr.TA} {es : CEs} {xs ys : List Expr} {ns : List Str} {k1 k2 : Nat} {p1 p2 pos : Pos} (hw : swappedStores [.Tuple xs k1 p1] (.Tuple ys k2 p2) X.env = pure (some ns)) (hn : namesAt F ts xs ns = true) (nd : ns.Nodup)
    (h23 : ns.length = 2 ∨ ns.length = 3) (hy : ys.length = ns.length) (ha : PA X ys (TA' X G nm W call es)) : PS X (.Assign [.Tuple xs k1 p1] (.Tuple ys k2 p2) pos) (TS' X G nm W call (.par ts es)) := by
  have lc : ∀ {x : Str}, F.sc.names.lookup x = some .local → X.env.scope.names.lookup x = some .local := fun e => by rw [hX.sc]; exact e
  have ix : ∀ {i : Nat} {x : Str}, F.N[i]? = some x → X.N[i]? = some x := fun e => by rw [hX.N]; exact e
  rcases h23 with h23 | h23
  · match ns, h23, nd, hn, hw, hy with
    | [a, b], _, nd, hn, hw, hy =>
      match ys, hy, hw, ha with
      | [u, v], _, hw, ha =>
        obtain ⟨i, ts, px, xs, rfl, rfl, a1, a3, hn⟩ := namesAt_cons hn
        obtain ⟨j, ts, py, xs, rfl, rfl, b1, b3, hn⟩ := namesAt_cons hn
        obtain ⟨rfl, rfl⟩ := namesAt_nil hn
        simp at nd
        exact s_par2 hX.calm hX.nd (ix a1) (ix b1) (names2 nd a1 b1) (lc a3) (lc b3) hw ha
  · match ns, h23, nd, hn, hw, hy with
    | [a, b, c], _, nd, hn, hw, hy =>
      match ys, hy, hw, ha with
      | [u, v, w], _, hw, ha =>
        obtain ⟨i, ts, px, xs, rfl, rfl, a1, a3, hn⟩ := namesAt_cons hn
        obtain ⟨j, ts, py, xs, rfl, rfl, b1, b3, hn⟩ := namesAt_cons hn
        obtain ⟨l, ts, pz, xs, rfl, rfl, c1, c3, hn⟩ := namesAt_cons hn
        obtain ⟨rfl, rfl⟩ := namesAt_nil hn
        simp at nd
        exact s_par3 hX.calm hX.nd (ix a1) (ix b1) (ix c1) (names2 nd.1.1 a1 b1) (names2 nd.1.2 a1 c1) (names2 nd.2 b1 c1) (lc a3) (lc b3) (lc c3) hw ha
mutual
theorem s_ok (hX : XOk X F T G nm Wd W call lv) (hk : X.env.scope.kind = .function) (hp : PassesOwn (model X.prog X.w) X.A X.env X.xe) : ∀ (c : CS) (s : Stmt), chkS T G nm F c s = true → PS X s (TS' X G nm W call c)
  | .pass, s, h => by
    simp only [chkS] at h
    split at h
    · exact s_pass
    · cases h
  | .expr e, s, h => by
    simp only [chkS] at h
    split at h
    · obtain ⟨h1, h2⟩ := ba h
      exact s_expr h1 ((chk_ok e hX h2).e rfl)
    · cases h
  | .ret e, s, h => by
    simp only [chkS] at h
    split at h
    · exact s_ret ((chk_ok e hX h).e rfl)
    · unfold isNonL at h
      split at h
      · exact s_retN
      · cases h
    · cases h
  | .asg t e, s, h => by
    simp only [chkS] at h
    split at h
    · rename_i tg x pos
      obtain ⟨h1, h2⟩ := ba h
      obtain ⟨h2, h3⟩ := ba h2
      obtain ⟨h3, q4⟩ := ba h3
      obtain ⟨hta, q5⟩ := ba q4
      obtain ⟨hce, h6⟩ := ba q5
      have sw := fun l => swB_ok hk (tg := tg) (e := x) l h1
      rw [hX.sc] at sw
      cases eb : swB F.sc tg x with
      | false =>
        rw [eb] at sw
        refine s_asg (sw _) ?_ h3 ((chk_ok e hX hce).e rfl) (ta_ok hX t tg hta)
        rcases Bool.or_eq_true_iff.mp h2 with q | q
        · exact .inl q
        · exact .inr (ba q)
      | true =>
        rw [eb] at sw h6
        simp only [Bool.not_true, Bool.false_or] at h6
        obtain ⟨c1, c2⟩ := ba h6
        obtain ⟨cell, elt, t2, it, conds, own, rfl⟩ : ∃ a b c d f g, e = .comp a b c d f g := by cases e <;> first | exact ⟨_, _, _, _, _, _, rfl⟩ | (simp [isCE] at c1)
        obtain ⟨elt0, gs, sc, pos0, rfl⟩ : ∃ a b c d, x = .ListComp a b c d := by cases x <;> first | exact ⟨_, _, _, _, rfl⟩ | (simp [swB] at eb)
        obtain ⟨y, py, rfl⟩ : ∃ y py, tg = .Name y py := by cases tg <;> first | exact ⟨_, _, rfl⟩ | (simp [swB] at eb)
        unfold swB at eb
        obtain ⟨d1, _⟩ := ba eb
        obtain ⟨d1, _⟩ := ba d1
        obtain ⟨i, rfl⟩ : ∃ i, t = .slot i := by cases t <;> first | exact ⟨_, rfl⟩ | (simp [isSlot] at c2)
        simp only [chkTA] at hta
        have i1 := (ba hta).1
        match gs, hce, sw with
        | [⟨a, b, c, k⟩], hce, sw =>
          obtain ⟨k0, eo, cok⟩ := comp_okk hX hce
          subst k0
          have := s_comp (cell := cell) (py := py) (pos := pos0) (spos := pos) (by rw [hX.N]; exact bd i1) (by rw [hX.sc]; exact bd d1) (sw _) cok
          rw [eo] at this
          exact this
        | [], hce, sw => simp [chk] at hce
        | _ :: _ :: _, hce, sw => simp [chk] at hce
    · cases h
  | .par ts es, s, h => by
    simp only [chkS] at h
    split at h
    · rename_i xs k1 p1 ys k2 p2 pos
      obtain ⟨h1, h2⟩ := ba h
      split at h2
      · rename_i e
        obtain ⟨h2, h3⟩ := ba h2
        obtain ⟨h3, h4⟩ := ba h3
        obtain ⟨h4, h5⟩ := ba h4
        exact s_parT hX.calm (swS_ok hk (by rw [hX.sc]; exact e)) h2 (bd h3) (bd h4) (chkEs_ok es hX h1) (tas_ok hX ts xs h5)
      · rename_i ns e
        obtain ⟨h2, h3⟩ := ba h2
        obtain ⟨h3, h5⟩ := ba h3
        obtain ⟨h3, h4⟩ := ba h3
        refine par_ok hX (swS_ok hk (by rw [hX.sc]; exact e)) h2 (bd h3) ?_ (bd h5) (chkEs_ok es hX h1)
        rcases Bool.or_eq_true_iff.mp h4 with q | q
        · exact .inl (bd q)
        · exact .inr (bd q)
      · cases h2
    · cases h
  | .ife c a b, s, h => by
    simp only [chkS] at h
    split at h
    · obtain ⟨h1, h2⟩ := ba h
      obtain ⟨h2, h3⟩ := ba h2
      exact s_ife ((chk_ok c hX h1).t rfl) (ss_ok hX hk hp a _ h2) (ss_ok hX hk hp b _ h3)
    · cases h
  | .for_ t it body, s, h => by
    simp only [chkS] at h
    split at h
    · obtain ⟨h1, h2⟩ := ba h
      obtain ⟨h2, h3⟩ := ba h2
      obtain ⟨h3, h4⟩ := ba h3
      exact s_for hp hX.calm (chkI_ok it hX h2) (tg_ok hX t _ h3) (ss_ok hX hk hp body _ h4) h1
    · cases h
  | .forD t i body, s, h => by
    simp only [chkS] at h
    split at h
    · obtain ⟨h1, h⟩ := ba h
      obtain ⟨h2, h⟩ := ba h
      obtain ⟨h3, h⟩ := ba h
      obtain ⟨h4, h⟩ := ba h
      obtain ⟨h5, h6⟩ := ba h
      obtain ⟨v1, v2⟩ := ba h3
      rw [bd h1]
      exact s_forD hp hX.calm (by rw [hX.N]; exact bd h2) (vis_of hX v1) (pln v2).1 (pln v2).2.1 h4 (tg_ok hX t _ h5) (ss_ok hX hk hp body _ h6)
    · cases h
  | .while_ c body, s, h => by
    simp only [chkS] at h
    split at h
    · obtain ⟨h1, h2⟩ := ba h
      exact s_while hp ((chk_ok c hX h1).t rfl) (ss_ok hX hk hp body _ h2)
    · cases h
  | .raise _ _, s, h => s_raise
  | .brk, s, h => by
    simp only [chkS] at h
    split at h
    · exact s_brk
    · cases h
  | .cont, s, h => by
    simp only [chkS] at h
    split at h
    · exact s_cont
    · cases h
theorem ss_ok (hX : XOk X F T G nm Wd W call lv) (hk : X.env.scope.kind = .function) (hp : PassesOwn (model X.prog X.w) X.A X.env X.xe) : ∀ (c : List CS) (s : List Stmt), chkSs T G nm F c s = true → PSs X s (TSs' X G nm W call c)
  | [], ss, h => by
    simp only [chkSs] at h
    rw [List.isEmpty_iff.mp h]
    exact ss_nil
  | c :: cs, ss, h => by
    simp only [chkSs] at h
    split at h
    · obtain ⟨h1, h2⟩ := ba h
      exact ss_cons (s_ok hX hk hp c _ h1) (ss_ok hX hk hp cs _ h2)
    · cases h
end
end
end Cr


/-! Cr29: defs, by the depth of calls. -/
namespace Cr
open PySem PySem.Spec PyProof.Rows L2

/-! ### how a def of plain parameters binds -/
theorem fm_congr {α β : Type} {f g : α → Option β} : ∀ {l : List α}, (∀ x ∈ l, f x = g x) → l.filterMap f = l.filterMap g
  | [], _ => rfl
  | a :: l, h => by rw [List.filterMap_cons, List.filterMap_cons, h a (by simp), fm_congr fun x hx => h x (by simp [hx])]
theorem lookup_zip : ∀ {ps : List Str} {us : List Value}, ps.Nodup → us.length = ps.length → (ps.filterMap fun n => ((ps.zip us).lookup n).map (n, ·)) = ps.zip us ∧ ∀ n ∈ ps, ((ps.zip us).lookup n).isNone = false
  | [], [], _, _ => ⟨rfl, fun _ h => by cases h⟩
  | p :: ps, u :: us, nd, hl => by
    have h2 := List.nodup_cons.mp nd
    obtain ⟨i1, i2⟩ := lookup_zip (ps := ps) (us := us) h2.2 (by simpa using hl)
    have ne : ∀ n ∈ ps, ((p :: ps).zip (u :: us)).lookup n = (ps.zip us).lookup n := fun n hn => by
      have : (n == p) = false := beq_false_of_ne fun e => h2.1 (e ▸ hn)
      simp [List.lookup_cons, this]
    refine ⟨?_, fun n hn => ?_⟩
    · rw [List.filterMap_cons]
      have e0 : ((p :: ps).zip (u :: us)).lookup p = some u := by simp
      rw [e0]
      simp only [Option.map_some, List.zip_cons_cons]
      congr 1
      refine (fm_congr fun n hn => ?_).trans i1
      rw [show (p, u) :: ps.zip us = (p :: ps).zip (u :: us) from rfl, ne n hn]
    · rcases List.mem_cons.mp hn with e | hn
      · subst e; simp
      · rw [ne n hn]; exact i2 n hn
structure ArgsOk (ps : List Str) (p : Arguments) : Prop where
  po : p.posonlyargs = []
  ar : p.args.map (·.arg) = ps
  va : p.vararg = none
  ko : p.kwonlyargs = []
  kw : p.kwarg = none
  nd : ps.Nodup
theorem bind_all {x qual : Str} {p : Arguments} {body : List Stmt} {scope : Scope} {kV doc pm : Value} {an : Option Addr} {cdv ct : Value} {ps : List Str} {us : List Value} (h : ArgsOk ps p) (hl : us.length = ps.length) :
    bindArgs (PySem.W.fnOf x qual p body scope .none kV doc pm an cdv ct) ⟨us, []⟩ = pure (ps.zip us) := by
  obtain ⟨po, ar, va, ko, kw, nd⟩ := h
  obtain ⟨p1, p2, p3, p4, p5, p6, p7⟩ := p
  simp only at po ar va ko kw
  subst po va ko kw
  obtain ⟨z1, z2⟩ := lookup_zip nd hl
  have e1 : (PySem.W.fnOf x qual (⟨[], p2, none, [], p5, none, p7⟩ : Arguments) body scope .none kV doc pm an cdv ct).params = ⟨[], p2, none, [], p5, none, p7⟩ := rfl
  unfold bindArgs
  simp only [e1, List.map_nil, List.nil_append, ar, List.append_nil]
  have e2 : (seqItems? (PySem.W.fnOf x qual (⟨[], p2, none, [], p5, none, p7⟩ : Arguments) body scope .none kV doc pm an cdv ct).defaults : Sem (Option (Array Value))) = pure none := rfl
  rw [e2]
  have e3 : (ps.filter fun n => (List.lookup n (ps.zip us)).isNone) = [] := List.filter_eq_nil_iff.mpr fun n hn => by rw [z2 n hn]; exact Bool.false_ne_true
  simp only [List.forIn_nil, pure_bind, Option.getD_none, List.drop_nil, List.length_nil, Nat.zero_sub, Nat.sub_zero, hl, Nat.lt_irrefl, gt_iff_lt, decide_false, Bool.false_and, Bool.false_eq_true, if_false, List.take_length, e3, List.isEmpty_nil, Bool.not_true, List.drop_length, List.zip_nil_left, List.filter_nil]
  rw [z1]

/-- .. with keywords in the parameters' order -/
theorem kw_loop {ps : List Str} {f : Str × Value → List (Str × Value) × List (Str × Value) → Sem (ForInStep (List (Str × Value) × List (Str × Value)))} (hf : ∀ k v sl ex, k ∈ ps → sl.lookup k = none → f (k, v) (sl, ex) = pure (.yield (sl ++ [(k, v)], ex))) :
    ∀ (l sl ex : List (Str × Value)), (∀ q ∈ l, q.1 ∈ ps) → (sl.map (·.1) ++ l.map (·.1)).Nodup → forIn l (sl, ex) f = pure (sl ++ l, ex)
  | [], sl, ex, _, _ => by simp
  | (k, v) :: l, sl, ex, hm, nd => by
    have hk : sl.lookup k = none := by
      have : k ∉ sl.map (·.1) := fun z => by
        have := (List.nodup_append.mp nd).2.2 k z k (by simp)
        exact this rfl
      cases e : sl.lookup k with
      | none => rfl
      | some u =>
        exfalso
        apply this
        have m : (k, u) ∈ sl := by
          clear nd hm this
          induction sl with
          | nil => cases e
          | cons q r ih =>
            rw [List.lookup_cons] at e
            cases e2 : (k == q.1) with
            | true => rw [e2] at e; cases e; rw [beq_iff_eq.mp e2]; simp
            | false => rw [e2] at e; exact List.mem_cons_of_mem _ (ih e)
        exact List.mem_map.mpr ⟨_, m, rfl⟩
    rw [List.forIn_cons, hf k v sl ex (hm (k, v) (by simp)) hk]
    simp only [pure_bind]
    rw [kw_loop hf l (sl ++ [(k, v)]) ex (fun q hq => hm q (by simp [hq])) (by simpa using nd)]
    simp
theorem zip_split : ∀ {ps : List Str} {us ws : List Value}, (us ++ ws).length = ps.length → ps.zip us ++ (ps.drop us.length).zip ws = ps.zip (us ++ ws)
  | _, [], _, _ => by simp
  | [], _ :: _, _, h => by simp at h
  | p :: ps, u :: us, ws, h => by
    have := zip_split (ps := ps) (us := us) (ws := ws) (by simpa using h)
    simp [this]
theorem bind_kw {x qual : Str} {p : Arguments} {body : List Stmt} {scope : Scope} {kV doc pm : Value} {an : Option Addr} {cdv ct : Value} {ps : List Str} {us ws : List Value} (h : ArgsOk ps p) (hl : (us ++ ws).length = ps.length) :
    bindArgs (PySem.W.fnOf x qual p body scope .none kV doc pm an cdv ct) ⟨us, (ps.drop us.length).zip ws⟩ = pure (ps.zip (us ++ ws)) := by
  obtain ⟨po, ar, va, ko, kw, nd⟩ := h
  obtain ⟨p1, p2, p3, p4, p5, p6, p7⟩ := p
  simp only at po ar va ko kw
  subst po va ko kw
  obtain ⟨z1, z2⟩ := lookup_zip nd hl
  have e1 : (PySem.W.fnOf x qual (⟨[], p2, none, [], p5, none, p7⟩ : Arguments) body scope .none kV doc pm an cdv ct).params = ⟨[], p2, none, [], p5, none, p7⟩ := rfl
  have hle : ¬ ps.length < us.length := by rw [List.length_append] at hl; omega
  unfold bindArgs
  simp only [e1, List.map_nil, List.nil_append, ar, List.append_nil]
  rw [kw_loop (ps := ps) (fun k v sl ex hk hn => ?_)]
  · have e2 : (seqItems? (PySem.W.fnOf x qual (⟨[], p2, none, [], p5, none, p7⟩ : Arguments) body scope .none kV doc pm an cdv ct).defaults : Sem (Option (Array Value))) = pure none := rfl
    rw [zip_split hl]
    simp only [pure_bind]
    rw [e2]
    have e3 : (ps.filter fun n => (List.lookup n (ps.zip (us ++ ws))).isNone) = [] := List.filter_eq_nil_iff.mpr fun n hn => by rw [z2 n hn]; exact Bool.false_ne_true
    simp only [List.forIn_nil, pure_bind, Option.getD_none, List.drop_nil, List.length_nil, Nat.zero_sub, Nat.sub_zero, hle, gt_iff_lt, decide_false, Bool.false_and, Bool.false_eq_true, if_false, List.take_length, e3, List.isEmpty_nil, Bool.not_true, List.drop_length, List.zip_nil_left, List.filter_nil]
    rw [z1]
  · intro q hq
    obtain ⟨q1, q2⟩ := q
    exact List.mem_of_mem_drop (List.of_mem_zip hq).1
  · have e4 : (ps.zip us).map (·.1) ++ ((ps.drop us.length).zip ws).map (·.1) = ps := by
      rw [← List.map_append, zip_split hl, List.map_fst_zip (by rw [hl]; exact Nat.le_refl _)]
    rw [e4]
    exact nd
  · have e5 : (ps.contains k || ([] : List Str).contains k) = true := by simp [hk]
    simp only [e5, if_true, hn, Option.isSome_none, Bool.false_eq_true, if_false]

/-! ### the table of defs -/
inductive At where
  | fn (x : Str)
  | me (C m : Str)
  | ge (C f : Str)
def adr (K : PySem.W.Frag) : At → Addr
  | .fn x => He.ga K x
  | .me C m => He.ma K (He.ga K C) m
  | .ge C f => match PySem.W.recIn K (He.ma K (He.ga K C) f) "property" with
    | some (.ref g :: _) => g
    | _ => 0
structure Ent where
  at_ : At
  name : Str
  qual : Str
  params : Arguments
  body : List Stmt
  scope : Scope
  N : List Str
  ps : List Str
def argsB (ps : List Str) (p : Arguments) : Bool := p.posonlyargs.isEmpty && (decide (p.args.map (·.arg) = ps) && (p.vararg.isNone && (p.kwonlyargs.isEmpty && (p.kwarg.isNone && decide ps.Nodup))))
def scopeB (N ps : List Str) (sc : Scope) : Bool := decide (sc.kind = .function) && (decide (sc.isCoroutine = false) && (decide (sc.isGenerator = false) && (decide N.Nodup && (decide (N.take ps.length = ps) && ((ps.all fun x => locB sc x) && sc.names.all fun y => !(decide (y.2 = .free)))))))
def entB (T : Tb) (G : Prog) (nm : Nm) (f : Fn) (e : Ent) : Bool := argsB e.ps e.params && (scopeB e.N e.ps e.scope && (decide (f.np = e.ps.length) && (decide (f.ns = e.N.length) && chkSs T G nm ⟨e.N, e.scope, fun _ => true⟩ f.body e.body)))
def tabB (T : Tb) (G : Prog) (nm : Nm) : List Fn → List Ent → Bool
  | [], [] => true
  | f :: fs, e :: es => entB T G nm f e && tabB T G nm fs es
  | _, _ => false
theorem args_ok {ps : List Str} {p : Arguments} (h : argsB ps p = true) : ArgsOk ps p := by
  obtain ⟨h1, h⟩ := ba h
  obtain ⟨h2, h⟩ := ba h
  obtain ⟨h3, h⟩ := ba h
  obtain ⟨h4, h⟩ := ba h
  obtain ⟨h5, h6⟩ := ba h
  exact ⟨List.isEmpty_iff.mp h1, bd h2, Option.isNone_iff_eq_none.mp h3, List.isEmpty_iff.mp h4, Option.isNone_iff_eq_none.mp h5, bd h6⟩
theorem scope_ok {N ps : List Str} {sc : Scope} (h : scopeB N ps sc = true) : FnScope N ps sc := by
  obtain ⟨h1, h⟩ := ba h
  obtain ⟨h2, h⟩ := ba h
  obtain ⟨h3, h⟩ := ba h
  obtain ⟨h4, h⟩ := ba h
  obtain ⟨h5, h⟩ := ba h
  obtain ⟨h6, h7⟩ := ba h
  refine ⟨bd h1, bd h2, bd h3, bd h4, bd h5, fun x hx => ?_, fun y hy => of_decide_eq_false (bn (List.all_eq_true.mp h7 y hy))⟩
  have := List.all_eq_true.mp h6 x hx
  unfold locB at this
  split at this
  · rename_i q; exact .inl q
  · rename_i q; exact .inr q
  · cases this
theorem tab_get {T : Tb} {G : Prog} {nm : Nm} : ∀ {fs : List Fn} {es : List Ent} {i : Nat} {f : Fn}, tabB T G nm fs es = true → fs[i]? = some f → ∃ e, es[i]? = some e ∧ entB T G nm f e = true
  | [], _, _, _, _, h => by simp at h
  | f :: fs, [], _, _, h, _ => by simp [tabB] at h
  | f :: fs, e :: es, 0, g, h, q => by
    simp at q; subst q
    exact ⟨e, rfl, (ba h).1⟩
  | f :: fs, e :: es, i + 1, g, h, q => by
    obtain ⟨e', h1, h2⟩ := tab_get (i := i) (ba h).2 (by simpa using q)
    exact ⟨e', by simpa using h1, h2⟩

section
variable {P : Program} {w0 : World} {K : PySem.W.Frag} {mg : Str → Option Value} {base : Heap} {G : Prog} {nm : Nm} {Wd : Wo} {T : Tb} {Z Z' H H' : Hp} {μ : Store}
theorem areps_len {vs : List V} {as : List A} (r : AReps K G nm Z vs as) : vs.length = as.length := by
  induction r with
  | nil => rfl
  | cons _ _ ih => simp [ih]
theorem areps_get {vs : List V} {as : List A} (r : AReps K G nm Z vs as) {i : Nat} {a : A} (h : as[i]? = some a) : ∃ v, vs[i]? = some v ∧ ARep K G nm Z v a := by
  induction r generalizing i with
  | nil => simp at h
  | cons q t ih => cases i with
    | zero => simp at h; subst h; exact ⟨_, rfl, q⟩
    | succ i => exact ih (by simpa using h)
theorem ssim_start {vs : List V} {as : List A} {N : List Str} {np ns : Nat} (r : AReps K G nm Z vs as) (h1 : as.length = np) (h2 : ns = N.length) : SSim K G nm Z (as.map some ++ List.replicate (ns - np) none) (L2.start N vs) := by
  have hl := areps_len r
  refine ⟨?_, fun i a e => ?_⟩
  · unfold L2.start
    simp only [List.length_append, List.length_map, List.length_replicate]
    omega
  · unfold L2.start
    by_cases hi : i < as.length
    · rw [List.getElem?_append_left (by simpa using hi), List.getElem?_map] at e
      cases q : as[i]? with
      | none => rw [q] at e; cases e
      | some b =>
        rw [q] at e
        cases e
        obtain ⟨v, e1, e2⟩ := areps_get r q
        refine ⟨v, ?_, e2⟩
        rw [List.getElem?_append_left (by simp; omega), List.getElem?_map, e1]; rfl
    · rw [List.getElem?_append_right (by simpa using Nat.le_of_not_lt hi)] at e
      have := List.mem_of_getElem? e
      have := List.eq_of_mem_replicate this
      cases this
theorem ret_ok {f : Bool} {Kp : KA} {a : A} {v : V} {Q : VK} (h : retW f Kp a μ) (st : Same Z Z') (hs : HSim K G nm Z' μ H) (r : ARep K G nm Z' v a) (k : ∀ a μ', Kp a μ' → FinA K G nm Z Q a μ') : Q v H := by
  unfold retW at h
  cases f with
  | true =>
    obtain ⟨x, μ1, Z2, st2, hs2, rx, μ2, sb, kp⟩ := toD_of hs r h
    exact k _ _ kp _ _ _ (Cr.Same.tr st st2) (hs2.sub sb) (.d rx)
  | false =>
    obtain ⟨μ2, sb, kp⟩ := h
    exact k _ _ kp _ _ _ st (hs.sub sb) r
theorem bindsK_of {x qual : Str} {p : Arguments} {body : List Stmt} {scope : Scope} {f : Addr} {fd : FuncData} {ps : List Str} (F : FunD K x qual p body scope [] [] f fd) (h : ArgsOk ps p) : BindsK fd ps := fun s us ws hl => by
  obtain ⟨oc, od, dV, kV, doc, pm, an, cdv, ct, osl, rfl, lk, hcd, hD, hK⟩ := F.ex
  rcases hD with ⟨_, rfl⟩ | ⟨e, _⟩
  · exact .of_eq (bind_kw h hl)
  · exact absurd rfl e
/-- every def keeps its promise, at each depth -/
theorem fns_ok (hK : KOk K mg G nm Wd T) (hC : ClsOk K G nm Wd) {ents : List Ent} (ht : tabB T G nm G.fns ents = true)
    (hF : ∀ i e, ents[i]? = some e → FunD K e.name e.qual e.params e.body e.scope [] [] (Wd.fa i) (Wd.fd i) ∧ Wd.ps i = e.ps) : ∀ k, FnsOk P w0 K mg base G nm Wd (callW G k) (2 * k)
  | 0, i, hi => by
    obtain ⟨e, he, hb⟩ := tab_get ht (List.getElem?_eq_getElem hi)
    obtain ⟨F, eps⟩ := hF i e he
    refine ⟨⟨fun vs H Q E ⟨_, _, _, _, _, _, _, w, _⟩ => w.elim, fun A outer s H args us vs Q E _ _ _ _ _ ⟨_, _, _, _, _, _, _, w, _⟩ => w.elim⟩, ?_⟩
    rw [eps]
    exact ⟨F.bindsN fun _ _ _ _ _ _ us hl => bind_all (args_ok (ba hb).1) hl, bindsK_of F (args_ok (ba hb).1)⟩
  | k + 1, i, hi => by
    obtain ⟨e, he, hb⟩ := tab_get ht (List.getElem?_eq_getElem hi)
    obtain ⟨F, eps⟩ := hF i e he
    have ih := fns_ok hK hC ht hF k
    obtain ⟨b1, hb⟩ := ba hb
    obtain ⟨b2, hb⟩ := ba hb
    obtain ⟨b3, hb⟩ := ba hb
    obtain ⟨b4, b5⟩ := ba hb
    have sc := scope_ok b2
    rw [eps]
    refine ⟨fnG_of F sc (fun vs H Q E h => ?_) (fun cdv A outer s H vs Q E hr hgd h => ?_), F.bindsN fun _ _ _ _ _ _ us hl => bind_all (args_ok b1) hl, bindsK_of F (args_ok b1)⟩
    · obtain ⟨Z, μ, as, Kp, Ek, hs, r, w, _⟩ := h
      unfold callW at w
      rw [List.getElem?_eq_getElem hi] at w
      rw [areps_len r, w.1, bd b3]
    · obtain ⟨Z, μ, as, Kp, Ek, hs, r, w, kK, kE⟩ := h
      unfold callW at w
      rw [List.getElem?_eq_getElem hi] at w
      obtain ⟨wl, w⟩ := w
      have hX : XOk (cxOf (L2.CX P w0) P w0 K mg base e.N e.qual e.scope (Wd.fa i) cdv A outer s H E) ⟨e.N, e.scope, fun _ => true⟩ T G nm Wd (fun cls d _ H => E cls d H) (callW G k) (2 * k) :=
        ⟨⟨hC, ih, hr, takes_of rfl rfl rfl rfl, hgd⟩, hK, rfl, sc.nd, rfl, rfl, rfl⟩
      refine ⟨_, ss_ok hX sc.kind (passes_of rfl) _ _ b5, Z, μ, _, _, hs, ssim_start r wl (bd b4), w, ?_⟩
      refine ⟨fun ρ' μ' q Z' H' σ' st hs' _ => ret_ok q st hs' (.d .non) kK, fun a μ' q v H' Z' st hs' ra => ret_ok q st hs' ra kK, fun _ _ z => z.elim, fun _ _ z => z.elim, fun c v ρ' μ' ⟨μ2, sb, q⟩ Z' H' σ' cls d st hs' _ er => kE c v μ2 q H' Z' cls d st (hs'.sub sb) er⟩
end
end Cr


/-! Cr30: the head: what is seen of the written part. -/
namespace Cr
open PySem PySem.Spec PyProof.Rows L2

/-! ### defs, at any address -/
def fnAt (K : PySem.W.Frag) (a : Addr) : He.FnW := match K.lookup a with
  | some ⟨_, _, .func fd, _⟩ => some (fd.name, fd.qualname, fd.params, fd.body, fd.scope, fd.globals, fd.closure, fd.builtins)
  | _ => none
def fdAt (K : PySem.W.Frag) (a : Addr) : Option FuncData := match K.lookup a with
  | some ⟨_, _, .func fd, _⟩ => some fd
  | _ => none
def Ent.val (e : Ent) : He.FnW := some (e.name, e.qual, e.params, .stmts e.body, e.scope, mainGlobals, [], builtinsNs)
def Ent.ok (K : PySem.W.Frag) (e : Ent) : Bool := PySem.W.keepIn K (.ref (adr K e.at_)) && (match K.lookup (adr K e.at_) with
  | some ⟨_, _, .func fd, _⟩ => PySem.W.codeIn K fd.code e.qual && He.dflB K fd.defaults []
  | _ => false)
theorem ent_ok {K : PySem.W.Frag} {e : Ent} (h : fnAt K (adr K e.at_) = e.val) (c : e.ok K = true) : ∃ fd, FunD K e.name e.qual e.params e.body e.scope [] [] (adr K e.at_) fd := by
  obtain ⟨kp, c2⟩ := ba c
  unfold fnAt at h
  cases q : K.lookup (adr K e.at_) with
  | none => rw [q] at c2; cases c2
  | some o =>
    obtain ⟨oc, od, dt, osl⟩ := o
    rw [q] at c2 h
    cases dt with
    | func fd =>
      obtain ⟨n1, n2, n3, n4, n5, n6, n7, n8, n9, n10, n11, n12, n13, n14, n15⟩ := fd
      have e2 : (some (n1, n2, n3, n4, n5, n6, n7, n15) : He.FnW) = some (e.name, e.qual, e.params, .stmts e.body, e.scope, mainGlobals, [], builtinsNs) := h
      simp only [Option.some.injEq, Prod.mk.injEq] at e2
      obtain ⟨h1, h2, h3, h4, h5, h6, h7, h8⟩ := e2
      subst h1 h2 h3 h4 h5 h6 h7 h8
      have c3 : (PySem.W.codeIn K n13 e.qual && He.dflB K n8 []) = true := c2
      obtain ⟨k1, k2⟩ := ba c3
      exact ⟨_, ⟨oc, od, n8, n9, n10, n11, n12, n13, n14, osl, rfl, q, k1, He.dflB_ok k2, .inl rfl⟩, kp⟩
    | _ => cases c2

/-! ### classes -/
def propB (K : PySem.W.Frag) (C : Addr) (f : Str) : Bool := He.eqO (PySem.W.findIn K (.ref C) f) (some (some (.ref (He.ma K C f)))) && (He.eqO (PySem.W.specialIn K (.ref (He.ma K C f)) "__get__") (some (some (.builtin "property.__get__"))) &&
  (decide (PySem.W.takesIn K (.ref (He.ma K C f)) = some true) && (match PySem.W.recIn K (He.ma K C f) "property" with
    | some (.ref _ :: _) => true
    | _ => false)))
theorem prop_ok {K : PySem.W.Frag} {C f : Str} (h : propB K (He.ga K C) f = true) : PropOf K (He.ga K C) f (He.ma K (He.ga K C) f) (adr K (.ge C f)) := by
  obtain ⟨h1, h⟩ := ba h
  obtain ⟨h2, h⟩ := ba h
  obtain ⟨h3, h4⟩ := ba h
  refine ⟨He.eqO_ok h1, He.eqO_ok h2, bd h3, ?_⟩
  cases q : PySem.W.recIn K (He.ma K (He.ga K C) f) "property" with
  | none => rw [q] at h4; cases h4
  | some l =>
    rw [q] at h4
    cases l with
    | nil => cases h4
    | cons v r =>
      cases v <;> first | (cases h4; done) | exact ⟨r, by simp only [adr, q]⟩
/-- what the table says: classes by their names; which def stands where -/
structure Cn where
  name : Str
  info : CInfo
def atE (ents : List Ent) (i : Nat) : Option At := (ents[i]?).map (·.at_)
def isFn (o : Option At) (x : Str) : Bool := match o with
  | some (.fn y) => decide (x = y)
  | _ => false
def isMe (o : Option At) (C m : Str) : Bool := match o with
  | some (.me D n) => decide (C = D) && decide (m = n)
  | _ => false
def isGe (o : Option At) (C m : Str) : Bool := match o with
  | some (.ge D n) => decide (C = D) && decide (m = n)
  | _ => false
def atN (nm : Nm) (f : Nat) : Str := nm.attr.getD f Str.empty
/-- of one class, of the written part -/
def clsB (K : PySem.W.Frag) (nm : Nm) (x : Str) (ci : CInfo) : Bool := (He.Fa.cls x).ok K && ((ci.fields.all fun f => (lookN f ci.props).isSome || (He.Fa.noat x (atN nm f)).ok K) && ((ci.props.all fun q => propB K (He.ga K x) (atN nm q.1)) &&
  ((ci.meths.all fun q => (He.Fa.meth x (atN nm q.1)).ok K) && ((ci.init.isNone || (He.Fa.mkr x).ok K) && (decide (PySem.W.findIn K (.ref (He.ga K x)) "__class__" = some (some (.builtin "object.__class__"))) && decide (PySem.W.mroIn K (He.ga K x) (.type "object") = some true))))))
/-- of one class, of the table alone -/
def clsT (nm : Nm) (ents : List Ent) (x : Str) (ci : CInfo) : Bool := (ci.props.all fun q => isGe (atE ents q.2) x (atN nm q.1)) && ((ci.meths.all fun q => isMe (atE ents q.2) x (atN nm q.1) && !((ci.fields.map (atN nm)).contains (atN nm q.1))) &&
  ((match ci.init with
    | some g => isMe (atE ents g) x "__init__"
    | none => true) && (decide (ci.fields.map (atN nm)).Nodup && decide (ci.fields.length ≤ 900))))
def allC (p : Str → CInfo → Bool) : List Str → List CInfo → Bool
  | x :: xs, c :: cs => p x c && allC p xs cs
  | [], [] => true
  | _, _ => false
theorem allC_get {p : Str → CInfo → Bool} : ∀ {xs : List Str} {cs : List CInfo} {i : Nat} {c : CInfo}, allC p xs cs = true → cs[i]? = some c → ∃ x, xs[i]? = some x ∧ p x c = true
  | [], [], i, c, _, h => by simp at h
  | [], _ :: _, _, _, h, _ => by simp [allC] at h
  | _ :: _, [], _, _, h, _ => by simp [allC] at h
  | x :: xs, c :: cs, 0, d, h, q => by
    simp at q; subst q
    exact ⟨x, rfl, (ba h).1⟩
  | x :: xs, c :: cs, i + 1, d, h, q => by
    obtain ⟨y, h1, h2⟩ := allC_get (i := i) (ba h).2 (by simpa using q)
    exact ⟨y, by simpa using h1, h2⟩
theorem lookN_mem : ∀ {k v : Nat} {l : List (Nat × Nat)}, lookN k l = some v → (k, v) ∈ l
  | _, _, [], h => by simp [lookN] at h
  | k, v, (a, b) :: r, h => by
    unfold lookN at h
    split at h
    · rename_i e; cases h; rw [e]; simp
    · exact List.mem_cons_of_mem _ (lookN_mem h)
theorem idxN_mem {f i : Nat} {l : List Nat} (h : idxN f l = some i) : f ∈ l := List.mem_of_getElem? (idx_get h)
def woOf (K : PySem.W.Frag) (ents : List Ent) (fd : Nat → FuncData) : Wo := ⟨fun i => match ents[i]? with
  | some e => adr K e.at_
  | none => 0, fd, fun i => match ents[i]? with
  | some e => e.ps
  | none => []⟩
theorem wo_fa {K : PySem.W.Frag} {ents : List Ent} {fd : Nat → FuncData} {i : Nat} {a : At} (h : atE ents i = some a) : (woOf K ents fd).fa i = adr K a ∧ i < ents.length := by
  unfold atE at h
  cases q : ents[i]? with
  | none => rw [q] at h; cases h
  | some e =>
    rw [q] at h
    cases h
    refine ⟨?_, (List.getElem?_eq_some_iff.mp q).1⟩
    unfold woOf
    simp only [q]
theorem isFn_ok {o : Option At} {x : Str} (h : isFn o x = true) : o = some (.fn x) := by
  unfold isFn at h
  split at h
  · rw [bd h]
  · cases h
theorem isMe_ok {o : Option At} {x m : Str} (h : isMe o x m = true) : o = some (.me x m) := by
  unfold isMe at h
  split at h
  · obtain ⟨h1, h2⟩ := ba h
    rw [bd h1, bd h2]
  · cases h
theorem isGe_ok {o : Option At} {x m : Str} (h : isGe o x m = true) : o = some (.ge x m) := by
  unfold isGe at h
  split at h
  · obtain ⟨h1, h2⟩ := ba h
    rw [bd h1, bd h2]
  · cases h
theorem atN_of {nm : Nm} {f : Nat} {x : Str} (h : nm.attr[f]? = some x) : atN nm f = x := by
  unfold atN
  rw [List.getD_eq_getElem?_getD, h]; rfl
theorem ca_of {K : PySem.W.Frag} {nm : Nm} {c : Nat} {x : Str} (h : nm.cls[c]? = some x) : ca K nm c = He.ga K x := by
  unfold ca
  rw [List.getD_eq_getElem?_getD, h]; rfl
theorem clsOk {K : PySem.W.Frag} {G : Prog} {nm : Nm} {ents : List Ent} {fd : Nat → FuncData} (hl : ents.length = G.fns.length) (h : allC (clsB K nm) nm.cls G.cls = true) (ht : allC (clsT nm ents) nm.cls G.cls = true) : ClsOk K G nm (woOf K ents fd) := by
  refine ⟨fun c ci e => ?_, fun c ci f i x e ei ep hx => ?_, fun c ci f g x e eg hx => ?_, fun c ci m g x e eg hx => ?_, fun c ci g e eg => ?_⟩
  all_goals
    obtain ⟨y, hy, hb⟩ := allC_get h e
    obtain ⟨y', hy', hc⟩ := allC_get ht e
    rw [hy] at hy'
    cases hy'
    rw [ca_of hy]
    unfold clsB at hb
    unfold clsT at hc
    obtain ⟨b1, hb⟩ := ba hb
    obtain ⟨b2, hb⟩ := ba hb
    obtain ⟨b3, hb⟩ := ba hb
    obtain ⟨b4, hb⟩ := ba hb
    obtain ⟨b5, hb⟩ := ba hb
    obtain ⟨c1, hc⟩ := ba hc
    obtain ⟨c2, hc⟩ := ba hc
    obtain ⟨c3, hc⟩ := ba hc
  · exact He.cls_ok b1
  · have := List.all_eq_true.mp b2 f (idxN_mem ei)
    rw [ep] at this
    simp only [Option.isSome_none, Bool.false_or] at this
    rw [atN_of hx] at this
    exact He.noat_ok this
  · have q1 := List.all_eq_true.mp b3 _ (lookN_mem eg)
    have q2 := List.all_eq_true.mp c1 _ (lookN_mem eg)
    simp only [atN_of hx] at q1 q2
    obtain ⟨w1, w2⟩ := wo_fa (K := K) (fd := fd) (isGe_ok q2)
    refine ⟨by omega, He.ma K (He.ga K y) x, ?_⟩
    rw [w1]
    exact prop_ok q1
  · have q1 := List.all_eq_true.mp b4 _ (lookN_mem eg)
    have q2 := List.all_eq_true.mp c2 _ (lookN_mem eg)
    simp only [atN_of hx] at q1 q2
    obtain ⟨q2, q3⟩ := ba q2
    obtain ⟨w1, w2⟩ := wo_fa (K := K) (fd := fd) (isMe_ok q2)
    refine ⟨by omega, ?_, ?_⟩
    · rw [w1]; exact He.meth_ok q1
    · rw [fns_of e]
      have := bn q3
      intro z
      have : ((ci.fields.map (atN nm)).contains x) = true := by
        rw [List.contains_iff_mem]
        exact z
      rw [this] at q3
      cases q3
  · rw [show ci.init = some g from eg] at b5 c3
    simp only [Option.isNone_some, Bool.false_or] at b5 c3
    obtain ⟨w1, w2⟩ := wo_fa (K := K) (fd := fd) (isMe_ok c3)
    refine ⟨by omega, ?_⟩
    rw [w1]
    exact He.mkr_ok b5
end Cr


/-! Cr31: the head's hook, a law. -/
namespace Cr
open PySem PySem.Spec PyProof.Rows L2

/-- the j-th statement of a class's body -/
def inC (s : Stmt) (j : Nat) : Stmt := match s with
  | .ClassDef _ _ _ body _ _ _ _ _ _ _ => body.getD j (.Pass ⟨0, 0, 0, 0⟩)
  | _ => .Pass ⟨0, 0, 0, 0⟩
def scB : Value → D → Bool
  | .int j _, .int i => decide (i = j)
  | .str z _, .str s => decide (z.cps.toList = s) && strOk z
  | .bool c, .bl b => decide (b = c)
  | .none, .non => true
  | _, _ => false
def vOf : Value → V
  | .int j _ => .int j
  | .str z _ => .str z
  | .bool c => .bl c
  | .none => .non
  | _ => .non
def scsB : List Value → List D → Bool
  | v :: vs, d :: ds => scB v d && scsB vs ds
  | [], [] => true
  | _, _ => false
/-- a tuple of such that stands in the written part -/
def tupB (K : PySem.W.Frag) (v : Value) (d : D) : Bool := match v, d with
  | .ref a, .tup ds => (match K.lookup a with
    | some ⟨.type c, none, .seq its _, _⟩ => decide (c = "tuple") && (decide (its.size ≤ 1000) && scsB its.toList ds)
    | _ => false)
  | _, _ => false
def vOf2 : Value → V
  | .ref a => .ref a
  | v => vOf v
def glbB (K : PySem.W.Frag) (x : Str) (d : Option D) : Bool := match PySem.W.nsIn K mainGlobals x, d with
  | some (some v), some d => scB v d || tupB K v d
  | _, _ => false
def kindsD (n : Nat) : List D := [.non, .bl true, .int 0, .str [], .tup [], .lst [], .dct [] []] ++ (List.range n).map fun c => .obj c []
def isiB (K : PySem.W.Frag) (nm : Nm) (n : Nat) (ts : List Ty) : Bool := He.eqO (PySem.W.specialIn K (.builtin "object.__class__") "__get__") (some (some (.builtin "getset_descriptor.__get__"))) &&
  (decide (PySem.W.takesIn K (.builtin "object.__class__") = some true) && ts.all fun t => (kindsD n).all fun d => decide (PySem.W.kitOne K (kitD K nm d) (tyVal K nm t) = some (isTy d t)))
/-- what is seen of the written part -/
def seenB (T : Tb) (G : Prog) (nm : Nm) (K : PySem.W.Frag) : Bool := (T.fnN.all fun q => (He.Fa.glo q.1).ok K) && ((T.clN.all fun q => (He.Fa.glo q.1).ok K) && ((T.glN.all fun q => glbB K q.1 G.glb[q.2]?) && ((T.free.all fun x => (He.Fa.free x).ok K) &&
  (allC (clsB K nm) nm.cls G.cls && isiB K nm G.cls.length T.isi))))
/-- what is seen of the table -/
def statB (T : Tb) (G : Prog) (nm : Nm) (ents : List Ent) : Bool := (T.fnN.all fun q => isFn (atE ents q.2) q.1) && ((T.clN.all fun q => decide (nm.cls[q.2]? = some q.1)) && (decide (ents.length = G.fns.length) && (decide (T.ps = ents.map (·.ps)) && (allC (clsT nm ents) nm.cls G.cls && tabB T G nm G.fns ents))))
theorem sc_ok {K : PySem.W.Frag} {G : Prog} {nm : Nm} {v : Value} {d : D} (h : scB v d = true) : RelV (vOf v) v ∧ ∀ Z, Rep K G nm Z (vOf v) d := by
  unfold scB at h
  split at h
  · rw [bd h]; exact ⟨⟨_, rfl⟩, fun Z => .int _⟩
  · obtain ⟨h1, h2⟩ := ba h
    have := bd h1
    subst this
    exact ⟨⟨_, rfl⟩, fun Z => .str _ h2⟩
  · rw [bd h]; exact ⟨rfl, fun Z => .bl _⟩
  · exact ⟨rfl, fun Z => .non⟩
  · cases h
theorem scs_ok {K : PySem.W.Frag} {G : Prog} {nm : Nm} : ∀ {vs : List Value} {ds : List D}, scsB vs ds = true → Vals (vs.map vOf) vs ∧ ∀ Z, Reps K G nm Z (vs.map vOf) ds
  | [], [], _ => ⟨.nil, fun Z => .nil⟩
  | [], _ :: _, h => by simp [scsB] at h
  | _ :: _, [], h => by simp [scsB] at h
  | v :: vs, d :: ds, h => by
    obtain ⟨h1, h2⟩ := ba h
    obtain ⟨a1, a2⟩ := sc_ok (K := K) (G := G) (nm := nm) h1
    obtain ⟨b1, b2⟩ := scs_ok (K := K) (G := G) (nm := nm) h2
    exact ⟨.cons a1 b1, fun Z => .cons (a2 Z) (b2 Z)⟩
theorem tup_ok {K : PySem.W.Frag} {G : Prog} {nm : Nm} {v : Value} {d : D} (h : tupB K v d = true) : RelV (vOf2 v) v ∧ ∀ Z, Rep K G nm Z (vOf2 v) d := by
  unfold tupB at h
  split at h
  · rename_i a ds
    split at h
    · rename_i c its n sl e
      obtain ⟨h1, h⟩ := ba h
      obtain ⟨h2, h3⟩ := ba h
      have := bd h1
      subst this
      obtain ⟨a1, a2⟩ := scs_ok (K := K) (G := G) (nm := nm) h3
      refine ⟨rfl, fun Z => .tup ?_ (a2 Z)⟩
      exact .inr ⟨_, its, n, e, rfl, rfl, Nat.le_trans (bd h2) (by rw [sizeLine_eq]; omega), by simpa using a1⟩
    · cases h
  · cases h
theorem lookup_mem {α : Type} {x : Str} {v : α} : ∀ {l : List (Str × α)}, l.lookup x = some v → (x, v) ∈ l
  | [], h => by cases h
  | (y, u) :: r, h => by
    rw [List.lookup_cons] at h
    cases e : (x == y) with
    | true => rw [e] at h; cases h; rw [beq_iff_eq.mp e]; simp
    | false => rw [e] at h; exact List.mem_cons_of_mem _ (lookup_mem h)
theorem kind_of (G : Prog) (K : PySem.W.Frag) (nm : Nm) (d : D) (h : isiD G d = true) : ∃ d' ∈ kindsD G.cls.length, kitD K nm d = kitD K nm d' ∧ ∀ t, isTy d t = isTy d' t := by
  cases d with
  | non => exact ⟨.non, by simp [kindsD], rfl, fun t => by cases t <;> rfl⟩
  | bl b => exact ⟨.bl true, by simp [kindsD], rfl, fun t => by cases t <;> rfl⟩
  | int i => exact ⟨.int 0, by simp [kindsD], rfl, fun t => by cases t <;> rfl⟩
  | str s => exact ⟨.str [], by simp [kindsD], rfl, fun t => by cases t <;> rfl⟩
  | tup xs => exact ⟨.tup [], by simp [kindsD], rfl, fun t => by cases t <;> rfl⟩
  | lst xs => exact ⟨.lst [], by simp [kindsD], rfl, fun t => by cases t <;> rfl⟩
  | dct ks vs => exact ⟨.dct [] [], by simp [kindsD], rfl, fun t => by cases t <;> rfl⟩
  | set xs => cases h
  | exn c v => cases h
  | obj c vs =>
    refine ⟨.obj c [], ?_, rfl, fun t => by cases t <;> rfl⟩
    have : c < G.cls.length := by
      simp only [isiD] at h
      cases e : G.cls[c]? with
      | none => rw [e] at h; cases h
      | some ci => exact (List.getElem?_eq_some_iff.mp e).1
    simp [kindsD]
    exact this
theorem isi_ok {K : PySem.W.Frag} {G : Prog} {nm : Nm} {ts : List Ty} (hc : allC (clsB K nm) nm.cls G.cls = true) (h : isiB K nm G.cls.length ts = true) : IsiOk K G nm ts := by
  obtain ⟨h1, h⟩ := ba h
  obtain ⟨h2, h3⟩ := ba h
  refine ⟨fun c ci e => ?_, He.eqO_ok h1, bd h2, fun d t ht hd => ?_⟩
  · obtain ⟨y, hy, hb⟩ := allC_get hc e
    rw [ca_of hy]
    obtain ⟨b1, hb⟩ := ba hb
    obtain ⟨b2, hb⟩ := ba hb
    obtain ⟨b3, hb⟩ := ba hb
    obtain ⟨b4, hb⟩ := ba hb
    obtain ⟨b5, hb⟩ := ba hb
    obtain ⟨b6, b7⟩ := ba hb
    exact ⟨He.cls_ok b1, bd b6, bd b7⟩
  · obtain ⟨d', m, e1, e2⟩ := kind_of G K nm d hd
    rw [e1, e2]
    exact bd (List.all_eq_true.mp (List.all_eq_true.mp h3 t ht) d' m)
theorem kOk {K : PySem.W.Frag} {h : Heap} {mg : Str → Option Value} {T : Tb} {G : Prog} {nm : Nm} {ents : List Ent} {fd : Nat → FuncData} (X : K.In h) (N : h.Ns mainGlobals mg) (hs : seenB T G nm K = true) (ht : statB T G nm ents = true) (hk : ∀ e ∈ ents, PySem.W.keepIn K (.ref (adr K e.at_)) = true) :
    KOk K mg G nm (woOf K ents fd) T ∧ ClsOk K G nm (woOf K ents fd) := by
  obtain ⟨s1, hs⟩ := ba hs
  obtain ⟨s2, hs⟩ := ba hs
  obtain ⟨s3, hs⟩ := ba hs
  obtain ⟨s4, hs⟩ := ba hs
  obtain ⟨s5, s6⟩ := ba hs
  obtain ⟨t1, ht⟩ := ba ht
  obtain ⟨t2, ht⟩ := ba ht
  obtain ⟨t3, ht⟩ := ba ht
  obtain ⟨t6, ht⟩ := ba ht
  obtain ⟨t4, t5⟩ := ba ht
  have t3 := bd t3
  refine ⟨⟨fun x i e => ?_, fun x c e => ?_, fun x i e => ?_, fun x e => ?_, fun c ci e => ?_, isi_ok s5 s6, fun i l e => ?_⟩, clsOk t3 s5 t4⟩
  · have m := lookup_mem e
    have q1 := He.glo_ok X N (List.all_eq_true.mp s1 _ m)
    have q2 := isFn_ok (List.all_eq_true.mp t1 _ m)
    obtain ⟨w1, w2⟩ := wo_fa (K := K) (fd := fd) q2
    refine ⟨by omega, ?_, ?_⟩
    · rw [w1]; exact q1
    · have : ents[i]? = some ents[i] := List.getElem?_eq_getElem w2
      have := hk ents[i] (List.getElem_mem w2)
      rw [w1]
      have e3 : (ents[i]).at_ = At.fn x := by
        unfold atE at q2
        rw [List.getElem?_eq_getElem w2] at q2
        simpa using q2
      rw [e3] at this
      exact this
  · have m := lookup_mem e
    have q1 := He.glo_ok X N (List.all_eq_true.mp s2 _ m)
    rw [ca_of (bd (List.all_eq_true.mp t2 _ m))]
    exact q1
  · have m := lookup_mem e
    have q := List.all_eq_true.mp s3 _ m
    unfold glbB at q
    split at q
    · rename_i v d e1 e2
      rcases Bool.or_eq_true_iff.mp q with q | q
      · obtain ⟨r1, r2⟩ := sc_ok (K := K) (G := G) (nm := nm) q
        exact ⟨v, vOf v, d, PySem.W.mg_of X N e1, r1, e2, r2⟩
      · obtain ⟨r1, r2⟩ := tup_ok (K := K) (G := G) (nm := nm) q
        exact ⟨v, vOf2 v, d, PySem.W.mg_of X N e1, r1, e2, r2⟩
    · cases q
  · exact He.free_ok X N (List.all_eq_true.mp s4 x (by simpa using e))
  · obtain ⟨y, hy, hc⟩ := allC_get t4 e
    obtain ⟨c1, hc⟩ := ba hc
    obtain ⟨c2, hc⟩ := ba hc
    obtain ⟨c3, hc⟩ := ba hc
    obtain ⟨c4, c5⟩ := ba hc
    rw [fns_of e]
    exact ⟨bd c4, by rw [List.length_map]; exact bd c5⟩
  · rw [bd t6, List.getElem?_map] at e
    unfold woOf
    cases q : ents[i]? with
    | none => rw [q] at e; cases e
    | some e' => rw [q] at e; simp only [q]; exact Option.some.inj e

/-! ### the hook -/
abbrev AlC : Type := Bool × List He.FnW
def obsC (T : Tb) (G : Prog) (nm : Nm) (ents : List Ent) (K : PySem.W.Frag) : AlC := (seenB T G nm K && ents.all fun e => e.ok K, ents.map fun e => fnAt K (adr K e.at_))
def valC (ents : List Ent) : AlC := (true, ents.map Ent.val)
def SaysC (T : Tb) (G : Prog) (nm : Nm) (ents : List Ent) (K : PySem.W.Frag) : Prop := obsC T G nm ents K = valC ents
def obsCG (n : Nat) (T : Tb) (G : Prog) (nm : Nm) (ents : List Ent) (g : Addr → Option Obj) : AlC := obsC T G nm ents (He.frG g (He.asD g n))
def hookC (n : Nat) (T : Tb) (G : Prog) (nm : Nm) (ents : List Ent) : PySem.W.Hook where
  α := AlC
  obs := fun s => obsCG n T G nm ents s.heap.get?
  val := fun _ => valC ents
  says := fun _ h => ∃ K : PySem.W.Frag, K.In h ∧ SaysC T G nm ents K
  of := fun _ _ e => ⟨_, He.frG_in, e⟩
  keeps := fun _ _ _ ⟨K, hK, c⟩ k => ⟨K, PySem.W.Frag.In.keeps hK k, c⟩
theorem obsCG_eq {n : Nat} {T : Tb} {G : Prog} {nm : Nm} {ents : List Ent} {g : Addr → Option Obj} {s : Shared} (h : ∀ a, g a = s.heap.get? a) : obsCG n T G nm ents g = (hookC n T G nm ents).obs s := by
  have e : g = s.heap.get? := funext h
  rw [e] <;> rfl
theorem saysC {T : Tb} {G : Prog} {nm : Nm} {ents : List Ent} {K : PySem.W.Frag} (c : SaysC T G nm ents K) : seenB T G nm K = true ∧ ∀ (i : Nat) (e : Ent), ents[i]? = some e → ∃ fd, FunD K e.name e.qual e.params e.body e.scope [] [] (adr K e.at_) fd := by
  have c1 : (seenB T G nm K && ents.all fun e => e.ok K) = true := congrArg (fun z : AlC => z.1) c
  have c2 : ents.map (fun e => fnAt K (adr K e.at_)) = ents.map Ent.val := congrArg (fun z : AlC => z.2) c
  obtain ⟨d1, d2⟩ := ba c1
  refine ⟨d1, fun i e h => ?_⟩
  have e2 : (ents.map fun e => fnAt K (adr K e.at_))[i]? = (ents.map Ent.val)[i]? := by rw [c2]
  rw [List.getElem?_map, List.getElem?_map, h] at e2
  exact ent_ok (Option.some.inj e2) (List.all_eq_true.mp d2 e (List.mem_of_getElem? h))

/-! ### a law -/
/-- what is to be shown of a law: whatever its script, it gives True -/
def LawOk (G : Prog) (law n k : Nat) : Prop := ∀ ns : List Int, ns.length ≤ n → callW G k law [.d (.lst (ns.map D.int))] (fun _ => none) (fun a _ => a = .d (.bl true)) fun _ _ _ => False
theorem reps_ns {K : PySem.W.Frag} {G : Prog} {nm : Nm} {Z : Hp} (ns : List Int) : Reps K G nm Z (ns.map V.int) (ns.map D.int) := by
  induction ns with
  | nil => exact .nil
  | cons n ns ih => exact .cons (.int n) ih
theorem lst_of {K : PySem.W.Frag} {h : Heap} {H : Hp} {a : Addr} {vs : List Value} {ns : List Int} (KX : K.In h) (ho : h.get? a = some { cls := .type "list", data := .seq vs.toArray }) (hi : IntsAre vs ns) (hl : ns.length ≤ sizeLine) (hS : SqL K H a (ns.map V.int)) : LstAt K H a (ns.map V.int) := by
  rcases hS with hS | ⟨o, its, n, e, _⟩
  · exact .inl hS
  · have q := KX a o e
    rw [ho] at q
    cases q
    exact .inr ⟨vs, e, vals_ints hi, by simpa using hl⟩
theorem law_walk {l : PySem.W.OpenLaw} {n k : Nat} {q : Program} {loose : List Str} {XP : (Str → Option Value) → Heap → Prop} {d : DefRec} {T : Tb} {G : Prog} {nm : Nm} {ents : List Ent} {nn li : Nat} {x : Str} {e : Ent}
    (hn : l.most = some n) (hn2 : n ≤ sizeLine) (hdf : d.params.defaults = []) (hr : Room (2 * k) callerA) (hst : statB T G nm ents = true) (he : ents[li]? = some e) (hT : T.fnN.lookup d.name = some li) (hps : e.ps = [x]) (law : LawOk G li n k) :
    PySem.W.WalkO q loose XP (hookC nn T G nm ents).says l.row.toRowW d [] (fun f vs => PySem.call f vs) := by
  refine Att.attach_callB hn hdf fun w s₀ s₁ mg mb fa o pm cd doc a vs ns Gr Y ho hd hcd hmg hobj hints hlen hbits hg => ?_
  obtain ⟨K, KX, c⟩ := Y
  obtain ⟨seen, defs⟩ := saysC c
  have : ∀ i : Nat, ∃ fd : FuncData, ∀ e : Ent, ents[i]? = some e → FunD K e.name e.qual e.params e.body e.scope [] [] (adr K e.at_) fd := fun i => by
    cases h : ents[i]? with
    | none => exact ⟨Classical.choice (by obtain ⟨fd, _⟩ := defs li e he; exact ⟨fd⟩), fun e z => by cases z⟩
    | some e' =>
      obtain ⟨fd, F⟩ := defs i e' h
      exact ⟨fd, fun e z => by cases z; exact F⟩
  obtain ⟨fd, hfd⟩ := Classical.axiomOfChoice this
  have hk : ∀ e ∈ ents, PySem.W.keepIn K (.ref (adr K e.at_)) = true := fun e he => by
    obtain ⟨i, hi, e2⟩ := List.mem_iff_getElem.mp he
    obtain ⟨fd', F⟩ := defs i e (by rw [List.getElem?_eq_getElem hi, e2])
    exact F.kp
  obtain ⟨kok, cok⟩ := kOk (fd := fd) KX Gr.T.g seen hst hk
  obtain ⟨_, h1⟩ := ba hst
  obtain ⟨_, h1⟩ := ba h1
  obtain ⟨_, h1⟩ := ba h1
  obtain ⟨_, h1⟩ := ba h1
  obtain ⟨_, tab⟩ := ba h1
  have hF : ∀ (i : Nat) (e : Ent), ents[i]? = some e → FunD K e.name e.qual e.params e.body e.scope [] [] ((woOf K ents fd).fa i) ((woOf K ents fd).fd i) ∧ (woOf K ents fd).ps i = e.ps := fun i e h => by
    refine ⟨?_, by unfold woOf; simp only [h]⟩
    have : (woOf K ents fd).fa i = adr K e.at_ := by unfold woOf; simp only [h]
    rw [this]
    exact hfd i e h
  obtain ⟨k1, k2, _⟩ := kok.f _ _ hT
  have efa : fa = (woOf K ents fd).fa li := by
    rw [hmg] at k2
    injection k2 with k2
    injection k2
  obtain ⟨e', he', hb⟩ := tab_get tab (List.getElem?_eq_getElem k1)
  rw [he] at he'
  cases he'
  have hp : (woOf K ents fd).ps li = [x] := by rw [(hF li e he).2, hps]
  subst efa
  refine law_callG (fd := fd li) (sp := spC K G nm (callW G k) li) (x := x) (cx := L2.CX l.prog w) KX Gr.T.g Gr.T.b Gr.T.builtins Gr.T.nolimit hg hobj hints (Nat.le_trans hlen hn2) hr (fun base hKb hns => ?_) (fun s u => ?_) (fun H L => ?_) fun H e s' z => ?_
  · have := (fns_ok (P := l.prog) (w0 := w) (base := base) kok cok tab hF k li k1).1
    rw [hp] at this
    exact this
  · have b := FunD.bindsA (ps := [x]) (hF li e he).1 (fun _ _ _ _ _ _ us hl => bind_all (by rw [← hps]; exact args_ok (ba hb).1) hl) s [u] rfl
    exact b
  · refine ⟨H, fun _ => none, [.d (.lst (ns.map D.int))], _, _, ⟨same_refl, fun _ _ z => (by cases z), fun _ _ z => (by cases z)⟩, .cons (.d (.lst L (reps_ns ns))) .nil, law ns hlen, fun a μ' ea w' H' Z' st hs' r => ?_, fun _ _ _ z => z.elim⟩
    subst ea
    cases r with
    | d r => cases r; rfl
  · obtain ⟨a, B, H', cls, d, _, _, _, _, _, _, _, q⟩ := z
    exact q
end Cr


/-! CrU: going through Core by hand: calls, loops, comprehensions. -/
namespace Cr
open PySem

section
variable {G : Prog} {call : Nat → List A → Store → KA → KX → Prop} {ρ : Env} {μ : Store} {K : Bool → Store → Prop} {KE : KA} {E : KX}
/-! ### tests -/
@[simp] theorem wpT_slot {i : Nat} : wpT G call (.slot i) ρ μ K E = wpE G call (.slot i) ρ μ (fun x μ1 => rd μ1 x fun u => match truth u with | some b => K b μ1 | none => False) E := by unfold wpT; rfl
@[simp] theorem wpT_lit {i : D} : wpT G call (.lit i) ρ μ K E = wpE G call (.lit i) ρ μ (fun x μ1 => rd μ1 x fun u => match truth u with | some b => K b μ1 | none => False) E := by unfold wpT; rfl
@[simp] theorem wpT_call {i : Nat} {es : CEs} : wpT G call (.call i es) ρ μ K E = wpE G call (.call i es) ρ μ (fun x μ1 => rd μ1 x fun u => match truth u with | some b => K b μ1 | none => False) E := by unfold wpT; rfl
@[simp] theorem wpT_meth {i : CE} {m : Nat} {es : CEs} : wpT G call (.meth i m es) ρ μ K E = wpE G call (.meth i m es) ρ μ (fun x μ1 => rd μ1 x fun u => match truth u with | some b => K b μ1 | none => False) E := by unfold wpT; rfl
@[simp] theorem wpT_bi {b : Bi} {c : Bool} {es : CEs} : wpT G call (.bi b c es) ρ μ K E = wpE G call (.bi b c es) ρ μ (fun x μ1 => rd μ1 x fun u => match truth u with | some b => K b μ1 | none => False) E := by unfold wpT; rfl
@[simp] theorem wpT_cmp {op : COp} {a b : CE} : wpT G call (.cmp op a b) ρ μ K E = wpE G call a ρ μ (fun x μ1 => wpE G call b ρ μ1 (fun y μ2 => rd μ2 x fun u => rd μ2 y fun v => opC op u v fun r => K r μ2) E) E := by
  unfold wpT
  rw [wpE]
  rfl
@[simp] theorem wpT_isi {a : CE} {t : Ty} : wpT G call (.isi a t) ρ μ K E = wpE G call a ρ μ (fun x μ1 => match kindOf μ1 x with | some u => isiD G u = true ∧ K (isTy u t) μ1 | none => False) E := by
  unfold wpT
  rw [wpE]
  congr 1
@[simp] theorem wpT_chain {op op' : COp} {a b c : CE} : wpT G call (.chain op op' a b c) ρ μ K E = wpE G call a ρ μ (fun x μ1 => wpE G call b ρ μ1 (fun y μ2 => rd μ2 x fun u => rd μ2 y fun v => opC op u v fun r => match r with
    | true => wpE G call c ρ μ2 (fun z μ3 => rd μ3 y fun v => rd μ3 z fun w => opC op' v w fun r => K r μ3) E
    | false => K false μ2) E) E := by
  unfold wpT
  rw [wpE]
  rfl
@[simp] theorem wpT_ife {c a b : CE} : wpT G call (.ife c a b) ρ μ K E = wpE G call (.ife c a b) ρ μ (fun x μ1 => rd μ1 x fun u => match truth u with | some b => K b μ1 | none => False) E := by unfold wpT; rfl
@[simp] theorem rd_d {x : D} {K : D → Prop} : rd μ (.d x) K = K x := rfl
@[simp] theorem rds_nil {K : List D → Prop} : rds μ [] K = K [] := rfl
@[simp] theorem rds_cons {a : A} {r : List A} {K : List D → Prop} : rds μ (a :: r) K = rd μ a fun x => rds μ r fun xs => K (x :: xs) := rfl
@[simp] theorem toD_d {x : D} {K : D → Store → Prop} : toD μ (.d x) K = K x μ := rfl
@[simp] theorem toDs_nil' {K : List D → Store → Prop} : toDs μ [] K = K [] μ := rfl
@[simp] theorem toDs_cons {a : A} {r : List A} {K : List D → Store → Prop} : toDs μ (a :: r) K = toD μ a fun x μ1 => toDs μ1 r fun xs μ2 => K (x :: xs) μ2 := rfl
@[simp] theorem fin_f {r : D} : fin false r μ KE = KE (.d r) μ := by cases r <;> rfl
@[simp] theorem fin_l {xs : List D} : fin true (.lst xs) μ KE = new (.lst xs) μ KE := rfl
@[simp] theorem finL_f {xs : List D} : finL false xs μ KE = KE (.d (.lst xs)) μ := rfl
@[simp] theorem finL_t {xs : List D} : finL true xs μ KE = new (.lst xs) μ KE := rfl
@[simp] theorem truth_bl {b : Bool} : truth (.bl b) = some b := rfl
theorem rd_p {n : Nat} {xs : List D} {K : D → Prop} (h : μ n = some (.lst xs)) : rd μ (.ptr n) K = K (.lst xs) := by simp [rd, vw, h]
theorem rd_pd {n : Nat} {ks vs : List D} {K : D → Prop} (h : μ n = some (.dct ks vs)) : rd μ (.ptr n) K = K (.dct ks vs) := by simp [rd, vw, h]
theorem del_put {a : Nat} {c : Cell} (h : μ a = none) : del (put μ a c) a = μ := by
  funext b
  by_cases e : b = a
  · subst e; simp [del, h]
  · simp [del, put, e]
@[simp] theorem put_put {a : Nat} {c d : Cell} : put (put μ a c) a d = put μ a d := by
  funext b
  by_cases e : b = a <;> simp [put, e]
@[simp] theorem put_at {a : Nat} {c : Cell} : put μ a c a = some c := by simp [put]
theorem put_o {a b : Nat} {c : Cell} (h : b ≠ a) : put μ a c b = μ b := by simp [put, h]
theorem sub_refl : Sub μ μ := fun _ _ h => h
theorem sub_put {μ0 : Store} {a : Nat} {c : Cell} (h : μ0 a = none) (s : Sub μ0 μ) : Sub μ0 (put μ a c) := fun b d e => by
  rw [put_o (fun z => by rw [z, h] at e; cases e)]; exact s b d e
theorem sub_del {μ0 : Store} {a : Nat} (h : μ0 a = none) (s : Sub μ0 μ) : Sub μ0 (del μ a) := fun b d e => by
  have : b ≠ a := fun z => by rw [z, h] at e; cases e
  simp only [del, if_neg this]; exact s b d e
theorem sub_none {μ0 : Store} (s : Sub μ0 μ) {a : Nat} (h : μ a = none) : μ0 a = none := by
  cases e : μ0 a with
  | none => rfl
  | some c => rw [s a c e] at h; cases h
/-! ### operators -/
@[simp] theorem opB_ai {i j : Int} {K : D → Prop} : opB .add (.int i) (.int j) K = K (.int (i + j)) := rfl
@[simp] theorem opB_as {i j : List Nat} {K : D → Prop} : opB .add (.str i) (.str j) K = (i.length + j.length ≤ line ∧ K (.str (i ++ j))) := rfl
@[simp] theorem opB_al {i j : List D} {K : D → Prop} : opB .add (.lst i) (.lst j) K = (i.length + j.length ≤ line ∧ K (.lst (i ++ j))) := rfl
@[simp] theorem opB_at {i j : List D} {K : D → Prop} : opB .add (.tup i) (.tup j) K = (i.length + j.length ≤ line ∧ K (.tup (i ++ j))) := rfl
@[simp] theorem opB_si {i j : Int} {K : D → Prop} : opB .sub (.int i) (.int j) K = K (.int (i - j)) := rfl
@[simp] theorem opB_mi {i j : Int} {K : D → Prop} : opB .mul (.int i) (.int j) K = (MulOk i j ∧ K (.int (i * j))) := rfl
@[simp] theorem opB_ml {x : List D} {k : Int} {K : D → Prop} : opB .mul (.lst x) (.int k) K = (-(2 ^ 63) ≤ k ∧ k < 2 ^ 63 ∧ x.length * k.toNat ≤ line ∧ K (.lst (List.replicate k.toNat x).flatten)) := rfl
@[simp] theorem opB_fi {i j : Int} {K : D → Prop} : opB .fdiv (.int i) (.int j) K = (DivOk j ∧ K (.int (i.fdiv j))) := rfl
@[simp] theorem opB_oi {i j : Int} {K : D → Prop} : opB .mod (.int i) (.int j) K = (j ≠ 0 ∧ K (.int (i.fmod j))) := rfl
@[simp] theorem opB_pi {i j : Int} {K : D → Prop} : opB .pow (.int i) (.int j) K = (PowOk i j ∧ K (.int (i ^ j.toNat))) := rfl
@[simp] theorem opC_ei {i j : Int} {K : Bool → Prop} : opC .eq (.int i) (.int j) K = K (decide (i = j)) := rfl
@[simp] theorem opC_ni {i j : Int} {K : Bool → Prop} : opC .ne (.int i) (.int j) K = K (!decide (i = j)) := rfl
@[simp] theorem opC_es {i j : List Nat} {K : Bool → Prop} : opC .eq (.str i) (.str j) K = K (decide (i = j)) := rfl
@[simp] theorem opC_ns {i j : List Nat} {K : Bool → Prop} : opC .ne (.str i) (.str j) K = K (!decide (i = j)) := rfl
@[simp] theorem opC_li {i j : Int} {K : Bool → Prop} : opC .lt (.int i) (.int j) K = K (decide (i < j)) := rfl
@[simp] theorem opC_gi {i j : Int} {K : Bool → Prop} : opC .gt (.int i) (.int j) K = K (decide (j < i)) := rfl
@[simp] theorem opC_lei {i j : Int} {K : Bool → Prop} : opC .le (.int i) (.int j) K = K (decide (i ≤ j)) := rfl
@[simp] theorem opC_gei {i j : Int} {K : Bool → Prop} : opC .ge (.int i) (.int j) K = K (decide (j ≤ i)) := rfl
@[simp] theorem opC_nl {x y : List D} {K : Bool → Prop} : opC .ne (.lst x) (.lst y) K = (flatD dep (.lst x) = true ∧ flatD dep (.lst y) = true ∧ K (!eqD (.lst x) (.lst y))) := rfl
@[simp] theorem opC_el {x y : List D} {K : Bool → Prop} : opC .eq (.lst x) (.lst y) K = (flatD dep (.lst x) = true ∧ flatD dep (.lst y) = true ∧ K (eqD (.lst x) (.lst y))) := rfl
@[simp] theorem opC_nt {x y : List D} {K : Bool → Prop} : opC .ne (.tup x) (.tup y) K = (flatD dep (.tup x) = true ∧ flatD dep (.tup y) = true ∧ K (!eqD (.tup x) (.tup y))) := rfl
@[simp] theorem opC_et {x y : List D} {K : Bool → Prop} : opC .eq (.tup x) (.tup y) K = (flatD dep (.tup x) = true ∧ flatD dep (.tup y) = true ∧ K (eqD (.tup x) (.tup y))) := rfl
@[simp] theorem opC_nt' {x : D} {ys : List D} {K : Bool → Prop} : opC .nin x (.tup ys) K = (flatD dep x = true ∧ flatDs dep ys = true ∧ K (!inD x ys)) := by cases x <;> rfl
@[simp] theorem opBi_ll {xs : List D} {K : D → Prop} : opBi .len [.lst xs] K = K (.int xs.length) := rfl
@[simp] theorem opBi_lt {xs : List D} {K : D → Prop} : opBi .len [.tup xs] K = K (.int xs.length) := rfl
@[simp] theorem opBi_ii {i : Int} {K : D → Prop} : opBi .int [.int i] K = K (.int i) := rfl
@[simp] theorem opBi_ib {i : Bool} {K : D → Prop} : opBi .int [.bl i] K = K (.int (if i then 1 else 0)) := rfl
@[simp] theorem opBi_tl {xs : List D} {K : D → Prop} : opBi .tuple [.lst xs] K = K (.tup xs) := rfl
@[simp] theorem opBi_lst {xs : List D} {K : D → Prop} : opBi .list [.tup xs] K = K (.lst xs) := rfl
@[simp] theorem opBi_abs {i : Int} {K : D → Prop} : opBi .abs [.int i] K = K (.int i.natAbs) := rfl
@[simp] theorem opBi_sum {xs : List D} {K : D → Prop} : opBi .sum [.lst xs] K = ∃ ns, intsOf xs = some ns ∧ K (.int ns.sum) := rfl
@[simp] theorem opBi_sumT {xs : List D} {K : D → Prop} : opBi .sum [.tup xs] K = ∃ ns, intsOf xs = some ns ∧ K (.int ns.sum) := rfl
@[simp] theorem opBi_all {xs : List D} {K : D → Prop} : opBi .all [.lst xs] K = ∃ bs, boolsOf xs = some bs ∧ K (.bl (bs.all id)) := rfl
@[simp] theorem opBi_repr_i {i : Int} {K : D → Prop} : opBi .repr [(.int i)] K = (szD (.int i) ≤ line ∧ flatD dep (.int i) = true ∧ K (.str (shD (.int i)))) := rfl
@[simp] theorem opBi_repr_t {xs : List D} {K : D → Prop} : opBi .repr [(.tup xs)] K = (szD (.tup xs) ≤ line ∧ flatD dep (.tup xs) = true ∧ K (.str (shD (.tup xs)))) := rfl
@[simp] theorem opBi_repr_l {xs : List D} {K : D → Prop} : opBi .repr [(.lst xs)] K = (szD (.lst xs) ≤ line ∧ flatD dep (.lst xs) = true ∧ K (.str (shD (.lst xs)))) := rfl
@[simp] theorem opBi_repr_b {b : Bool} {K : D → Prop} : opBi .repr [(.bl b)] K = (szD (.bl b) ≤ line ∧ flatD dep (.bl b) = true ∧ K (.str (shD (.bl b)))) := rfl
@[simp] theorem opBi_repr_s {s : List Nat} {K : D → Prop} : opBi .repr [(.str s)] K = (szD (.str s) ≤ line ∧ flatD dep (.str s) = true ∧ K (.str (shD (.str s)))) := rfl
@[simp] theorem opBi_repr_n {K : D → Prop} : opBi .repr [.non] K = (szD .non ≤ line ∧ flatD dep .non = true ∧ K (.str (shD .non))) := rfl
@[simp] theorem opBi_repr_d {K : D → Prop} : opBi .repr [.dct [] []] K = K (.str [123, 125]) := rfl
theorem opBi_repr {x : D} {K : D → Prop} (h : flatD dep x = true) : opBi .repr [x] K = (szD x ≤ line ∧ flatD dep x = true ∧ K (.str (shD x))) := by cases x <;> first | rfl | (simp [flatD] at h)
@[simp] theorem opBi_max {i j : Int} {K : D → Prop} : opBi .max [.int i, .int j] K = K (.int (if i < j then j else i)) := rfl
@[simp] theorem opBi_min {i j : Int} {K : D → Prop} : opBi .min [.int i, .int j] K = K (.int (if j < i then j else i)) := rfl
@[simp] theorem opIx_l {xs : List D} {i : Int} {K : D → Prop} : opIx (.lst xs) (.int i) K = ∃ x, atI xs i = some x ∧ K x := rfl
@[simp] theorem opIx_t {xs : List D} {i : Int} {K : D → Prop} : opIx (.tup xs) (.int i) K = ∃ x, atI xs i = some x ∧ K x := rfl
@[simp] theorem opSl_l {xs : List D} {lo hi : Option Int} {K : D → Prop} : opSl (.lst xs) lo hi K = K (.lst (cut xs lo hi)) := rfl
@[simp] theorem opSl_t {xs : List D} {lo hi : Option Int} {K : D → Prop} : opSl (.tup xs) lo hi K = K (.tup (cut xs lo hi)) := rfl
theorem range_get {i j : Int} {k : Nat} {d : D} (h : (rangeD i j)[k]? = some d) : d = .int (i + k) := by
  unfold rangeD at h
  rw [List.getElem?_map] at h
  cases e : (List.range (j - i).toNat)[k]? with
  | none => rw [e] at h; cases h
  | some m =>
    rw [e] at h
    cases h
    obtain ⟨h1, h2⟩ := List.getElem?_eq_some_iff.mp e
    have : m = k := by simpa using h2.symm
    rw [this]
@[simp] theorem range_len {i j : Int} : (rangeD i j).length = (j - i).toNat := by simp [rangeD]
theorem atI_nat {α : Type} {xs : List α} {i : Nat} (h : i < xs.length) : atI xs (i : Int) = some xs[i] := by
  have : ixN xs.length (i : Int) = some i := by
    unfold ixN
    rw [if_pos (by omega), if_pos (by omega)]
    rfl
  simp [atI, this, List.getElem?_eq_getElem h]
theorem ixN_nat {n i : Nat} (h : i < n) : ixN n (i : Int) = some i := by
  unfold ixN
  rw [if_pos (by omega), if_pos (by omega)]
  rfl
theorem smallI {i : Int} (h : -1000000000 ≤ i) (h2 : i ≤ 1000000000) : SmallI i := ⟨by omega, by omega⟩
@[simp] theorem opBm_get {ks vs : List D} {k x : D} {K : D → Prop} : opBm .get (.dct ks vs) [k, x] K = (isKey k = true ∧ K ((lookD k ks vs).getD x)) := rfl
@[simp] theorem rdz_get {μ : Store} {k x : D} {K : List D → Prop} : rdz .get μ [.d k, .d x] K = K [k, x] := rfl
@[simp] theorem rdz_join {μ : Store} {as : List A} {K : List D → Prop} : rdz .join μ as K = rds μ as K := rfl
@[simp] theorem rdz_split {μ : Store} {as : List A} {K : List D → Prop} : rdz .split μ as K = rds μ as K := rfl
@[simp] theorem rdz_index {μ : Store} {as : List A} {K : List D → Prop} : rdz .index μ as K = rds μ as K := rfl
@[simp] theorem rdz_count {μ : Store} {as : List A} {K : List D → Prop} : rdz .count μ as K = rds μ as K := rfl
@[simp] theorem isKey_i {i : Int} : isKey (.int i) = true := rfl
@[simp] theorem isKey_s {i : List Nat} : isKey (.str i) = true := rfl
@[simp] theorem fixD_i {i : Int} : fixD (.int i) = true := rfl
theorem setSub_d {b : Nat} {ks vs : List D} {k v : D} {μ : Store} {K : Store → Prop} (e : μ b = some (.dct ks vs)) (hk : isKey k = true) (hl : ks.length < line) (h : K (put μ b (.dct (putK k ks) (putV k v ks vs)))) : setSub (.ptr b) (.d k) (.d v) μ K := by
  simp only [setSub, e, toD_d, rd_d]
  exact ⟨hk, hl, trivial, h⟩
theorem setSub_l {b : Nat} {xs : List D} {j : Nat} {v : D} {μ : Store} {K : Store → Prop} (e : μ b = some (.lst xs)) (hj : j < xs.length) (k : K (put μ b (.lst (xs.set j v)))) : setSub (.ptr b) (.d (.int (j : Int))) (.d v) μ K := by
  simp only [setSub, e, toD_d]
  exact ⟨j, ixN_nat hj, trivial, k⟩
/-! ### calls -/
/-- f gives r for these, and touches nothing -/
def Ret (G : Prog) (k f : Nat) (ds : List D) (r : D) : Prop := ∀ μ K E, K (.d r) μ → callW G k f (ds.map A.d) μ K E
theorem call_of {k f : Nat} {fn : Fn} {as : List A} (h : G.fns[f]? = some fn) (hl : as.length = fn.np) (w : wpSs G (callW G k) fn.body (as.map some ++ List.replicate (fn.ns - fn.np) none) μ
      { nx := fun _ μ1 => retW fn.frz KE (.d .non) μ1, rt := fun a μ1 => retW fn.frz KE a μ1, bk := fun _ _ => False, ct := fun _ _ => False, ex := fun c v _ μ1 => ∃ μ2, Sub μ2 μ1 ∧ E c v μ2 }) : callW G (k + 1) f as μ KE E := by
  rw [callW, h]
  exact ⟨hl, w⟩
theorem ret_d {r : D} {μ0 : Store} (s : Sub μ0 μ) (h : KE (.d r) μ0) : retW true KE (.d r) μ := ⟨μ0, s, h⟩
theorem ret_p {n : Nat} {xs : List D} {μ0 : Store} (e : μ n = some (.lst xs)) (hn : μ0 n = none) (s : Sub μ0 μ) (h : KE (.d (.lst xs)) μ0) : retW true KE (.ptr n) μ := by
  show toD μ (.ptr n) _
  simp only [toD, frz, e]
  exact ⟨μ0, sub_del hn s, h⟩
theorem ret_k {a : A} {μ0 : Store} (s : Sub μ0 μ) (h : KE a μ0) : retW false KE a μ := ⟨μ0, s, h⟩
end

/-! ### loops -/
theorem for_inv {src : Option (Nat × Cell)} {ρ0 : Env} {f : D → Env → Store → Post → Prop} {xs : List D} {ρ : Env} {μ : Store} {P : Post} (I : Nat → Env → Store → Prop) (h0 : I 0 ρ μ)
    (hs : ∀ i ρ μ, I i ρ μ → still src μ)
    (step : ∀ i x ρ μ nx', xs[i]? = some x → I i ρ μ → (∀ ρ1 μ1, I (i + 1) (mask ρ0 ρ1) μ1 → nx' ρ1 μ1) → f x ρ μ { nx := nx', ct := nx', bk := fun ρ1 μ1 => P.nx (mask ρ0 ρ1) μ1, rt := P.rt, ex := P.ex })
    (done : ∀ ρ μ, I xs.length ρ μ → P.nx ρ μ) : forLoop src ρ0 f xs ρ μ P := by
  suffices q : ∀ (ys : List D) (i : Nat) (ρ : Env) (μ : Store), xs.drop i = ys → i ≤ xs.length → I i ρ μ → forLoop src ρ0 f ys ρ μ P from q xs 0 ρ μ rfl (Nat.zero_le _) h0
  intro ys
  induction ys with
  | nil =>
    intro i ρ μ e hi h
    have : i = xs.length := by have := congrArg List.length e; simp at this; omega
    subst this
    rw [forLoop]
    exact ⟨hs _ _ _ h, done ρ μ h⟩
  | cons y ys ih =>
    intro i ρ μ e hi h
    have hlt : i < xs.length := by have := congrArg List.length e; simp at this; omega
    have ey : xs[i]? = some y := by
      rw [List.drop_eq_getElem_cons hlt] at e
      rw [List.getElem?_eq_getElem hlt, (List.cons.inj e).1]
    have er : xs.drop (i + 1) = ys := by
      rw [List.drop_eq_getElem_cons hlt] at e
      exact (List.cons.inj e).2
    rw [forLoop]
    exact ⟨hs _ _ _ h, step i y ρ μ (fun ρ1 μ1 => forLoop src ρ0 f ys (mask ρ0 ρ1) μ1 P) ey h fun ρ1 μ1 q => ih (i + 1) _ _ er hlt q⟩
theorem while_inv {ρ0 : Env} {c : Env → Store → (Bool → Store → Prop) → KX → Prop} {f : Env → Store → Post → Prop} {P : Post} (I : Nat → Env → Store → Prop)
    (step : ∀ n ρ μ, I n ρ μ → ∃ b, (∀ Kc Ex, Kc b μ → c ρ μ Kc Ex) ∧ (b = false → P.nx ρ μ) ∧ (b = true → ∃ n', n = n' + 1 ∧ ∀ nx', (∀ ρ1 μ1, I n' (mask ρ0 ρ1) μ1 → nx' ρ1 μ1) → f ρ μ { nx := nx', ct := nx', bk := fun ρ1 μ1 => P.nx (mask ρ0 ρ1) μ1, rt := P.rt, ex := P.ex })) :
    ∀ n ρ μ, I n ρ μ → whileLoop ρ0 c f (n + 1) ρ μ P
  | n, ρ, μ, h => by
    obtain ⟨b, h1, h2, h3⟩ := step n ρ μ h
    rw [whileLoop]
    refine h1 _ _ ?_
    cases b with
    | false => exact h2 rfl
    | true =>
      obtain ⟨n', e, h4⟩ := h3 rfl
      subst e
      exact h4 _ fun ρ1 μ1 q => while_inv I step n' _ _ q
/-- a comprehension whose items are found without touching anything -/
theorem comp_pure {a : Nat} {src : Option (Nat × Cell)} {f : D → Store → (Option D → Store → Prop) → Prop} {xs : List D} {μ : Store} {K : List D → Store → Prop} (g : D → Option D) (hs : ∀ μ1, (∀ b, b ≠ a → μ1 b = μ b) → still src μ1) (hl : xs.length ≤ line)
    (hf : ∀ x ∈ xs, ∀ μ1, (∀ b, b ≠ a → μ1 b = μ b) → ∀ Kc, Kc (g x) μ1 → f x μ1 Kc) (hK : K (xs.filterMap g) (put μ a (.lst (xs.filterMap g)))) : compLoop a src f xs [] (put μ a (.lst [])) K := by
  suffices q : ∀ (ys acc : List D), acc ++ ys.filterMap g = xs.filterMap g → (∀ y ∈ ys, y ∈ xs) → acc.length + ys.length ≤ line → compLoop a src f ys acc (put μ a (.lst acc)) K from q xs [] rfl (fun _ h => h) (by simpa using hl)
  intro ys
  induction ys with
  | nil =>
    intro acc e _ _
    rw [compLoop]
    simp only [List.filterMap_nil, List.append_nil] at e
    exact ⟨hs _ fun b hb => put_o hb, put_at, by rw [e]; exact hK⟩
  | cons y ys ih =>
    intro acc e hm hz
    rw [compLoop]
    refine ⟨hs _ fun b hb => put_o hb, hf y (hm y (by simp)) _ (fun b hb => put_o hb) _ ?_⟩
    cases q : g y with
    | none =>
      simp only
      exact ih acc (by rw [← e, List.filterMap_cons, q]) (fun z hz => hm z (by simp [hz])) (by simp at hz; omega)
    | some d =>
      simp only
      refine ⟨put_at, by simp at hz; omega, ?_⟩
      rw [put_put]
      refine ih (acc ++ [d]) ?_ (fun z hz => hm z (by simp [hz])) (by simp at hz ⊢; omega)
      rw [← e, List.filterMap_cons, q]
      simp
end Cr


/-! CrV: more for going through Core by hand: comprehensions over anything, lists at hand, draws. -/
namespace Cr
open PySem
@[simp] theorem opBi_minT {xs : List D} {K : D → Prop} : opBi .min [.tup xs] K = ∃ ns, intsOf xs = some ns ∧ ns ≠ [] ∧ ∀ m, m ∈ ns → (∀ y ∈ ns, m ≤ y) → K (.int m) := rfl
@[simp] theorem opBi_maxT {xs : List D} {K : D → Prop} : opBi .max [.tup xs] K = ∃ ns, intsOf xs = some ns ∧ ns ≠ [] ∧ ∀ m, m ∈ ns → (∀ y ∈ ns, y ≤ m) → K (.int m) := rfl
@[simp] theorem opBi_minL {xs : List D} {K : D → Prop} : opBi .min [.lst xs] K = ∃ ns, intsOf xs = some ns ∧ ns ≠ [] ∧ ∀ m, m ∈ ns → (∀ y ∈ ns, m ≤ y) → K (.int m) := rfl
@[simp] theorem opBi_maxL {xs : List D} {K : D → Prop} : opBi .max [.lst xs] K = ∃ ns, intsOf xs = some ns ∧ ns ≠ [] ∧ ∀ m, m ∈ ns → (∀ y ∈ ns, y ≤ m) → K (.int m) := rfl
@[simp] theorem opBi_ls {s : List Nat} {K : D → Prop} : opBi .len [.str s] K = (s.length ≤ line ∧ K (.int s.length)) := rfl
@[simp] theorem opBi_is {s : List Nat} {K : D → Prop} : opBi .int [.str s] K = (s.length ≤ 640 ∧ ∃ n, intD s = some n ∧ K (.int n)) := rfl
@[simp] theorem opBi_si {i : Int} {K : D → Prop} : opBi .str [.int i] K = (i.natAbs.log2 < 1920 ∧ K (.str (strI i))) := rfl
@[simp] theorem opBi_tt {xs : List D} {K : D → Prop} : opBi .tuple [.tup xs] K = K (.tup xs) := rfl
@[simp] theorem opBi_list {xs : List D} {K : D → Prop} : opBi .list [.lst xs] K = K (.lst xs) := rfl
@[simp] theorem opBi_any {xs : List D} {K : D → Prop} : opBi .any [.lst xs] K = ∃ bs, boolsOf xs = some bs ∧ K (.bl (bs.any id)) := rfl
@[simp] theorem opSl_s {s : List Nat} {lo hi : Option Int} {K : D → Prop} : opSl (.str s) lo hi K = (s.length ≤ line ∧ K (.str (cut s lo hi))) := rfl
@[simp] theorem opIx_s {s : List Nat} {i : Int} {K : D → Prop} : opIx (.str s) (.int i) K = (s.length ≤ line ∧ ∃ c, atI s i = some c ∧ K (.str [c])) := rfl
@[simp] theorem opC_in1 {c : Nat} {y : List Nat} {K : Bool → Prop} : opC .inn (.str [c]) (.str y) K = K (decide (c ∈ y)) := rfl
@[simp] theorem opC_nin1 {c : Nat} {y : List Nat} {K : Bool → Prop} : opC .nin (.str [c]) (.str y) K = K (!decide (c ∈ y)) := rfl
@[simp] theorem opC_isn {x : D} {K : Bool → Prop} : opC .is x .non K = K (isNon x) := by cases x <;> rfl
@[simp] theorem opC_isnn {x : D} {K : Bool → Prop} : opC .isn x .non K = K (!isNon x) := by cases x <;> rfl
@[simp] theorem isNon_i {i : Int} : isNon (.int i) = false := rfl
@[simp] theorem isNon_t {xs : List D} : isNon (.tup xs) = false := rfl
@[simp] theorem isNon_s {xs : List Nat} : isNon (.str xs) = false := rfl
@[simp] theorem isNon_n : isNon .non = true := rfl
@[simp] theorem opC_niL {x : D} {ys : List D} {K : Bool → Prop} : opC .nin x (.lst ys) K = (flatD dep x = true ∧ flatDs dep ys = true ∧ K (!inD x ys)) := by cases x <;> rfl
@[simp] theorem opC_inL {x : D} {ys : List D} {K : Bool → Prop} : opC .inn x (.lst ys) K = (flatD dep x = true ∧ flatDs dep ys = true ∧ K (inD x ys)) := by cases x <;> rfl
@[simp] theorem opC_inT {x : D} {ys : List D} {K : Bool → Prop} : opC .inn x (.tup ys) K = (flatD dep x = true ∧ flatDs dep ys = true ∧ K (inD x ys)) := by cases x <;> rfl
@[simp] theorem opC_inD {x : D} {ks vs : List D} {K : Bool → Prop} : opC .inn x (.dct ks vs) K = (isKey x = true ∧ K (lookD x ks vs).isSome) := by cases x <;> rfl
@[simp] theorem opC_ninD {x : D} {ks vs : List D} {K : Bool → Prop} : opC .nin x (.dct ks vs) K = (isKey x = true ∧ K (!(lookD x ks vs).isSome)) := by cases x <;> rfl
@[simp] theorem opBm_join {s : List Nat} {xs : List D} {K : D → Prop} : opBm .join (.str s) [.lst xs] K = ∃ ps, strsOf xs = some ps ∧ joinLen s.length ps ≤ line ∧ K (.str (TL.joinL s ps)) := rfl
@[simp] theorem opBm_split {s : List Nat} {c : Nat} {K : D → Prop} : opBm .split (.str s) [.str [c]] K = (s.length + 2 ≤ line ∧ c < 256 ∧ K (.lst ((splitC c s).map D.str))) := rfl
@[simp] theorem items_s {s : List Nat} : items (.str s) = some (s.map fun c => .str [c]) := rfl
@[simp] theorem items_l {s : List D} : items (.lst s) = some s := rfl
@[simp] theorem items_t {s : List D} : items (.tup s) = some s := rfl
@[simp] theorem seqSrc_d {μ : Store} {x : D} {K : Option (Nat × Cell) → List D → Prop} : seqSrc μ (.d x) K = (match items x with | some xs => K none xs | none => False) := rfl
@[simp] theorem opB_mt {x : List D} {k : Int} {K : D → Prop} : opB .mul (.tup x) (.int k) K = (x ≠ [] ∧ 1 ≤ k ∧ k ≤ 1000 ∧ x.length ≤ 1000 ∧ K (.tup (List.replicate k.toNat x).flatten)) := rfl
@[simp] theorem opRev_t {x : List D} {K : D → Prop} : opRev (.tup x) K = K (.tup x.reverse) := rfl
@[simp] theorem opRev_l {x : List D} {K : D → Prop} : opRev (.lst x) K = K (.lst x.reverse) := rfl
theorem rep1 {n : Nat} {x : D} : (List.replicate n [x]).flatten = List.replicate n x := by
  induction n with
  | zero => rfl
  | succ n ih => rw [List.replicate_succ, List.flatten_cons, ih]; rfl
theorem put_comm {μ : Store} {a b : Nat} {c d : Cell} (h : a ≠ b) : put (put μ a c) b d = put (put μ b d) a c := by
  funext z
  by_cases e1 : z = a <;> by_cases e2 : z = b <;> simp [put, e1, e2, h, Ne.symm h]
/-- comprehensions over anything -/
theorem comp_fm {α : Type} {a : Nat} {src : Option (Nat × Cell)} {f : D → Store → (Option D → Store → Prop) → Prop} {μ : Store} {K : List D → Store → Prop} (l : List α) (e : α → D) (g : α → Option D) (hs : ∀ μ1, (∀ b, b ≠ a → μ1 b = μ b) → still src μ1) (hl : l.length ≤ line)
    (hf : ∀ x ∈ l, ∀ μ1, (∀ b, b ≠ a → μ1 b = μ b) → ∀ Kc, Kc (g x) μ1 → f (e x) μ1 Kc) (hK : K (l.filterMap g) (put μ a (.lst (l.filterMap g)))) : compLoop a src f (l.map e) [] (put μ a (.lst [])) K := by
  suffices q : ∀ (ys : List α) (acc : List D), acc ++ ys.filterMap g = l.filterMap g → (∀ y ∈ ys, y ∈ l) → acc.length + ys.length ≤ line → compLoop a src f (ys.map e) acc (put μ a (.lst acc)) K from q l [] rfl (fun _ h => h) (by simpa using hl)
  intro ys
  induction ys with
  | nil =>
    intro acc e1 _ _
    rw [List.map_nil, compLoop]
    simp only [List.filterMap_nil, List.append_nil] at e1
    exact ⟨hs _ fun b hb => put_o hb, put_at, by rw [e1]; exact hK⟩
  | cons y ys ih =>
    intro acc e1 hm hz
    rw [List.map_cons, compLoop]
    refine ⟨hs _ fun b hb => put_o hb, hf y (hm y (by simp)) _ (fun b hb => put_o hb) _ ?_⟩
    cases q : g y with
    | none =>
      simp only
      exact ih acc (by rw [← e1, List.filterMap_cons, q]) (fun z hz => hm z (by simp [hz])) (by simp at hz; omega)
    | some d =>
      simp only
      refine ⟨put_at, by simp at hz; omega, ?_⟩
      rw [put_put]
      refine ih (acc ++ [d]) ?_ (fun z hz => hm z (by simp [hz])) (by simp at hz ⊢; omega)
      rw [← e1, List.filterMap_cons, q]
      simp
theorem compM {α : Type} {a : Nat} {src : Option (Nat × Cell)} {f : D → Store → (Option D → Store → Prop) → Prop} {μ : Store} {K : List D → Store → Prop} (l : List α) (e : α → D) (g : α → D) (hs : ∀ μ1, (∀ b, b ≠ a → μ1 b = μ b) → still src μ1) (hl : l.length ≤ line)
    (hf : ∀ x ∈ l, ∀ μ1, (∀ b, b ≠ a → μ1 b = μ b) → ∀ Kc, Kc (some (g x)) μ1 → f (e x) μ1 Kc) (hK : K (l.map g) (put μ a (.lst (l.map g)))) : compLoop a src f (l.map e) [] (put μ a (.lst [])) K := by
  have e0 : l.filterMap (fun x => some (g x)) = l.map g := by induction l <;> simp_all
  refine comp_fm l e (fun x => some (g x)) hs hl hf ?_
  rw [e0]; exact hK
/-- a comprehension whose items change something -/
theorem comp_st {a : Nat} {src : Option (Nat × Cell)} {f : D → Store → (Option D → Store → Prop) → Prop} {xs : List D} {μ : Store} {K : List D → Store → Prop} (I : Nat → List D → Store → Prop) (h0 : I 0 [] μ) (hl : xs.length ≤ line)
    (hs : ∀ i acc μ1, I i acc μ1 → still src (put μ1 a (.lst acc)))
    (step : ∀ i x acc μ1, xs[i]? = some x → I i acc μ1 → ∀ Kc : Option D → Store → Prop, (∀ d μ2, I (i + 1) (acc ++ [d]) μ2 → Kc (some d) (put μ2 a (.lst acc))) → (∀ μ2, I (i + 1) acc μ2 → Kc none (put μ2 a (.lst acc))) → f x (put μ1 a (.lst acc)) Kc)
    (done : ∀ acc μ1, I xs.length acc μ1 → K acc (put μ1 a (.lst acc))) : compLoop a src f xs [] (put μ a (.lst [])) K := by
  suffices q : ∀ (ys : List D) (i : Nat) (acc : List D) (μ1 : Store), xs.drop i = ys → i ≤ xs.length → acc.length ≤ i → I i acc μ1 → compLoop a src f ys acc (put μ1 a (.lst acc)) K from q xs 0 [] μ rfl (Nat.zero_le _) (Nat.le_refl _) h0
  intro ys
  induction ys with
  | nil =>
    intro i acc μ1 e hi hz h
    have : i = xs.length := by have := congrArg List.length e; simp at this; omega
    subst this
    rw [compLoop]
    exact ⟨hs _ _ _ h, put_at, done _ _ h⟩
  | cons y ys ih =>
    intro i acc μ1 e hi hz h
    have hlt : i < xs.length := by have := congrArg List.length e; simp at this; omega
    have ey : xs[i]? = some y := by
      rw [List.drop_eq_getElem_cons hlt] at e
      rw [List.getElem?_eq_getElem hlt, (List.cons.inj e).1]
    have er : xs.drop (i + 1) = ys := by
      rw [List.drop_eq_getElem_cons hlt] at e
      exact (List.cons.inj e).2
    rw [compLoop]
    refine ⟨hs _ _ _ h, step i y acc μ1 ey h _ (fun d μ2 h2 => ?_) fun μ2 h2 => ?_⟩
    · refine ⟨put_at, by omega, ?_⟩
      rw [put_put]
      exact ih (i + 1) _ _ er hlt (by simp; omega) h2
    · exact ih (i + 1) _ _ er hlt (by omega) h2
theorem bools_map {α : Type} {l : List α} {b : α → Bool} : boolsOf (l.map fun x => D.bl (b x)) = some (l.map b) := by
  induction l with
  | nil => rfl
  | cons a l ih => simp [boolsOf, ih]
theorem intsM {α : Type} {l : List α} {b : α → Int} : intsOf (l.map fun x => D.int (b x)) = some (l.map b) := by
  induction l with
  | nil => rfl
  | cons a l ih => simp [intsOf, ih]
theorem strs_map {α : Type} {l : List α} {b : α → List Nat} : strsOf (l.map fun x => D.str (b x)) = some (l.map b) := by
  induction l with
  | nil => rfl
  | cons a l ih => simp [strsOf, ih]
theorem all_map {α : Type} {l : List α} {b : α → Bool} : (l.map b).all id = l.all b := by induction l <;> simp_all
theorem any_map {α : Type} {l : List α} {b : α → Bool} : (l.map b).any id = l.any b := by induction l <;> simp_all
theorem enum_get {xs : List D} : ∀ {i : Int} {k : Nat} {d : D}, (enumD i xs)[k]? = some d → ∃ x, xs[k]? = some x ∧ d = .tup [.int (i + k), x] := by
  induction xs with
  | nil => intro i k d h; simp [enumD] at h
  | cons x xs ih =>
    intro i k d h
    cases k with
    | zero => simp [enumD] at h; exact ⟨x, rfl, by rw [← h]; simp⟩
    | succ k =>
      obtain ⟨y, e1, e2⟩ := ih (i := i + 1) (k := k) (by simpa [enumD] using h)
      refine ⟨y, by simpa using e1, ?_⟩
      rw [e2]
      have : i + 1 + (k : Int) = i + ((k + 1 : Nat) : Int) := by omega
      rw [this]
@[simp] theorem enum_len {xs : List D} : ∀ {i : Int}, (enumD i xs).length = xs.length := by
  induction xs with
  | nil => intro i; rfl
  | cons x xs ih => intro i; simp [enumD, ih]
theorem range_map {n : Nat} : rangeD 0 n = (List.range n).map fun k : Nat => D.int (k : Int) := by
  unfold rangeD
  have : ((n : Int) - 0).toNat = n := by omega
  rw [this]
  exact List.map_congr_left fun x _ => by simp
/-- numbers, bounds -/
theorem small_log {n : Nat} (h : n < 2 ^ 64) : n.log2 < 64 := by
  by_cases e : n = 0
  · subst e; decide
  · exact (Nat.log2_lt e).mpr h
theorem lt_log {n k : Nat} (h : n < 2 ^ k) (hk : 0 < k) : n.log2 < k := by
  by_cases e : n = 0
  · subst e
    have : (0 : Nat).log2 = 0 := by decide
    omega
  · exact (Nat.log2_lt e).mpr h
theorem mulOk_b {i j : Int} (hi : i.natAbs < 2 ^ 1000) (hj : j.natAbs < 2 ^ 1000) : Cr.MulOk i j := by
  have a := lt_log hi (by decide)
  have b := lt_log hj (by decide)
  unfold Cr.MulOk
  omega
theorem fmod_lt {a b : Int} (h : 0 < b) : 0 ≤ a.fmod b ∧ a.fmod b < b := by
  rw [Int.fmod_eq_emod_of_nonneg a (by omega)]
  exact ⟨Int.emod_nonneg a (by omega), Int.emod_lt_of_pos a h⟩
theorem big1000 {n : Nat} (h : n < 1000000000000000000000) : n < 2 ^ 1000 := by
  have : (1000000000000000000000 : Nat) < 2 ^ 1000 := by decide +kernel
  omega
/-- texts -/
theorem cut1 {α : Type} {s : List α} : cut s none (some 1) = s.take 1 := by
  unfold cut sIx
  cases s <;> simp
theorem cutF {α : Type} {s : List α} {k : Nat} : cut s (some (k : Int)) none = s.drop k := by
  unfold cut sIx
  have h : ¬ ((k : Int) < 0) := by omega
  simp only [h, if_false, Int.toNat_natCast]
  by_cases e : k ≤ s.length
  · rw [Nat.min_eq_left e, List.take_of_length_le (by simp)]
  · rw [Nat.min_eq_right (by omega)]
    rw [List.drop_eq_nil_of_le (Nat.le_refl _), List.drop_eq_nil_of_le (by omega : s.length ≤ k)]
    simp
theorem cutT {α : Type} {s : List α} {k : Nat} : cut s none (some (k : Int)) = s.take k := by
  unfold cut sIx
  have h : ¬ ((k : Int) < 0) := by omega
  simp only [h, if_false, Int.toNat_natCast, Nat.sub_zero, List.drop_zero]
  by_cases e : k ≤ s.length
  · rw [Nat.min_eq_left e]
  · rw [Nat.min_eq_right (by omega), List.take_of_length_le (Nat.le_refl _), List.take_of_length_le (by omega)]
theorem cutFT {α : Type} {s : List α} {i j : Nat} (h : i ≤ j) : cut s (some (i : Int)) (some (j : Int)) = (s.drop i).take (j - i) := by
  unfold cut sIx
  have h1 : ¬ ((i : Int) < 0) := by omega
  have h2 : ¬ ((j : Int) < 0) := by omega
  simp only [h1, h2, if_false, Int.toNat_natCast]
  by_cases e : j ≤ s.length
  · rw [Nat.min_eq_left e, Nat.min_eq_left (by omega : i ≤ s.length)]
  · rw [Nat.min_eq_right (by omega : s.length ≤ j)]
    by_cases e2 : i ≤ s.length
    · rw [Nat.min_eq_left e2, List.take_of_length_le (by simp), List.take_of_length_le (by simp; omega)]
    · rw [Nat.min_eq_right (by omega), List.drop_eq_nil_of_le (Nat.le_refl _), List.drop_eq_nil_of_le (by omega : s.length ≤ i)]
      simp
@[simp] theorem atI_0 {α : Type} {c : α} {r : List α} : atI (c :: r) 0 = some c := by
  have := atI_nat (xs := c :: r) (i := 0) (by simp)
  simpa using this
@[simp] theorem atI_1 {α : Type} {b c : α} {r : List α} : atI (b :: c :: r) 1 = some c := by
  have := atI_nat (xs := b :: c :: r) (i := 1) (by simp)
  simpa using this
@[simp] theorem atI_2 {α : Type} {a b c : α} {r : List α} : atI (a :: b :: c :: r) 2 = some c := by
  have := atI_nat (xs := a :: b :: c :: r) (i := 2) (by simp)
  simpa using this
theorem ga_fld {G : Prog} {call : Nat → List A → Store → KA → KX → Prop} {μ : Store} {a v : A} {c f i : Nat} {ci : CInfo} {K : KA} {E : KX} (h1 : clsOf μ a = some c) (h2 : G.cls[c]? = some ci) (h3 : lookN f ci.props = none) (h4 : idxN f ci.fields = some i) (h5 : fldOf μ i a = some v) : getAttr G call a f μ K E = K v μ := by
  simp only [getAttr, h1, h2, h3, h4, h5]
theorem clsOf_p {μ : Store} {n c : Nat} {fs : List (Option A)} (h : μ n = some (.obj c fs)) : clsOf μ (.ptr n) = some c := by simp [clsOf, h]
theorem fldOf_p {μ : Store} {n c i : Nat} {fs : List (Option A)} {v : A} (h : μ n = some (.obj c fs)) (e : fs[i]? = some (some v)) : fldOf μ i (.ptr n) = some v := by simp [fldOf, h, e]
theorem setFld_p {G : Prog} {μ : Store} {n c f i : Nat} {fs : List (Option A)} {ci : CInfo} {a : A} {K : Store → Prop} (h : μ n = some (.obj c fs)) (h2 : G.cls[c]? = some ci) (h3 : lookN f ci.props = none) (h4 : idxN f ci.fields = some i) (k : K (put μ n (.obj c (fs.set i (some a))))) : setFld G (.ptr n) f a μ K := by
  simp only [setFld, h, h2, h3, h4]; exact k
theorem atI_last {α : Type} {xs : List α} (h : xs ≠ []) : atI xs (-1) = xs.getLast? := by
  have hl : 0 < xs.length := List.length_pos_iff.mpr h
  unfold atI ixN
  rw [if_neg (by omega), if_pos (by omega)]
  have : ((-1 : Int) + (xs.length : Int)).toNat = xs.length - 1 := by omega
  simp only [Option.bind_some, this]
  rw [List.getLast?_eq_getElem?]
theorem splitC_nn {c : Nat} : ∀ s : List Nat, splitC c s ≠ []
  | [] => by simp [splitC]
  | x :: r => by
    unfold splitC
    split
    · simp
    · split <;> simp
theorem splitC_len {c : Nat} : ∀ (s : List Nat), ∀ p ∈ splitC c s, p.length ≤ s.length
  | [], p, h => by simp [splitC] at h; subst h; simp
  | x :: r, p, h => by
    have ih := splitC_len (c := c) r
    unfold splitC at h
    split at h
    · rcases List.mem_cons.mp h with e | e
      · subst e; simp
      · have := ih p e; simp; omega
    · split at h
      · simp at h; subst h; simp
      · rename_i q qs e
        rcases List.mem_cons.mp h with z | z
        · subst z
          have := ih q (by rw [e]; simp)
          simp; omega
        · have := ih p (by rw [e]; simp [z]); simp; omega
theorem splitC_count {c : Nat} : ∀ (s : List Nat), (splitC c s).length ≤ s.length + 1
  | [] => by simp [splitC]
  | x :: r => by
    have ih := splitC_count (c := c) r
    unfold splitC
    split
    · simp; omega
    · split
      · simp
      · rename_i q qs e
        rw [e] at ih
        simp at ih ⊢; omega
theorem splitC_none {c : Nat} : ∀ {s : List Nat}, c ∉ s → splitC c s = [s]
  | [], _ => rfl
  | x :: r, h => by
    have h1 : x ≠ c := fun e => h (by simp [e])
    have h2 := splitC_none (c := c) (s := r) fun z => h (by simp [z])
    simp [splitC, h1, h2]
theorem splitC_cut {c : Nat} : ∀ {s t : List Nat}, c ∉ s → splitC c (s ++ c :: t) = s :: splitC c t
  | [], t, _ => by simp [splitC]
  | x :: r, t, h => by
    have h1 : x ≠ c := fun e => h (by simp [e])
    have h2 := splitC_cut (c := c) (s := r) (t := t) fun z => h (by simp [z])
    simp [splitC, h1, h2]
theorem split_join {c : Nat} : ∀ {ps : List (List Nat)}, ps ≠ [] → (∀ p ∈ ps, c ∉ p) → splitC c (TL.joinL [c] ps) = ps
  | [], h, _ => absurd rfl h
  | [p], _, h => by
    have : TL.joinL [c] [p] = p := by simp [TL.joinL]
    rw [this]
    exact splitC_none (h p (by simp))
  | p :: q :: r, _, h => by
    have : TL.joinL [c] (p :: q :: r) = p ++ c :: TL.joinL [c] (q :: r) := by simp [TL.joinL]
    rw [this, splitC_cut (h p (by simp)), split_join (by simp) fun z hz => h z (by simp [hz])]
/-- a comprehension over data -/
theorem compD {a : Nat} {src : Option (Nat × Cell)} {f : D → Store → (Option D → Store → Prop) → Prop} {μ : Store} {K : List D → Store → Prop} (xs : List D) (g : D → D) (hs : ∀ μ1, (∀ b, b ≠ a → μ1 b = μ b) → still src μ1) (hl : xs.length ≤ line)
    (hf : ∀ x ∈ xs, ∀ μ1, (∀ b, b ≠ a → μ1 b = μ b) → ∀ Kc, Kc (some (g x)) μ1 → f x μ1 Kc) (hK : K (xs.map g) (put μ a (.lst (xs.map g)))) : compLoop a src f xs [] (put μ a (.lst [])) K := by
  have := compM (K := K) (f := f) (src := src) (μ := μ) (a := a) xs id g hs hl hf hK
  rwa [List.map_id] at this
/-- a loop over a list, with what is left of it -/
theorem for_l {α : Type} {src : Option (Nat × Cell)} {ρ0 : Env} {f : D → Env → Store → Post → Prop} {ρ : Env} {μ : Store} {P : Post} (l : List α) (e : α → D) (I : List α → Env → Store → Prop) (h0 : I l ρ μ)
    (hs : ∀ r ρ μ, I r ρ μ → still src μ)
    (step : ∀ x r ρ μ nx', I (x :: r) ρ μ → (∀ ρ1 μ1, I r (mask ρ0 ρ1) μ1 → nx' ρ1 μ1) → f (e x) ρ μ { nx := nx', ct := nx', bk := fun ρ1 μ1 => P.nx (mask ρ0 ρ1) μ1, rt := P.rt, ex := P.ex })
    (done : ∀ ρ μ, I [] ρ μ → P.nx ρ μ) : forLoop src ρ0 f (l.map e) ρ μ P := by
  induction l generalizing ρ μ with
  | nil => rw [List.map_nil, forLoop]; exact ⟨hs _ _ _ h0, done _ _ h0⟩
  | cons x r ih =>
    rw [List.map_cons, forLoop]
    exact ⟨hs _ _ _ h0, step x r ρ μ (fun ρ1 μ1 => forLoop src ρ0 f (r.map e) (mask ρ0 ρ1) μ1 P) h0 fun ρ1 μ1 q => ih q⟩
end Cr


/-! CrX: dicts as functions of their keys. -/
namespace Cr
open PySem
@[simp] theorem opC_inS {x : D} {ks vs : List D} {K : Bool → Prop} : opC .inn x (.set [.lst ks, .lst vs]) K = (isKeyT x = true ∧ K (lookD x ks vs).isSome) := by cases x <;> rfl
@[simp] theorem opC_ninS {x : D} {ks vs : List D} {K : Bool → Prop} : opC .nin x (.set [.lst ks, .lst vs]) K = (isKeyT x = true ∧ K (!(lookD x ks vs).isSome)) := by cases x <;> rfl
@[simp] theorem opIx_S {k : D} {ks vs : List D} {K : D → Prop} : opIx (.set [.lst ks, .lst vs]) k K = (isKeyT k = true ∧ ∃ x, lookD k ks vs = some x ∧ K x) := by cases k <;> rfl
@[simp] theorem opIx_D {k : D} {ks vs : List D} {K : D → Prop} : opIx (.dct ks vs) k K = (isKey k = true ∧ ∃ x, lookD k ks vs = some x ∧ K x) := by cases k <;> rfl
@[simp] theorem opBm_getS {ks vs : List D} {k x : D} {K : D → Prop} : opBm .get (.set [.lst ks, .lst vs]) [k, x] K = (isKeyT k = true ∧ K ((lookD k ks vs).getD x)) := by cases k <;> rfl
@[simp] theorem opB_sh {i j : Int} {K : D → Prop} : opB .shl (.int i) (.int j) K = (0 ≤ j ∧ j ≤ 1000000 ∧ i.natAbs < 2 ^ 64 ∧ K (.int (i * 2 ^ j.toNat))) := rfl
@[simp] theorem opBi_minP {xs : List D} {K : D → Prop} : opBi .minP [.lst xs] K = ∃ ps, pairsI xs = some ps ∧ ps ≠ [] ∧ ∀ p, p ∈ ps → (∀ q ∈ ps, p.1 < q.1 ∨ (p.1 = q.1 ∧ p.2 ≤ q.2)) → K (.tup [.int p.1, .int p.2]) := rfl
@[simp] theorem opC_eqE {xs : List D} {K : Bool → Prop} : opC .eqE (.lst xs) (.lst []) K = K xs.isEmpty := rfl
@[simp] theorem opC_neE {xs : List D} {K : Bool → Prop} : opC .neE (.lst xs) (.lst []) K = K (!xs.isEmpty) := rfl
theorem rd_pT {μ : Store} {n : Nat} {ks vs : List D} {K : D → Prop} (h : μ n = some (.dcT ks vs)) : rd μ (.ptr n) K = K (.set [.lst ks, .lst vs]) := by simp [rd, vw, h]
theorem setSubT_p {n : Nat} {ks vs ds : List D} {v : D} {μ : Store} {K : Store → Prop} (e : μ n = some (.dcT ks vs)) (hk : ds.all isKey = true) (hl : ks.length < line) (h : K (put μ n (.dcT (putK (.tup ds) ks) (putV (.tup ds) v ks vs)))) : setSubT (.ptr n) ds (.d v) μ K := by
  simp only [setSubT, e, toD_d]
  exact ⟨hk, hl, trivial, h⟩
theorem put_lens {k v : D} : ∀ {ks vs : List D}, ks.length = vs.length → (putK k ks).length = (putV k v ks vs).length ∧ (putK k ks).length ≤ ks.length + 1
  | [], [], _ => by simp [putK, putV]
  | x :: ks, w :: vs, h => by
    simp only [putK, putV]
    split
    · simp at h ⊢; omega
    · have := put_lens (k := k) (v := v) (ks := ks) (vs := vs) (by simpa using h)
      simp; omega
theorem look_same {k v : D} (hk : eqD k k = true) : ∀ {ks vs : List D}, ks.length = vs.length → lookD k (putK k ks) (putV k v ks vs) = some v
  | [], [], _ => by simp [putK, putV, lookD, hk]
  | x :: ks, w :: vs, h => by
    simp only [putK, putV]
    by_cases e : eqD x k = true
    · simp [e, lookD]
    · have e' : eqD x k = false := by simpa using e
      simp [e', lookD]
      exact look_same hk (by simpa using h)
theorem look_other {k k' v : D} (hk : ∀ x, eqD x k = true → eqD x k' = true → False) (hs : eqD k k' = false) : ∀ {ks vs : List D}, ks.length = vs.length → lookD k' (putK k ks) (putV k v ks vs) = lookD k' ks vs
  | [], [], _ => by simp [putK, putV, lookD, hs]
  | x :: ks, w :: vs, h => by
    simp only [putK, putV]
    by_cases e : eqD x k = true
    · have e2 : eqD x k' = false := by
        cases q : eqD x k' with
        | false => rfl
        | true => exact (hk x e q).elim
      simp [e, e2, lookD]
    · have e' : eqD x k = false := by simpa using e
      simp only [e', Bool.false_eq_true, if_false, lookD]
      rw [look_other hk hs (by simpa using h)]
theorem eqD_ints {x : D} {i j : Int} (h1 : eqD x (.int i) = true) (h2 : eqD x (.int j) = true) : i = j := by
  cases x <;> simp [eqD] at h1 h2 <;> omega
theorem eqDs_ints : ∀ {xs : List D} {a b : List Int}, eqDs xs (a.map D.int) = true → eqDs xs (b.map D.int) = true → a = b
  | [], [], [], _, _ => rfl
  | [], [], _ :: _, _, h => by simp [eqDs] at h
  | [], _ :: _, _, h, _ => by simp [eqDs] at h
  | _ :: _, [], _, h, _ => by simp [eqDs] at h
  | _ :: _, _ :: _, [], _, h => by simp [eqDs] at h
  | x :: xs, a :: as, b :: bs, h1, h2 => by
    simp only [List.map_cons, eqDs, Bool.and_eq_true] at h1 h2
    rw [eqD_ints h1.1 h2.1, eqDs_ints h1.2 h2.2]
theorem eqDs_self : ∀ (a : List Int), eqDs (a.map D.int) (a.map D.int) = true
  | [] => rfl
  | a :: as => by simp [eqDs, eqD, eqDs_self as]
abbrev tk (a : List Int) : D := .tup (a.map D.int)
theorem eqD_tk {x : D} {a b : List Int} (h1 : eqD x (tk a) = true) (h2 : eqD x (tk b) = true) : a = b := by
  cases x <;> simp only [tk, eqD] at h1 h2 <;> first | exact eqDs_ints h1 h2 | cases h1
theorem isKeyT_tk {a : List Int} : isKeyT (tk a) = true := by
  simp [isKeyT, tk, isKey]
theorem keys_int {a : List Int} : (a.map D.int).all isKey = true := by simp [isKey]
/-- a dict with numbers for keys -/
def DI (c : Cell) (m : Int → Option D) (n : Nat) : Prop := ∃ ks vs, c = .dct ks vs ∧ ks.length = vs.length ∧ ks.length ≤ n ∧ ∀ i, lookD (.int i) ks vs = m i
/-- a dict with tuples of numbers for keys -/
def DT (c : Cell) (m : List Int → Option D) (n : Nat) : Prop := ∃ ks vs, c = .dcT ks vs ∧ ks.length = vs.length ∧ ks.length ≤ n ∧ ∀ a, lookD (tk a) ks vs = m a
theorem DI.nil : DI (.dct [] []) (fun _ => none) 0 := ⟨[], [], rfl, rfl, Nat.le_refl _, fun _ => rfl⟩
theorem DT.nil : DT (.dcT [] []) (fun _ => none) 0 := ⟨[], [], rfl, rfl, Nat.le_refl _, fun _ => rfl⟩
theorem DI.put {c : Cell} {m : Int → Option D} {n : Nat} (h : DI c m n) {b : Nat} {μ : Store} {i : Int} {v : D} {K : Store → Prop} (e : μ b = some c) (hn : n < line) (k : ∀ c', DI c' (fun j => if j = i then some v else m j) (n + 1) → K (put μ b c')) : setSub (.ptr b) (.d (.int i)) (.d v) μ K := by
  obtain ⟨ks, vs, rfl, h1, h2, h3⟩ := h
  refine setSub_d e rfl (by omega) (k _ ?_)
  have hl := put_lens (k := .int i) (v := v) h1
  refine ⟨_, _, rfl, hl.1, by omega, fun j => ?_⟩
  show _ = (if j = i then some v else m j)
  by_cases q : j = i
  · subst q
    rw [if_pos rfl]
    exact look_same (by simp [eqD]) h1
  · rw [if_neg q, ← h3 j]
    exact look_other (fun x e1 e2 => q (eqD_ints e1 e2).symm) (by simp [eqD]; exact fun z => q z.symm) h1
theorem DT.put {c : Cell} {m : List Int → Option D} {n : Nat} (h : DT c m n) {b : Nat} {μ : Store} {a : List Int} {v : D} {K : Store → Prop} (e : μ b = some c) (hn : n < line) (k : ∀ c', DT c' (fun j => if j = a then some v else m j) (n + 1) → K (put μ b c')) : setSubT (.ptr b) (a.map D.int) (.d v) μ K := by
  obtain ⟨ks, vs, rfl, h1, h2, h3⟩ := h
  refine setSubT_p e keys_int (by omega) (k _ ?_)
  have hl := put_lens (k := .tup (a.map D.int)) (v := v) h1
  refine ⟨_, _, rfl, hl.1, by omega, fun j => ?_⟩
  show _ = (if j = a then some v else m j)
  by_cases q : j = a
  · subst q
    rw [if_pos rfl]
    exact look_same (by simp only [eqD]; exact eqDs_self _) h1
  · rw [if_neg q, ← h3 j]
    refine look_other (fun x e1 e2 => q (eqD_tk e1 e2).symm) ?_ h1
    cases z : eqD (.tup (a.map D.int)) (tk j) with
    | false => rfl
    | true => exact absurd (eqD_tk (x := .tup (a.map D.int)) (by simp only [tk, eqD]; exact eqDs_self _) z).symm q
theorem DI.rd {c : Cell} {m : Int → Option D} {n : Nat} (h : DI c m n) {b : Nat} {μ : Store} {i : Int} {v : D} {K : D → Prop} (e : μ b = some c) (hm : m i = some v) (k : K v) : Cr.rd μ (.ptr b) fun u => opIx u (.int i) K := by
  obtain ⟨ks, vs, rfl, h1, h2, h3⟩ := h
  rw [rd_pd e, opIx_D]
  exact ⟨rfl, v, by rw [h3, hm], k⟩
theorem DT.rd {c : Cell} {m : List Int → Option D} {n : Nat} (h : DT c m n) {b : Nat} {μ : Store} {a : List Int} {v : D} {K : D → Prop} (e : μ b = some c) (hm : m a = some v) (k : K v) : Cr.rd μ (.ptr b) fun u => opIx u (.tup (a.map D.int)) K := by
  obtain ⟨ks, vs, rfl, h1, h2, h3⟩ := h
  rw [rd_pT e, opIx_S]
  exact ⟨isKeyT_tk, v, by rw [← hm, ← h3], k⟩
end Cr


namespace K36
open PySem Cr
abbrev i_is_integer : Nat := 0
abbrev i_is_between : Nat := 1
abbrev i_are_numbers : Nat := 2
abbrev i_check_weights : Nat := 3
abbrev i_check_gaps : Nat := 4
abbrev i_AllSpans___init__ : Nat := 5
abbrev i_AllSpans_both : Nat := 6
abbrev i_AllSpans_tree : Nat := 7
abbrev i_AllSpans_least_of : Nat := 8
abbrev i_told_best : Nat := 9
abbrev i_best_tree : Nat := 10
abbrev i_pairs_by : Nat := 11
abbrev i_pairing_by : Nat := 12
abbrev i_best_pairing : Nat := 13
abbrev i_asks_by : Nat := 14
abbrev i_shows_best_pairing : Nat := 15
abbrev i_free_pairing : Nat := 16
abbrev i__law_pot : Nat := 17
abbrev i__law_take : Nat := 18
abbrev i__law_of : Nat := 19
abbrev i__law_cells : Nat := 20
abbrev i__law_odd : Nat := 21
abbrev i__law_bent : Nat := 22
abbrev i__law_is_int : Nat := 23
abbrev i__law_asks : Nat := 24
abbrev i__law_weights : Nat := 25
abbrev i__law_free : Nat := 26
abbrev i__law_pairings : Nat := 27
abbrev i__law_is_told : Nat := 28
abbrev i__law_right : Nat := 29
abbrev i_law : Nat := 30
abbrev a_own_best : Nat := 0
abbrev a___init__ : Nat := 1
abbrev a_both : Nat := 2
abbrev a_tree : Nat := 3
abbrev a_least_of : Nat := 4
abbrev c_AllSpans : Nat := 0
abbrev g_MOST_WEIGHTS : Nat := 0
abbrev g_MOST_WEIGHT : Nat := 1
def f_is_integer : Fn := ⟨1, 1, [.ret (.and (.isi (.slot 0) .int) (.not (.isi (.slot 0) .bool)))], true⟩
def f_is_between : Fn := ⟨3, 3, [.ret (.and (.call i_is_integer (.cons (.slot 0) .nil)) (.chain .le .le (.slot 1) (.slot 0) (.slot 2)))], true⟩
def f_are_numbers : Fn := ⟨3, 4, [.ife (.or (.not (.isi (.slot 0) .tuple)) (.not (.chain .le .le (.slot 1) (.bi .len false (.cons (.slot 0) .nil)) (.slot 2)))) [.ret (.lit (.bl false))] [], .ret (.bi .all false (.cons (.comp false (.call i_is_between (.cons (.slot 3) (.cons (.lit (.int 0)) (.cons (.glb g_MOST_WEIGHT) .nil)))) (.slot 3) (.seq (.slot 0)) .nil [3]) .nil))], true⟩
def f_check_weights : Fn := ⟨1, 1, [.ife (.not (.call i_are_numbers (.cons (.slot 0) (.cons (.lit (.int 1)) (.cons (.glb g_MOST_WEIGHTS) .nil))))) [.raise 0 (.lit .non)] []], true⟩
def f_check_gaps : Fn := ⟨2, 2, [.expr (.call i_check_weights (.cons (.slot 0) .nil)), .ife (.not (.call i_are_numbers (.cons (.slot 1) (.cons (.bin false .add (.bi .len false (.cons (.slot 0) .nil)) (.lit (.int 1))) (.cons (.bin false .add (.bi .len false (.cons (.slot 0) .nil)) (.lit (.int 1))) .nil))))) [.raise 0 (.lit .non)] []], true⟩
def f_AllSpans___init__ : Fn := ⟨3, 10, [.asg (.fld (.slot 0) a_own_best) .dctT, .asg (.slot 3) (.bi .len false (.cons (.slot 1) .nil)), .for_ (.slot 4) (.rng1 (.bin false .add (.slot 3) (.lit (.int 1)))) [.for_ (.slot 5) (.rng1 (.bin false .add (.bin false .sub (.slot 3) (.slot 4)) (.lit (.int 1)))) [.asg (.slot 6) (.bin false .sub (.bin false .add (.slot 5) (.slot 4)) (.lit (.int 1))), .asg (.slot 7) (.bin false .add (.bi .sum false (.cons (.sli false (.slot 1) (.yes (.slot 5)) (.yes (.bin false .add (.slot 6) (.lit (.int 1))))) .nil)) (.bi .sum false (.cons (.sli false (.slot 2) (.yes (.slot 5)) (.yes (.bin false .add (.slot 6) (.lit (.int 2))))) .nil))), .asg (.slot 8) (.comp false (.tup (.cons (.meth (.slot 0) a_both (.cons (.slot 5) (.cons (.slot 9) (.cons (.slot 6) .nil)))) (.cons (.slot 9) .nil))) (.slot 9) (.rng2 (.slot 5) (.bin false .add (.slot 6) (.lit (.int 1)))) .nil [9]), .asg (.subT (.attr (.slot 0) a_own_best) (.cons (.slot 5) (.cons (.slot 6) .nil))) (.ife (.cmp .neE (.slot 8) (.lst false .nil)) (.tup (.cons (.bin false .add (.slot 7) (.idx (.bi .minP false (.cons (.slot 8) .nil)) (.lit (.int 0)))) (.cons (.idx (.bi .minP false (.cons (.slot 8) .nil)) (.lit (.int 1))) .nil))) (.tup (.cons (.lit (.int 0)) (.cons (.lit .non) .nil))))]]], true⟩
def f_AllSpans_both : Fn := ⟨4, 4, [.ret (.bin false .add (.idx (.idx (.attr (.slot 0) a_own_best) (.tup (.cons (.slot 1) (.cons (.bin false .sub (.slot 2) (.lit (.int 1))) .nil)))) (.lit (.int 0))) (.idx (.idx (.attr (.slot 0) a_own_best) (.tup (.cons (.bin false .add (.slot 2) (.lit (.int 1))) (.cons (.slot 3) .nil)))) (.lit (.int 0))))], true⟩
def f_AllSpans_tree : Fn := ⟨3, 4, [.asg (.slot 3) (.idx (.idx (.attr (.slot 0) a_own_best) (.tup (.cons (.slot 1) (.cons (.slot 2) .nil)))) (.lit (.int 1))), .ret (.ife (.cmp .is (.slot 3) (.lit .non)) (.lit .non) (.tup (.cons (.slot 3) (.cons (.meth (.slot 0) a_tree (.cons (.slot 1) (.cons (.bin false .sub (.slot 3) (.lit (.int 1))) .nil))) (.cons (.meth (.slot 0) a_tree (.cons (.bin false .add (.slot 3) (.lit (.int 1))) (.cons (.slot 2) .nil))) .nil)))))], true⟩
def f_AllSpans_least_of : Fn := ⟨2, 2, [.ret (.idx (.idx (.attr (.slot 0) a_own_best) (.tup (.cons (.lit (.int 0)) (.cons (.bin false .sub (.slot 1) (.lit (.int 1))) .nil)))) (.lit (.int 0)))], true⟩
def f_told_best : Fn := ⟨2, 3, [.asg (.slot 2) (.ctor c_AllSpans true (.cons (.slot 0) (.cons (.slot 1) .nil))), .ret (.tup (.cons (.meth (.slot 2) a_least_of (.cons (.bi .len false (.cons (.slot 0) .nil)) .nil)) (.cons (.meth (.slot 2) a_tree (.cons (.lit (.int 0)) (.cons (.bin false .sub (.bi .len false (.cons (.slot 0) .nil)) (.lit (.int 1))) .nil))) .nil)))], true⟩
def f_best_tree : Fn := ⟨2, 2, [.expr (.call i_check_gaps (.cons (.slot 0) (.cons (.slot 1) .nil))), .ret (.call i_told_best (.cons (.slot 0) (.cons (.slot 1) .nil)))], true⟩
def f_pairs_by : Fn := ⟨1, 8, [.asg (.slot 1) .dctT, .for_ (.slot 2) (.rng2 (.lit (.int 1)) (.bin false .add (.bi .len false (.cons (.slot 0) .nil)) (.lit (.int 1)))) [.for_ (.slot 3) (.rng1 (.bin false .add (.bin false .sub (.bi .len false (.cons (.slot 0) .nil)) (.slot 2)) (.lit (.int 1)))) [.asg (.slot 4) (.bin false .sub (.bin false .add (.slot 3) (.slot 2)) (.lit (.int 1))), .asg (.slot 5) (.comp false (.tup (.cons (.bin false .add (.idx (.idx (.slot 1) (.tup (.cons (.slot 3) (.cons (.slot 7) .nil)))) (.lit (.int 0))) (.idx (.idx (.slot 1) (.tup (.cons (.bin false .add (.slot 7) (.lit (.int 1))) (.cons (.slot 4) .nil)))) (.lit (.int 0)))) (.cons (.slot 7) .nil))) (.slot 7) (.rng2 (.slot 3) (.slot 4)) .nil [7]), .asg (.slot 6) (.bi .sum false (.cons (.sli false (.slot 0) (.yes (.slot 3)) (.yes (.bin false .add (.slot 4) (.lit (.int 1))))) .nil)), .asg (.subT (.slot 1) (.cons (.slot 3) (.cons (.slot 4) .nil))) (.ife (.cmp .neE (.slot 5) (.lst false .nil)) (.tup (.cons (.bin false .add (.slot 6) (.idx (.bi .minP false (.cons (.slot 5) .nil)) (.lit (.int 0)))) (.cons (.idx (.bi .minP false (.cons (.slot 5) .nil)) (.lit (.int 1))) .nil))) (.tup (.cons (.lit (.int 0)) (.cons (.lit .non) .nil))))]], .ret (.slot 1)], false⟩
def f_pairing_by : Fn := ⟨3, 4, [.asg (.slot 3) (.idx (.idx (.slot 0) (.tup (.cons (.slot 1) (.cons (.slot 2) .nil)))) (.lit (.int 1))), .ret (.ife (.cmp .is (.slot 3) (.lit .non)) (.slot 1) (.tup (.cons (.call i_pairing_by (.cons (.slot 0) (.cons (.slot 1) (.cons (.slot 3) .nil)))) (.cons (.call i_pairing_by (.cons (.slot 0) (.cons (.bin false .add (.slot 3) (.lit (.int 1))) (.cons (.slot 2) .nil)))) .nil))))], true⟩
def f_best_pairing : Fn := ⟨1, 2, [.expr (.call i_check_weights (.cons (.slot 0) .nil)), .asg (.slot 1) (.call i_pairs_by (.cons (.slot 0) .nil)), .ret (.tup (.cons (.idx (.idx (.slot 1) (.tup (.cons (.lit (.int 0)) (.cons (.bin false .sub (.bi .len false (.cons (.slot 0) .nil)) (.lit (.int 1))) .nil)))) (.lit (.int 0))) (.cons (.call i_pairing_by (.cons (.slot 1) (.cons (.lit (.int 0)) (.cons (.bin false .sub (.bi .len false (.cons (.slot 0) .nil)) (.lit (.int 1))) .nil)))) .nil)))], true⟩
def f_asks_by : Fn := ⟨2, 6, [.par [(.slot 2), (.slot 3)] (.cons (.lst true .nil) (.cons (.lst true (.cons (.tup (.cons (.slot 1) (.cons (.lit (.int 0)) .nil))) .nil)) .nil)), .while_ (.cmp .neE (.slot 3) (.lst false .nil)) [.asg (.tup [(.slot 4), (.slot 5)]) (.bm .pop false (.slot 3) .nil), .ife (.call i_is_integer (.cons (.slot 4) .nil)) [.ife (.or (.cmp .ne (.slot 4) (.bi .len false (.cons (.slot 2) .nil))) (.cmp .ge (.slot 4) (.slot 0))) [.ret (.lit .non)] [], .expr (.bm .append false (.slot 2) (.cons (.slot 5) .nil))] [.ife (.or (.not (.isi (.slot 4) .tuple)) (.or (.cmp .ne (.bi .len false (.cons (.slot 4) .nil)) (.lit (.int 2))) (.cmp .gt (.slot 5) (.slot 0)))) [.ret (.lit .non)] [], .expr (.bm .extend false (.slot 3) (.cons (.lst false (.cons (.tup (.cons (.idx (.slot 4) (.lit (.int 1))) (.cons (.bin false .add (.slot 5) (.lit (.int 1))) .nil))) (.cons (.tup (.cons (.idx (.slot 4) (.lit (.int 0))) (.cons (.bin false .add (.slot 5) (.lit (.int 1))) .nil))) .nil))) .nil))]], .ret (.ife (.cmp .eq (.bi .len false (.cons (.slot 2) .nil)) (.slot 0)) (.slot 2) (.lit .non))], true⟩
def f_shows_best_pairing : Fn := ⟨2, 6, [.expr (.call i_check_weights (.cons (.slot 0) .nil)), .asg (.slot 2) (.idx (.idx (.call i_pairs_by (.cons (.slot 0) .nil)) (.tup (.cons (.lit (.int 0)) (.cons (.bin false .sub (.bi .len false (.cons (.slot 0) .nil)) (.lit (.int 1))) .nil)))) (.lit (.int 0))), .ife (.or (.not (.isi (.slot 1) .tuple)) (.or (.cmp .ne (.bi .len false (.cons (.slot 1) .nil)) (.lit (.int 2))) (.or (.not (.call i_is_integer (.cons (.idx (.slot 1) (.lit (.int 0))) .nil))) (.cmp .ne (.idx (.slot 1) (.lit (.int 0))) (.slot 2))))) [.ret (.lit (.bl false))] [], .asg (.slot 3) (.call i_asks_by (.cons (.bi .len false (.cons (.slot 0) .nil)) (.cons (.idx (.slot 1) (.lit (.int 1))) .nil))), .ret (.and (.cmp .isn (.slot 3) (.lit .non)) (.cmp .eq (.bi .sum false (.cons (.comp false (.bin false .mul (.slot 4) (.slot 5)) (.tup [(.slot 4), (.slot 5)]) (.zip (.slot 0) (.slot 3)) .nil [4, 5]) .nil)) (.slot 2)))], true⟩
def f_free_pairing : Fn := ⟨1, 4, [.expr (.call i_check_weights (.cons (.slot 0) .nil)), .par [(.slot 1), (.slot 2)] (.cons (.bi .sorted false (.cons (.slot 0) .nil)) (.cons (.lit (.int 0)) .nil)), .while_ (.cmp .gt (.bi .len false (.cons (.slot 1) .nil)) (.lit (.int 1))) [.asg (.slot 3) (.bin false .add (.idx (.slot 1) (.lit (.int 0))) (.idx (.slot 1) (.lit (.int 1)))), .asg (.slot 2) (.bin false .add (.slot 2) (.slot 3)), .asg (.slot 1) (.bi .sorted false (.cons (.lst false (.star (.sli false (.slot 1) (.yes (.lit (.int 2))) .no) (.cons (.slot 3) .nil))) .nil))], .ret (.slot 2)], true⟩
def f__law_pot : Fn := ⟨2, 5, [.asg (.slot 2) (.ife (.cmp .lt (.slot 1) (.bi .len false (.cons (.slot 0) .nil))) (.idx (.slot 0) (.slot 1)) (.bin false .add (.bin false .mul (.lit (.int 857)) (.slot 1)) (.lit (.int 587)))), .asg (.slot 3) (.bin false .mul (.bin false .mod (.bi .int false (.cons (.bi .abs false (.cons (.slot 2) .nil)) .nil)) (.bin false .pow (.bin false .pow (.lit (.int 10)) (.lit (.int 60))) (.lit (.int 5)))) (.bi .int false (.cons (.cmp .ge (.bi .abs false (.cons (.slot 2) .nil)) (.bin false .pow (.lit (.int 10)) (.lit (.int 18)))) .nil))), .asg (.slot 4) (.bin false .mod (.bi .int false (.cons (.slot 2) .nil)) (.lit (.int 2305843009213693951))), .ret (.lst true (.cons (.slot 3) (.cons (.bin false .mod (.bi .int false (.cons (.bin false .add (.bin false .add (.bin false .mul (.slot 4) (.lit (.int 71119))) (.bin false .mul (.bin false .mul (.lit (.int 9601)) (.slot 1)) (.slot 1))) (.lit (.int 1009))) .nil)) (.lit (.int 2305843009213693921))) (.cons (.lit (.int 0)) .nil))))], false⟩
def f__law_take : Fn := ⟨2, 5, [.ife (.cmp .gt (.idx (.slot 0) (.lit (.int 0))) (.lit (.int 0))) [.asg (.slot 4) (.bin false .mod (.bi .int false (.cons (.idx (.slot 0) (.lit (.int 0))) .nil)) (.slot 1)), .asg (.sub (.slot 0) (.lit (.int 0))) (.bin false .fdiv (.idx (.slot 0) (.lit (.int 0))) (.slot 1)), .ret (.slot 4)] [], .asg (.sub (.slot 0) (.lit (.int 2))) (.bin false .add (.idx (.slot 0) (.lit (.int 2))) (.lit (.int 1))), .asg (.slot 2) (.idx (.lst false (.cons (.lit (.int 2147483647)) (.cons (.lit (.int 2147483629)) (.cons (.lit (.int 2147483587)) (.cons (.lit (.int 2147483579)) (.cons (.lit (.int 2147483563)) .nil)))))) (.bin false .mod (.bi .int false (.cons (.idx (.slot 0) (.lit (.int 2))) .nil)) (.lit (.int 5)))), .asg (.slot 3) (.bin false .mod (.bi .int false (.cons (.bin false .pow (.bi .int false (.cons (.bin false .add (.bin false .add (.idx (.slot 0) (.lit (.int 1))) (.bin false .mul (.bin false .mul (.lit (.int 90931)) (.idx (.slot 0) (.lit (.int 2)))) (.idx (.slot 0) (.lit (.int 2))))) (.lit (.int 307))) .nil)) (.lit (.int 3))) .nil)) (.slot 2)), .asg (.slot 3) (.bin false .mod (.bi .int false (.cons (.bin false .mul (.slot 3) (.bin false .add (.bin false .mod (.bi .int false (.cons (.slot 3) .nil)) (.lit (.int 10601))) (.bin false .mul (.lit (.int 379)) (.idx (.slot 0) (.lit (.int 2)))))) .nil)) (.lit (.int 2305843009213693907))), .ret (.bin false .mod (.bi .int false (.cons (.bin false .fdiv (.slot 3) (.lit (.int 347))) .nil)) (.slot 1))], true⟩
def f__law_of : Fn := ⟨2, 2, [.ret (.idx (.slot 1) (.call i__law_take (.cons (.slot 0) (.cons (.bi .len false (.cons (.slot 1) .nil)) .nil))))], true⟩
def f__law_cells : Fn := ⟨2, 2, [.ret (.rng false (.cons (.bi .max false (.cons (.lit (.int 1)) (.cons (.bi .min false (.cons (.slot 1) (.cons (.bi .len false (.cons (.slot 0) .nil)) .nil))) .nil))) .nil))], true⟩
def f__law_odd : Fn := ⟨1, 2, [.asg (.slot 1) (.lst true (.cons (.lit .non) (.cons (.lit (.bl true)) (.cons (.lit (.bl false)) (.cons (.lit (.int 0)) (.cons (.lit (.int 1)) (.cons (.lit (.int (-1))) (.cons (.lit (.int 2)) (.cons (.lit (.int 9999)) (.cons (.lit (.int 10000)) (.cons (.lit (.str [])) (.cons (.lit (.str [97])) (.cons (.lit (.str [65])) (.cons (.lit (.str [98, 111, 111, 107])) (.cons (.lit (.str [97])) (.cons (.tup .nil) (.cons (.lst false .nil) (.cons .dct (.cons (.tup (.cons (.lit (.int 0)) .nil)) (.cons (.tup (.cons (.tup .nil) .nil)) (.cons (.lst false (.cons (.lit (.int 0)) .nil)) .nil))))))))))))))))))))), .expr (.bm .extend false (.slot 1) (.cons (.lst false (.cons (.tup (.cons (.lit (.str [97])) .nil)) (.cons (.tup (.cons (.lit (.str [97])) (.cons (.lit (.str [98])) .nil))) (.cons (.tup (.cons (.lit (.int 1)) (.cons (.lit (.int 2)) .nil))) (.cons (.tup (.cons (.lit .non) .nil)) (.cons (.tup (.cons (.lit (.str [97])) (.cons (.lit (.str [98])) (.cons (.lit (.int 1)) .nil)))) (.cons (.bin false .pow (.lit (.int 10)) (.lit (.int 11))) .nil))))))) .nil)), .ret (.call i__law_of (.cons (.slot 0) (.cons (.slot 1) .nil)))], true⟩
def f__law_bent : Fn := ⟨2, 4, [.ife (.and (.isi (.slot 1) .tuple) (.and (.cmp .ne (.slot 1) (.tup .nil)) (.cmp .gt (.call i__law_take (.cons (.slot 0) (.cons (.lit (.int 6)) .nil))) (.lit (.int 0))))) [.asg (.slot 2) (.call i__law_take (.cons (.slot 0) (.cons (.bi .len false (.cons (.slot 1) .nil)) .nil))), .ret (.bin false .add (.bin false .add (.sli false (.slot 1) .no (.yes (.slot 2))) (.tup (.cons (.call i__law_bent (.cons (.slot 0) (.cons (.idx (.slot 1) (.slot 2)) .nil))) .nil))) (.sli false (.slot 1) (.yes (.bin false .add (.slot 2) (.lit (.int 1)))) .no))] [], .ife (.isi (.slot 1) .tuple) [.asg (.slot 3) (.lst false (.cons (.bi .list false (.cons (.slot 1) .nil)) (.cons (.sli false (.slot 1) (.yes (.lit (.int 1))) .no) (.cons (.sli false (.slot 1) .no (.yes (.lit (.int (-1))))) (.cons (.bin false .add (.slot 1) (.sli false (.slot 1) (.yes (.lit (.int (-1)))) .no)) (.cons (.rev false (.slot 1)) (.cons (.tup .nil) (.cons (.lit .non) (.cons (.bin false .add (.slot 1) (.tup (.cons (.lit (.int 0)) .nil))) .nil))))))))), .ret (.call i__law_of (.cons (.slot 0) (.cons (.slot 3) .nil)))] [], .ife (.and (.isi (.slot 1) .int) (.not (.isi (.slot 1) .bool))) [.ret (.call i__law_of (.cons (.slot 0) (.cons (.lst false (.cons (.bin false .add (.slot 1) (.lit (.int 1))) (.cons (.bin false .sub (.slot 1) (.lit (.int 1))) (.cons (.cmp .eq (.slot 1) (.lit (.int 1))) (.cons (.bi .str false (.cons (.slot 1) .nil)) (.cons (.lit .non) (.cons (.lit (.int 0)) (.cons (.neg (.slot 1)) (.cons (.bin false .add (.slot 1) (.lit (.int 3))) .nil))))))))) .nil)))] [], .ife (.isi (.slot 1) .str) [.raise 0 (.lit .non)] [], .ret (.call i__law_odd (.cons (.slot 0) .nil))], true⟩
def f__law_is_int : Fn := ⟨1, 1, [.ret (.and (.isi (.slot 0) .int) (.not (.isi (.slot 0) .bool)))], true⟩
def f__law_asks : Fn := ⟨2, 7, [.par [(.slot 3), (.slot 4)] (.cons (.lst true .nil) (.cons (.lst true (.cons (.tup (.cons (.slot 1) (.cons (.lit (.int 0)) .nil))) .nil)) .nil)), .for_ (.slot 2) (.rng1 (.bin false .sub (.bin false .mul (.lit (.int 2)) (.slot 0)) (.lit (.int 1)))) [.ife (.cmp .eqE (.slot 4) (.lst false .nil)) [.ret (.lit .non)] [], .asg (.tup [(.slot 5), (.slot 6)]) (.bm .pop false (.slot 4) .nil), .ife (.call i__law_is_int (.cons (.slot 5) .nil)) [.ife (.cmp .ne (.slot 5) (.bi .len false (.cons (.slot 3) .nil))) [.ret (.lit .non)] [], .expr (.bm .append false (.slot 3) (.cons (.slot 6) .nil))] [.ife (.or (.not (.isi (.slot 5) .tuple)) (.cmp .ne (.bi .len false (.cons (.slot 5) .nil)) (.lit (.int 2)))) [.ret (.lit .non)] [], .expr (.bm .extend false (.slot 4) (.cons (.lst false (.cons (.tup (.cons (.idx (.slot 5) (.lit (.int 1))) (.cons (.bin false .add (.slot 6) (.lit (.int 1))) .nil))) (.cons (.tup (.cons (.idx (.slot 5) (.lit (.int 0))) (.cons (.bin false .add (.slot 6) (.lit (.int 1))) .nil))) .nil))) .nil))]], .ret (.ife (.and (.cmp .eq (.bi .len false (.cons (.slot 3) .nil)) (.slot 0)) (.cmp .eqE (.slot 4) (.lst false .nil))) (.slot 3) (.lit .non))], true⟩
def f__law_weights : Fn := ⟨2, 4, [.asg (.slot 2) (.call i__law_of (.cons (.slot 0) (.cons (.lst false (.cons (.lit (.int 2)) (.cons (.lit (.int 10)) (.cons (.lit (.int 1000)) .nil)))) .nil))), .ret (.bi .tuple false (.cons (.comp false (.bi .int false (.cons (.call i__law_take (.cons (.slot 0) (.cons (.slot 2) .nil))) .nil)) (.slot 3) (.rng1 (.slot 1)) .nil [3]) .nil))], true⟩
def f__law_free : Fn := ⟨1, 5, [.par [(.slot 2), (.slot 3)] (.cons (.bi .sorted false (.cons (.slot 0) .nil)) (.cons (.lit (.int 0)) .nil)), .for_ (.slot 1) (.rng1 (.bin false .sub (.bi .len false (.cons (.slot 0) .nil)) (.lit (.int 1)))) [.asg (.slot 4) (.bin false .add (.idx (.slot 2) (.lit (.int 0))) (.idx (.slot 2) (.lit (.int 1)))), .par [(.slot 3), (.slot 2)] (.cons (.bin false .add (.slot 3) (.slot 4)) (.cons (.bi .sorted false (.cons (.bin false .add (.sli false (.slot 2) (.yes (.lit (.int 2))) .no) (.lst false (.cons (.slot 4) .nil))) .nil)) .nil))], .ret (.bi .int false (.cons (.slot 3) .nil))], true⟩
def f__law_pairings : Fn := ⟨1, 9, [.asg (.slot 1) .dctT, .for_ (.slot 2) (.rng2 (.lit (.int 1)) (.bin false .add (.slot 0) (.lit (.int 1)))) [.for_ (.slot 3) (.rng1 (.bin false .add (.bin false .sub (.slot 0) (.slot 2)) (.lit (.int 1)))) [.asg (.slot 4) (.bin false .sub (.bin false .add (.slot 3) (.slot 2)) (.lit (.int 1))), .asg (.slot 5) (.ife (.cmp .eq (.slot 2) (.lit (.int 1))) (.lst true (.cons (.slot 3) .nil)) (.lst true .nil)), .for_ (.slot 6) (.rng2 (.slot 3) (.slot 4)) [.for_ (.slot 7) (.seq (.idx (.slot 1) (.tup (.cons (.slot 3) (.cons (.slot 6) .nil))))) [.expr (.bm .extend false (.slot 5) (.cons (.comp false (.tup (.cons (.slot 7) (.cons (.slot 8) .nil))) (.slot 8) (.seq (.idx (.slot 1) (.tup (.cons (.bin false .add (.slot 6) (.lit (.int 1))) (.cons (.slot 4) .nil))))) .nil [8]) .nil))]], .asg (.subT (.slot 1) (.cons (.slot 3) (.cons (.slot 4) .nil))) (.slot 5)]], .ret (.idx (.slot 1) (.tup (.cons (.lit (.int 0)) (.cons (.bin false .sub (.slot 0) (.lit (.int 1))) .nil))))], true⟩
def f__law_is_told : Fn := ⟨3, 6, [.ife (.or (.not (.isi (.slot 2) .tuple)) (.or (.cmp .ne (.bi .len false (.cons (.slot 2) .nil)) (.lit (.int 2))) (.or (.not (.call i__law_is_int (.cons (.idx (.slot 2) (.lit (.int 0))) .nil))) (.cmp .ne (.idx (.slot 2) (.lit (.int 0))) (.slot 1))))) [.ret (.lit (.bl false))] [], .asg (.slot 3) (.call i__law_asks (.cons (.bi .len false (.cons (.slot 0) .nil)) (.cons (.idx (.slot 2) (.lit (.int 1))) .nil))), .ret (.and (.cmp .isn (.slot 3) (.lit .non)) (.cmp .eq (.bi .sum false (.cons (.comp false (.bin false .mul (.slot 4) (.slot 5)) (.tup [(.slot 4), (.slot 5)]) (.zip (.slot 0) (.slot 3)) .nil [4, 5]) .nil)) (.slot 1)))], true⟩
def f__law_right : Fn := ⟨1, 13, [.asg (.slot 1) (.bin false .add (.lit (.int 1)) (.call i__law_take (.cons (.slot 0) (.cons (.lit (.int 6)) .nil)))), .asg (.slot 2) (.call i__law_weights (.cons (.slot 0) (.cons (.slot 1) .nil))), .asg (.slot 2) (.ife (.cmp .eq (.call i__law_take (.cons (.slot 0) (.cons (.lit (.int 3)) .nil))) (.lit (.int 0))) (.bi .tuple false (.cons (.bi .sorted false (.cons (.slot 2) .nil)) .nil)) (.slot 2)), .asg (.slot 3) (.call i__law_pairings (.cons (.slot 1) .nil)), .asg (.slot 4) (.bi .min false (.cons (.comp false (.bi .sum false (.cons (.comp false (.bin false .mul (.slot 11) (.slot 12)) (.tup [(.slot 11), (.slot 12)]) (.zip (.slot 2) (.call i__law_asks (.cons (.slot 1) (.cons (.slot 9) .nil)))) .nil [11, 12]) .nil)) (.slot 9) (.seq (.slot 3)) .nil [9]) .nil)), .par [(.slot 7), (.slot 8)] (.cons (.callK i_best_pairing 0 .nil (.cons (.slot 2) .nil)) (.cons (.callK i_free_pairing 0 .nil (.cons (.slot 2) .nil)) .nil)), .ife (.or (.cmp .ne (.bi .repr false (.cons (.idx (.slot 7) (.lit (.int 0))) .nil)) (.bi .repr false (.cons (.bi .int false (.cons (.slot 4) .nil)) .nil))) (.not (.call i__law_is_told (.cons (.slot 2) (.cons (.slot 4) (.cons (.slot 7) .nil)))))) [.ret (.lit (.bl false))] [], .ife (.or (.cmp .ne (.bi .repr false (.cons (.slot 8) .nil)) (.bi .repr false (.cons (.call i__law_free (.cons (.slot 2) .nil)) .nil))) (.not (.chain .le .le (.slot 8) (.slot 4) (.bin false .add (.slot 8) (.bi .sum false (.cons (.bi .list false (.cons (.slot 2) .nil)) .nil)))))) [.ret (.lit (.bl false))] [], .ife (.and (.cmp .inn (.bi .list false (.cons (.slot 2) .nil)) (.tup (.cons (.bi .sorted false (.cons (.slot 2) .nil)) (.cons (.rev false (.bi .sorted false (.cons (.slot 2) .nil))) .nil)))) (.cmp .ne (.slot 8) (.slot 4))) [.ret (.lit (.bl false))] [], .ife (.and (.cmp .gt (.slot 1) (.lit (.int 1))) (.cmp .ne (.idx (.call i_best_tree (.cons (.bin false .mul (.tup (.cons (.lit (.int 0)) .nil)) (.bin false .sub (.slot 1) (.lit (.int 1)))) (.cons (.slot 2) .nil))) (.lit (.int 0))) (.slot 4))) [.ret (.lit (.bl false))] [], .asg (.slot 5) (.lst true (.cons (.slot 7) (.cons (.rev false (.slot 7)) (.cons (.bi .list false (.cons (.slot 7) .nil)) (.cons (.tup (.cons (.bin false .add (.idx (.slot 7) (.lit (.int 0))) (.lit (.int 1))) (.cons (.idx (.slot 7) (.lit (.int 1))) .nil))) (.cons (.tup (.cons (.idx (.slot 7) (.lit (.int 0))) (.cons (.call i__law_of (.cons (.slot 0) (.cons (.slot 3) .nil))) .nil))) (.cons (.lit .non) (.cons (.call i__law_odd (.cons (.slot 0) .nil)) .nil)))))))), .expr (.bm .extend false (.slot 5) (.cons (.lst false (.cons (.tup (.cons (.idx (.slot 7) (.lit (.int 0))) (.cons (.lit (.int 0)) .nil))) (.cons (.tup (.cons (.idx (.slot 7) (.lit (.int 0))) (.cons (.tup (.cons (.idx (.slot 7) (.lit (.int 1))) (.cons (.slot 1) .nil))) .nil))) (.cons (.tup (.cons (.idx (.slot 7) (.lit (.int 0))) (.cons (.tup (.cons (.lit (.int 0)) (.cons (.idx (.slot 7) (.lit (.int 1))) .nil))) .nil))) (.cons (.tup (.cons (.cmp .eq (.slot 4) (.lit (.int 1))) (.cons (.idx (.slot 7) (.lit (.int 1))) .nil))) .nil))))) .nil)), .for_ (.slot 6) (.seq (.bin false .add (.slot 5) (.comp false (.call i__law_bent (.cons (.slot 0) (.cons (.slot 7) .nil))) (.slot 10) (.rng1 (.lit (.int 10))) .nil [10]))) [.ife (.cmp .ne (.bi .repr false (.cons (.callK i_shows_best_pairing 0 .nil (.cons (.slot 2) (.cons (.slot 6) .nil))) .nil)) (.bi .repr false (.cons (.call i__law_is_told (.cons (.slot 2) (.cons (.slot 4) (.cons (.slot 6) .nil)))) .nil))) [.ret (.lit (.bl false))] []], .ret (.lit (.bl true))], true⟩
def f_law : Fn := ⟨1, 4, [.for_ (.slot 1) (.seq (.call i__law_cells (.cons (.slot 0) (.cons (.lit (.int 2)) .nil)))) [.asg (.slot 2) (.call i__law_pot (.cons (.slot 0) (.cons (.slot 1) .nil))), .ife (.not (.bi .all false (.cons (.comp false (.call i__law_right (.cons (.slot 2) .nil)) (.slot 3) (.rng1 (.lit (.int 2))) .nil [3]) .nil))) [.ret (.lit (.bl false))] []], .ret (.lit (.bl true))], true⟩
def k_AllSpans : CInfo := ⟨[a_own_best], [], [(a_both, i_AllSpans_both), (a_tree, i_AllSpans_tree), (a_least_of, i_AllSpans_least_of)], some i_AllSpans___init__⟩
def G : Prog := ⟨[f_is_integer, f_is_between, f_are_numbers, f_check_weights, f_check_gaps, f_AllSpans___init__, f_AllSpans_both, f_AllSpans_tree, f_AllSpans_least_of, f_told_best, f_best_tree, f_pairs_by, f_pairing_by, f_best_pairing, f_asks_by, f_shows_best_pairing, f_free_pairing, f__law_pot, f__law_take, f__law_of, f__law_cells, f__law_odd, f__law_bent, f__law_is_int, f__law_asks, f__law_weights, f__law_free, f__law_pairings, f__law_is_told, f__law_right, f_law], [k_AllSpans], [.int 40, .int 999]⟩
@[simp] theorem gk_AllSpans : G.cls[c_AllSpans]? = some k_AllSpans := rfl
@[simp] theorem gg_MOST_WEIGHTS : G.glb[g_MOST_WEIGHTS]? = some (.int 40) := rfl
@[simp] theorem gg_MOST_WEIGHT : G.glb[g_MOST_WEIGHT]? = some (.int 999) := rfl
end K36


namespace K36
open PySem Cr
/-! lists of numbers -/
abbrev LD (l : List Nat) : List D := l.map fun n : Nat => D.int (n : Int)
abbrev LI (l : List Int) : List D := l.map D.int
theorem l0 : 0 ≤ line := by decide
theorem l1 : 1 ≤ line := by decide
theorem ints_LD (C : List Nat) : intsOf (LD C) = some (C.map fun c : Nat => (c : Int)) := intsM
theorem ints_LI (C : List Int) : intsOf (LI C) = some C := by
  have := intsM (l := C) (b := id)
  simpa using this
theorem LD_LI {r : List Nat} : LD r = LI (r.map fun n : Nat => (n : Int)) := by simp
theorem sum_cast (C : List Nat) : (C.map fun c : Nat => (c : Int)).sum = ((C.sum : Nat) : Int) := by
  induction C with
  | nil => rfl
  | cons c C ih => simp [ih]
/-! the pot: draws -/
def PotOk (x y z : Int) : Prop := 0 ≤ x ∧ x.natAbs < 2 ^ 1000 ∧ 0 ≤ y ∧ y < 2305843009213693951 ∧ 0 ≤ z
abbrev potC (x y z : Int) : Cell := .lst [.int x, .int y, .int z]
/-- a pot from which at most n numbers were made -/
def Pot (n : Nat) (c : Cell) : Prop := ∃ x y z, c = potC x y z ∧ PotOk x y z ∧ z ≤ n
theorem pot_mono {n m : Nat} {c : Cell} (h : n ≤ m) : Pot n c → Pot m c := fun ⟨x, y, z, e, o, l⟩ => ⟨x, y, z, e, o, by omega⟩
theorem at3 {x y z : D} : atI [x, y, z] 0 = some x ∧ atI [x, y, z] 1 = some y ∧ atI [x, y, z] 2 = some z := ⟨rfl, rfl, rfl⟩
theorem pot_ok {k : Nat} {ns : List Int} {p : Nat} (hp : p < 64) {μ : Store} {K : KA} {E : KX} (hK : ∀ a c, μ a = none → Pot 0 c → K (.ptr a) (put μ a c)) : callW G (k + 1) i__law_pot [.d (.lst (LI ns)), .d (.int p)] μ K E := by
  refine call_of (fn := f__law_pot) rfl rfl ?_
  simp [f__law_pot, wpSs, wpS, wpTA, wpE, wpEs, List.set]
  have pw1 : PowOk 10 60 := ⟨by omega, by decide +kernel⟩
  have pw2 : PowOk 1000000000000000000000000000000000000000000000000000000000000 5 := ⟨by omega, by decide +kernel⟩
  have pw3 : PowOk 10 18 := ⟨by omega, by decide +kernel⟩
  have m1 : Cr.MulOk 9601 (p : Int) := mulOk_b (by decide) (by omega)
  have m2 : Cr.MulOk (9601 * (p : Int)) (p : Int) := mulOk_b (by omega) (by omega)
  have big : (10 : Int) ^ 300 < 2 ^ 1000 := by decide +kernel
  have fin : ∀ c : Int, Cr.MulOk (((c.natAbs : Nat) : Int).fmod (10 ^ 300)) (if 1000000000000000000 ≤ ((c.natAbs : Nat) : Int) then 1 else 0) ∧ Cr.MulOk (c.fmod 2305843009213693951) 71119 ∧
      new (.lst [D.int (((c.natAbs : Nat) : Int).fmod (10 ^ 300) * if 1000000000000000000 ≤ ((c.natAbs : Nat) : Int) then 1 else 0), D.int ((c.fmod 2305843009213693951 * 71119 + 9601 * p * p + 1009).fmod 2305843009213693921), D.int 0]) μ fun a μ1 => retW false K a μ1 := by
    intro c
    obtain ⟨a1, a2⟩ := fmod_lt (a := ((c.natAbs : Nat) : Int)) (b := 10 ^ 300) (by decide +kernel)
    obtain ⟨b1, b2⟩ := fmod_lt (a := c) (b := 2305843009213693951) (by omega)
    obtain ⟨c1, c2⟩ := fmod_lt (a := c.fmod 2305843009213693951 * 71119 + 9601 * p * p + 1009) (b := 2305843009213693921) (by omega)
    generalize ((c.natAbs : Nat) : Int).fmod (10 ^ 300) = u at *
    generalize c.fmod 2305843009213693951 = v at *
    generalize (v * 71119 + 9601 * (p : Int) * p + 1009).fmod 2305843009213693921 = t at *
    have hu : u.natAbs < 2 ^ 1000 := by omega
    refine ⟨mulOk_b hu (by split <;> decide), mulOk_b (by omega) (by decide), fun a ha => ret_k sub_refl (hK a _ ha ⟨_, t, 0, rfl, ⟨?_, ?_, c1, by omega, by omega⟩, by omega⟩)⟩
    · split <;> omega
    · split <;> omega
  have big2 : (10 : Int) ^ 300 = 1000000000000000000000000000000000000000000000000000000000000000000000000000000000000000000000000000000000000000000000000000000000000000000000000000000000000000000000000000000000000000000000000000000000000000000000000000000000000000000000000000000000000000000000000000000000000000000000000000000000000 := by decide +kernel
  rw [big2] at fin
  by_cases hlt : p < ns.length
  · simp only [hlt, decide_true]
    have hat : atI (ns.map D.int) (p : Int) = some (.int ns[p]) := by
      rw [atI_nat (by simpa using hlt)]
      simp
    refine ⟨_, hat, ?_⟩
    obtain ⟨f1, f2, f3⟩ := fin ns[p]
    simp
    exact ⟨pw1, pw2, pw3, f1, f2, m1, m2, by decide, f3⟩
  · simp only [hlt, decide_false]
    obtain ⟨f1, f2, f3⟩ := fin (857 * p + 587)
    exact ⟨mulOk_b (by decide) (by omega), pw1, pw2, pw3, f1, f2, m1, m2, by decide, f3⟩
theorem take_ok {k : Nat} {a n : Nat} {c : Cell} {u : Nat} (hu : 1 ≤ u) (hu2 : u ≤ 10000) (hn : n ≤ 1000000) {μ : Store} {K : KA} {E : KX} (hc : Pot n c)
    (hK : ∀ r c', r < u → Pot (n + 1) c' → K (.d (.int (r : Nat))) (put μ a c')) : callW G (k + 1) i__law_take [.ptr a, .d (.int u)] (put μ a c) K E := by
  obtain ⟨x, y, z, rfl, ⟨hx0, hxb, hy0, hyb, hz0⟩, hz⟩ := hc
  refine call_of (fn := f__law_take) rfl rfl ?_
  have hμ : put μ a (potC x y z) a = some (potC x y z) := put_at
  have e0 := fun {K : D → Prop} => rd_p (K := K) hμ
  simp [f__law_take, wpSs, wpS, wpTA, wpE, wpEs, List.set, e0]
  have s0 : ∀ v : Int, ∀ {K : Store → Prop}, K (put μ a (potC v y z)) → setSub (.ptr a) (.d (.int 0)) (.d (.int v)) (put μ a (potC x y z)) K := fun v {K} h => setSub_l (j := 0) hμ (by simp) (by rw [put_put]; exact h)
  have s2 : ∀ v : Int, ∀ {K : Store → Prop}, K (put μ a (potC x y v)) → setSub (.ptr a) (.d (.int 2)) (.d (.int v)) (put μ a (potC x y z)) K := fun v {K} h => setSub_l (j := 2) hμ (by simp) (by rw [put_put]; exact h)
  by_cases hx : 0 < x
  · simp only [hx, decide_true]
    refine ⟨by omega, ?_⟩
    obtain ⟨r1, r2⟩ := fmod_lt (a := x) (b := (u : Int)) (by omega)
    refine ⟨⟨by omega, ?_⟩, s0 _ ?_⟩
    · simp only [Int.natAbs_natCast]
      have := lt_log (n := u) (k := 64) (by omega) (by decide)
      omega
    · have hr := hK (x.fmod u).toNat (potC (x.fdiv u) y z) (by omega) ⟨_, _, _, rfl, ⟨?_, ?_, hy0, hyb, hz0⟩, by omega⟩
      · have er : (((x.fmod u).toNat : Nat) : Int) = x.fmod u := by omega
        rw [er] at hr
        exact ⟨_, sub_refl, hr⟩
      · rw [Int.fdiv_eq_ediv_of_nonneg x (by omega)]
        exact Int.ediv_nonneg hx0 (by omega)
      · rw [Int.fdiv_eq_ediv_of_nonneg x (by omega)]
        have h1 : x / (u : Int) ≤ x := Int.ediv_le_self _ hx0
        have h2 : 0 ≤ x / (u : Int) := Int.ediv_nonneg hx0 (by omega)
        omega
  · simp only [hx, decide_false]
    refine s2 _ ⟨by decide, ?_⟩
    have e1 := fun {K : D → Prop} => rd_p (K := K) (put_at (μ := μ) (a := a) (c := potC x y (z + 1)))
    obtain ⟨p, hpa, hp0, hp1⟩ : ∃ p : Int, atI [D.int 2147483647, D.int 2147483629, D.int 2147483587, D.int 2147483579, D.int 2147483563] ((z + 1).fmod 5) = some (.int p) ∧ 0 < p ∧ p < 2 ^ 31 := by
      obtain ⟨r1, r2⟩ := fmod_lt (a := z + 1) (b := 5) (by omega)
      have : (z + 1).fmod 5 = 0 ∨ (z + 1).fmod 5 = 1 ∨ (z + 1).fmod 5 = 2 ∨ (z + 1).fmod 5 = 3 ∨ (z + 1).fmod 5 = 4 := by omega
      rcases this with e | e | e | e | e <;> rw [e] <;> exact ⟨_, rfl, by decide, by decide⟩
    simp [e1, at3, hpa]
    have hz3 : 0 ≤ z + 1 ∧ z + 1 ≤ 1000001 := by omega
    have q1 : Cr.MulOk 90931 (z + 1) := mulOk_b (by decide) (by omega)
    have q2 : Cr.MulOk (90931 * (z + 1)) (z + 1) := mulOk_b (by omega) (by omega)
    have sq : 0 ≤ 90931 * (z + 1) * (z + 1) ∧ 90931 * (z + 1) * (z + 1) ≤ 90931 * 1000001 * 1000001 := by
      refine ⟨Int.mul_nonneg (by omega) (by omega), ?_⟩
      exact Int.mul_le_mul (by omega) (by omega) (by omega) (by omega)
    generalize 90931 * (z + 1) * (z + 1) = w at *
    have q3 : PowOk (y + w + 307) 3 := by
      refine ⟨by omega, ?_⟩
      have h1 : (y + w + 307).natAbs < 2 ^ 64 := by omega
      have h2 := lt_log h1 (by decide)
      omega
    generalize (y + w + 307) ^ 3 = b3
    obtain ⟨r1, r2⟩ := fmod_lt (a := b3) (b := p) hp0
    generalize b3.fmod p = m at *
    obtain ⟨t1, t2⟩ := fmod_lt (a := m) (b := 10601) (by omega)
    generalize m.fmod 10601 = t at *
    have q4 : Cr.MulOk 379 (z + 1) := mulOk_b (by decide) (by omega)
    have q5 : Cr.MulOk m (t + 379 * (z + 1)) := mulOk_b (by omega) (by omega)
    generalize ((m * (t + 379 * (z + 1))).fmod 2305843009213693907).fdiv 347 = v
    obtain ⟨v1, v2⟩ := fmod_lt (a := v) (b := (u : Int)) (by omega)
    have hr := hK (v.fmod u).toNat (potC x y (z + 1)) (by omega) ⟨_, _, _, rfl, ⟨hx0, hxb, hy0, hyb, by omega⟩, by omega⟩
    have er : (((v.fmod u).toNat : Nat) : Int) = v.fmod u := by omega
    rw [er] at hr
    exact ⟨q1, q2, q3, by omega, q4, q5, ⟨by omega, by decide⟩, by omega, ⟨_, sub_refl, hr⟩⟩
theorem of_ok {k : Nat} {a n : Nat} {c : Cell} {xs : List D} (h1 : 1 ≤ xs.length) (h2 : xs.length ≤ 10000) (hn : n ≤ 1000000) {μ : Store} {K : KA} {E : KX} (hc : Pot n c)
    (hK : ∀ d c', d ∈ xs → Pot (n + 1) c' → K (.d d) (put μ a c')) : callW G (k + 2) i__law_of [.ptr a, .d (.lst xs)] (put μ a c) K E := by
  refine call_of (fn := f__law_of) rfl rfl ?_
  simp [f__law_of, wpSs, wpS, wpE, wpEs]
  refine take_ok (k := k) h1 h2 hn hc fun r c' hr hc' => ?_
  simp
  refine ⟨_, atI_nat hr, ?_⟩
  exact ⟨_, sub_refl, hK _ _ (List.getElem_mem hr) hc'⟩
theorem cells_ok {k : Nat} {xs : List D} (hl : xs.length ≤ 1000) : ∃ ps : List Nat, (∀ p ∈ ps, p < 2) ∧ ps.length ≤ 2 ∧ Ret G (k + 1) i__law_cells [.lst xs, .int 2] (.lst (LD ps)) := by
  refine ⟨List.range (max 1 (min 2 xs.length)), fun p hp => by have := List.mem_range.mp hp; omega, by simp; omega, ?_⟩
  intro μ K E hK
  refine call_of (fn := f__law_cells) rfl rfl ?_
  have hline : line = 16777216 := rfl
  simp [f__law_cells, wpSs, wpS, wpE, wpEs]
  have e : (if (1 : Int) < (if (xs.length : Int) < 2 then (xs.length : Int) else 2) then (if (xs.length : Int) < 2 then (xs.length : Int) else 2) else 1) = ((max 1 (min 2 xs.length) : Nat) : Int) := by
    split <;> split <;> omega
  rw [e]
  have em : max 1 (min 2 xs.length) ≤ 2 := by omega
  generalize max 1 (min 2 xs.length) = m at *
  refine ⟨smallI (by omega) (by omega), by omega, ?_⟩
  rw [range_map]
  exact ret_d sub_refl hK
end K36


namespace K36
open PySem Cr
/-- values that may be asked of, down to the ground -/
inductive Vt : D → Prop
  | mk (t : D) (h : isiD G t = true) (c : ∀ xs, t = .tup xs → ∀ x ∈ xs, Vt x) : Vt t
def isW : D → Bool
  | .int _ => true
  | _ => false
def betD (x : D) (a b : Int) : Bool := match x with
  | .int i => decide (a ≤ i) && decide (i ≤ b)
  | _ => false
theorem is_integer_d {k : Nat} {x : D} (h : isiD G x = true) : Ret G (k + 1) i_is_integer [x] (.bl (isW x)) := by
  intro μ K E hK
  refine call_of (fn := f_is_integer) rfl rfl ?_
  simp [f_is_integer, wpSs, wpS, wpE, kindOf, h]
  cases x <;> simp [isTy, isW] at hK ⊢ <;> exact ret_d sub_refl hK
theorem law_int_d {k : Nat} {x : D} (h : isiD G x = true) : Ret G (k + 1) i__law_is_int [x] (.bl (isW x)) := by
  intro μ K E hK
  refine call_of (fn := f__law_is_int) rfl rfl ?_
  simp [f__law_is_int, wpSs, wpS, wpE, kindOf, h]
  cases x <;> simp [isTy, isW] at hK ⊢ <;> exact ret_d sub_refl hK
theorem is_between_d {k : Nat} {x : D} {a b : Int} (h : isiD G x = true) : Ret G (k + 2) i_is_between [x, .int a, .int b] (.bl (betD x a b)) := by
  intro μ K E hK
  refine call_of (fn := f_is_between) rfl rfl ?_
  simp [f_is_between, wpSs, wpS, wpE, wpEs]
  refine is_integer_d (k := k) h _ _ _ ?_
  cases x <;> simp [isW]
  case int i =>
    unfold betD at hK
    by_cases h1 : a ≤ i
    · simp [h1] at hK ⊢
      exact ret_d sub_refl hK
    · simp [h1] at hK ⊢
      exact ret_d sub_refl hK
  all_goals exact ret_d sub_refl hK
def bodyOf : CS → List CS
  | .while_ _ b => b
  | .for_ _ _ b => b
  | _ => []
theorem last_app {W : List D} {x : D} : (W ++ [x])[(W ++ [x]).length - 1]? = some x ∧ (W ++ [x]).dropLast = W := by simp
theorem isiD_i {i : Int} : isiD G (.int i) = true := rfl
theorem is_between_i {k : Nat} {x a b : Int} (h1 : a ≤ x) (h2 : x ≤ b) : Ret G (k + 2) i_is_between [.int x, .int a, .int b] (.bl true) := by
  have := is_between_d (k := k) (x := .int x) (a := a) (b := b) isiD_i
  simp only [betD, h1, h2, decide_true, Bool.and_self] at this
  exact this
/-- weights that may be handed in -/
def Wt (l : List Int) : Prop := ∀ x ∈ l, 0 ≤ x ∧ x ≤ 999
theorem are_numbers_ok {k : Nat} {w : List Int} {lo hi : Int} (h : Wt w) (h1 : lo ≤ w.length) (h2 : (w.length : Int) ≤ hi) (h3 : w.length ≤ 1000) : Ret G (k + 3) i_are_numbers [.tup (LI w), .int lo, .int hi] (.bl true) := by
  intro μ K E hK
  have hline : line = 16777216 := rfl
  refine call_of (fn := f_are_numbers) rfl rfl ?_
  simp [f_are_numbers, wpSs, wpS, wpT, wpE, wpEs, kindOf, isiD, isTy, h1, h2, wpI, wpC, wpTg, wipe, List.set]
  intro a ha
  refine compM w D.int (fun x => .bl true) (fun _ _ => trivial) (by omega) (fun x hx μ1 hμ Kc hKc => ?_) ?_
  · obtain ⟨b1, b2⟩ := h x hx
    exact is_between_i (k := k) b1 b2 _ _ _ hKc
  · rw [del_put ha]
    have e : boolsOf (w.map fun _ => D.bl true) = some (w.map fun _ => true) := bools_map
    refine ⟨_, e, ?_⟩
    have e2 : (w.map fun _ => true).all id = true := by simp
    rw [e2]
    exact ret_d sub_refl hK
theorem check_weights_ok {k : Nat} {w : List Int} (h : Wt w) (h1 : 1 ≤ w.length) (h2 : w.length ≤ 40) : Ret G (k + 4) i_check_weights [.tup (LI w)] .non := by
  intro μ K E hK
  refine call_of (fn := f_check_weights) rfl rfl ?_
  simp [f_check_weights, wpSs, wpS, wpT, wpE, wpEs]
  refine are_numbers_ok (k := k) (lo := 1) (hi := 40) h (by omega) (by omega) (by omega) _ _ _ ?_
  simp
  exact ret_d sub_refl hK
theorem check_gaps_ok {k : Nat} {w g : List Int} (h : Wt w) (hg : Wt g) (h1 : 1 ≤ w.length) (h2 : w.length ≤ 40) (h3 : g.length = w.length + 1) : Ret G (k + 5) i_check_gaps [.tup (LI w), .tup (LI g)] .non := by
  intro μ K E hK
  refine call_of (fn := f_check_gaps) rfl rfl ?_
  simp [f_check_gaps, wpSs, wpS, wpT, wpE, wpEs]
  refine check_weights_ok (k := k) h h1 h2 _ _ _ ?_
  refine are_numbers_ok (k := k + 1) (lo := (w.length : Int) + 1) (hi := (w.length : Int) + 1) hg (by omega) (by omega) (by omega) _ _ _ ?_
  simp
  exact ret_d sub_refl hK
theorem mask_some : ∀ {E1 E2 ρ : Cr.Env}, E1.map Option.isSome = E2.map Option.isSome → mask E1 ρ = mask E2 ρ
  | [], [], _, _ => rfl
  | [], _ :: _, _, h => by simp at h
  | _ :: _, [], _, h => by simp at h
  | _ :: _, _ :: _, [], _ => by simp [mask]
  | a :: _, b :: _, _ :: _, h => by
    simp only [List.map_cons, List.cons.injEq] at h
    simp only [mask]
    rw [mask_some h.2]
    cases a <;> cases b <;> simp_all
/-- trees, so deep at most -/
inductive TrD : Nat → D → Prop
  | non {n : Nat} : TrD n .non
  | tup {n : Nat} {a : Int} {x y : D} (ha : a.natAbs < 2 ^ 64) (hx : TrD n x) (hy : TrD n y) : TrD (n + 1) (.tup [.int a, x, y])
theorem TrD.mono {n m : Nat} {t : D} (h : TrD n t) (hm : n ≤ m) : TrD m t := by
  induction h generalizing m with
  | non => exact .non
  | tup ha hx hy ix iy =>
    obtain ⟨k, rfl⟩ : ∃ k, m = k + 1 := ⟨m - 1, by omega⟩
    exact .tup ha (ix (by omega)) (iy (by omega))
def Sh (μ : Store) (bl bw : Nat) (c : Cell) (W : List D) : Store := put (put μ bl c) bw (.lst W)
theorem sh_l {μ : Store} {bl bw : Nat} {c : Cell} {W : List D} (h : bl ≠ bw) : Sh μ bl bw c W bl = some c := by rw [Sh, put_o h, put_at]
theorem sh_w {μ : Store} {bl bw : Nat} {c : Cell} {W : List D} : Sh μ bl bw c W bw = some (.lst W) := by rw [Sh, put_at]
theorem sh_pl {μ : Store} {bl bw : Nat} {c c' : Cell} {W : List D} (h : bl ≠ bw) : put (Sh μ bl bw c W) bl c' = Sh μ bl bw c' W := by
  funext z
  by_cases e1 : z = bl <;> by_cases e2 : z = bw <;> simp_all [Sh, put]
theorem sh_pw {μ : Store} {bl bw : Nat} {c : Cell} {W W' : List D} : put (Sh μ bl bw c W) bw (.lst W') = Sh μ bl bw c W' := by simp [Sh]
theorem sh_tg {μ : Store} {bl bw : Nat} {c : Cell} {W : List D} : tagOf (Sh μ bl bw c W) (.ptr bw) = some .list := by simp [tagOf, sh_w]
theorem zip_LI : ∀ {a b : List Int}, zipD (LI a) (LI b) = (a.zip b).map fun x => .tup [.int x.1, .int x.2]
  | [], _ => rfl
  | _ :: _, [] => rfl
  | x :: a, y :: b => by
    have := zip_LI (a := a) (b := b)
    simp only [LI] at this
    simp [zipD, this]
theorem zip_mem {a b : List Int} {x : Int × Int} (h : x ∈ a.zip b) : x.1 ∈ a ∧ x.2 ∈ b := by
  obtain ⟨u, v⟩ := x
  exact ⟨(List.of_mem_zip h).1, (List.of_mem_zip h).2⟩
/-- small numbers -/
def Sm (l : List Int) : Prop := ∀ x ∈ l, x.natAbs < 2 ^ 64
theorem max_all {l : List Int} {m b : Int} (h : m ∈ l) (h2 : ∀ y ∈ l, y ≤ m) : decide (m ≤ b) = l.all fun x => decide (x ≤ b) := by
  rw [Bool.eq_iff_iff]
  simp only [decide_eq_true_eq, List.all_eq_true]
  constructor
  · intro q x hx; have := h2 x hx; omega
  · intro q; exact q m h
theorem sum_bd : ∀ {l : List Int}, (∀ x ∈ l, 0 ≤ x ∧ x ≤ 999) → 0 ≤ l.sum ∧ l.sum ≤ 999 * l.length
  | [], _ => by simp
  | x :: l, h => by
    have h1 := sum_bd (l := l) fun y hy => h y (by simp [hy])
    have h2 := h x (by simp)
    simp only [List.sum_cons, List.length_cons]
    omega
theorem wpSs_app {G : Prog} {W : Nat → List A → Store → KA → KX → Prop} : ∀ {a b : List CS} {ρ : Cr.Env} {μ : Store} {P : Post}, wpSs G W (a ++ b) ρ μ P = wpSs G W a ρ μ { nx := fun ρ1 μ1 => wpSs G W b ρ1 μ1 P, bk := P.bk, ct := P.ct, rt := P.rt, ex := P.ex }
  | [], b, ρ, μ, P => rfl
  | s :: a, b, ρ, μ, P => by
    simp only [List.cons_append, wpSs]
    congr 1
    simp only [wpSs_app]
@[simp] theorem opC_isnb {a b : Bool} {K : Bool → Prop} : opC .isn (.bl a) (.bl b) K = K (!(a == b)) := rfl
@[simp] theorem opC_nb {a b : Bool} {K : Bool → Prop} : opC .ne (.bl a) (.bl b) K = K (!(a == b)) := by
  have e : opC .ne (.bl a) (.bl b) K = (flatD dep (.bl a) = true ∧ flatD dep (.bl b) = true ∧ K (!eqD (.bl a) (.bl b))) := rfl
  rw [e]
  have f : ∀ c : Bool, flatD dep (.bl c) = true := fun _ => rfl
  have g : eqD (.bl a) (.bl b) = (a == b) := by cases a <;> cases b <;> rfl
  rw [g]
  simp [f]
theorem bl_sz {b : Bool} : szD (.bl b) ≤ line := by cases b <;> decide
/-- a stretch -/
def seg (w : List Int) (o l : Nat) : List Int := (w.drop o).take l
theorem seg_len {w : List Int} {o l : Nat} (h : o + l ≤ w.length) : (seg w o l).length = l := by simp [seg]; omega
theorem seg_add {w : List Int} {o i j : Nat} : seg w o (i + j) = seg w o i ++ seg w (o + i) j := by
  unfold seg
  rw [List.take_add, List.drop_drop]
theorem seg_one {w : List Int} {o : Nat} (h : o < w.length) : seg w o 1 = [w[o]] := by
  unfold seg
  rw [List.drop_eq_getElem_cons h]
  rfl
theorem seg_mid {w : List Int} {o i l : Nat} (hi : i ≤ l) (h : o + l < w.length) : seg w o (l + 1) = seg w o i ++ w[o + i] :: seg w (o + i + 1) (l - i) := by
  have e : l + 1 = i + (1 + (l - i)) := by omega
  rw [e, seg_add, seg_add, seg_one (by omega)]
  rfl
def lmin : List Int → Int
  | [] => 0
  | [x] => x
  | x :: y :: r => if x ≤ lmin (y :: r) then x else lmin (y :: r)
theorem lmin_ok : ∀ {l : List Int}, l ≠ [] → lmin l ∈ l ∧ ∀ q ∈ l, lmin l ≤ q
  | [], h => absurd rfl h
  | [x], _ => by simp [lmin]
  | x :: y :: r, _ => by
    obtain ⟨h1, h2⟩ := lmin_ok (l := y :: r) (by simp)
    unfold lmin
    by_cases c : x ≤ lmin (y :: r)
    · rw [if_pos c]
      refine ⟨by simp, fun q hq => ?_⟩
      rcases List.mem_cons.mp hq with e | e
      · omega
      · have := h2 q e; omega
    · rw [if_neg c]
      refine ⟨List.mem_cons_of_mem _ h1, fun q hq => ?_⟩
      rcases List.mem_cons.mp hq with e | e
      · omega
      · exact h2 q e
theorem lmin_uni {l : List Int} {m : Int} (h : m ∈ l) (h2 : ∀ y ∈ l, m ≤ y) : m = lmin l := by
  obtain ⟨a, b⟩ := lmin_ok (l := l) (by intro e; subst e; cases h)
  have := h2 _ a
  have := b _ h
  omega
theorem int_sz {i : Int} (h : i.natAbs < 2 ^ 64) : szD (.int i) ≤ line := by
  have : i.natAbs.log2 < 1920 := by
    by_cases h0 : i.natAbs = 0
    · rw [h0]; decide
    · rw [Nat.log2_lt h0]
      exact Nat.lt_trans h (by decide +kernel)
  simp only [szD, this, if_true]
  decide
end K36


namespace K36
open PySem Cr
def leP (p q : Int × Int) : Prop := p.1 < q.1 ∨ (p.1 = q.1 ∧ p.2 ≤ q.2)
instance {p q : Int × Int} : Decidable (leP p q) := by unfold leP; infer_instance
def mnP : List (Int × Int) → Int × Int
  | [] => (0, 0)
  | [p] => p
  | p :: q :: r => let m := mnP (q :: r); if leP p m then p else m
theorem mnP_ok : ∀ {l : List (Int × Int)}, l ≠ [] → mnP l ∈ l ∧ ∀ q ∈ l, leP (mnP l) q
  | [], h => absurd rfl h
  | [p], _ => by simp [mnP, leP]
  | p :: q :: r, _ => by
    obtain ⟨h1, h2⟩ := mnP_ok (l := q :: r) (by simp)
    unfold mnP
    by_cases c : leP p (mnP (q :: r))
    · simp only [c, if_true]
      refine ⟨by simp, fun x hx => ?_⟩
      rcases List.mem_cons.mp hx with e | e
      · subst e; simp [leP]
      · have := h2 x e
        unfold leP at *
        omega
    · simp only [c, if_false]
      refine ⟨List.mem_cons_of_mem _ h1, fun x hx => ?_⟩
      rcases List.mem_cons.mp hx with e | e
      · subst e
        unfold leP at *
        omega
      · exact h2 x e
theorem mnP_uni {l : List (Int × Int)} {p : Int × Int} (h : p ∈ l) (h2 : ∀ q ∈ l, leP p q) : p = mnP l := by
  obtain ⟨a, b⟩ := mnP_ok (l := l) (by intro e; subst e; cases h)
  have c := h2 _ a
  have d := b _ h
  unfold leP at *
  apply Prod.ext <;> omega
theorem pairs_map {α : Type} {l : List α} {f g : α → Int} : pairsI (l.map fun x => D.tup [.int (f x), .int (g x)]) = some (l.map fun x => (f x, g x)) := by
  induction l with
  | nil => rfl
  | cons x l ih => simp [pairsI, ih]
/-- least sums, with where to part -/
def te (C : Nat → Nat → Int) : Nat → Nat → Nat → Int × Option Nat
  | _, 0, _ => (0, none)
  | 0, _ + 1, _ => (0, none)
  | f + 1, l + 1, o =>
    let r := mnP ((List.range (l + 1)).map fun i => ((te C f i o).1 + (te C f (l - i) (o + i + 1)).1, (o + i : Int)))
    (C (l + 1) o + r.1, some r.2.toNat)
theorem te_st {C : Nat → Nat → Int} : ∀ (f g l o : Nat), l ≤ f → l ≤ g → te C f l o = te C g l o
  | 0, 0, _, _, _, _ => rfl
  | 0, g + 1, l, o, h1, _ => by
    have : l = 0 := by omega
    subst this; simp [te]
  | f + 1, 0, l, o, _, h1 => by
    have : l = 0 := by omega
    subst this; simp [te]
  | f + 1, g + 1, 0, o, _, _ => by simp [te]
  | f + 1, g + 1, l + 1, o, h1, h2 => by
    have e : ((List.range (l + 1)).map fun i => ((te C f i o).1 + (te C f (l - i) (o + i + 1)).1, (o + i : Int))) = ((List.range (l + 1)).map fun i => ((te C g i o).1 + (te C g (l - i) (o + i + 1)).1, (o + i : Int))) := by
      apply List.map_congr_left
      intro i hi
      have := List.mem_range.mp hi
      rw [te_st f g i o (by omega) (by omega), te_st f g (l - i) (o + i + 1) (by omega) (by omega)]
    simp only [te, e]
def rowsT (C : Nat → Nat → Int) (l o : Nat) : List (Int × Int) := (List.range (l + 1)).map fun i => ((te C i i o).1 + (te C (l - i) (l - i) (o + i + 1)).1, (o + i : Int))
theorem te_eq {C : Nat → Nat → Int} {l o : Nat} : te C (l + 1) (l + 1) o = (C (l + 1) o + (mnP (rowsT C l o)).1, some (mnP (rowsT C l o)).2.toNat) := by
  have e : ((List.range (l + 1)).map fun i => ((te C l i o).1 + (te C l (l - i) (o + i + 1)).1, (o + i : Int))) = rowsT C l o := by
    apply List.map_congr_left
    intro i hi
    have := List.mem_range.mp hi
    rw [te_st l i i o (by omega) (by omega), te_st l (l - i) (l - i) (o + i + 1) (by omega) (by omega)]
  simp only [te, e]
theorem te_at {C : Nat → Nat → Int} {l o : Nat} : ∃ i, i ≤ l ∧ mnP (rowsT C l o) = ((te C i i o).1 + (te C (l - i) (l - i) (o + i + 1)).1, (o + i : Int)) := by
  have h := (mnP_ok (l := rowsT C l o) (by simp [rowsT])).1
  unfold rowsT at h ⊢
  obtain ⟨i, hi, e⟩ := List.mem_map.mp h
  have := List.mem_range.mp hi
  exact ⟨i, by omega, e.symm⟩
theorem te_bd {C : Nat → Nat → Int} {B : Int} (hC : ∀ l o, 0 ≤ C l o ∧ C l o ≤ B) : ∀ (l o : Nat), 0 ≤ (te C l l o).1 ∧ (te C l l o).1 ≤ l * B := by
  intro l
  induction l using Nat.strongRecOn with
  | _ l ih =>
    intro o
    cases l with
    | zero => simp [te]
    | succ l =>
      rw [te_eq]
      obtain ⟨i, hi, e⟩ := te_at (C := C) (l := l) (o := o)
      rw [e]
      have a := ih i (by omega) o
      have b := ih (l - i) (by omega) (o + i + 1)
      have c := hC (l + 1) o
      have d : ((l + 1 : Nat) : Int) * B = B + ((i : Int) * B + ((l - i : Nat) : Int) * B) := by
        have : ((l + 1 : Nat) : Int) = 1 + ((i : Int) + ((l - i : Nat) : Int)) := by omega
        rw [this, Int.add_mul, Int.add_mul, Int.one_mul]
      simp only
      rw [d]
      omega
/-- the tree -/
def tt (C : Nat → Nat → Int) : Nat → Nat → Nat → D
  | _, 0, _ => .non
  | 0, _ + 1, _ => .non
  | f + 1, l + 1, o => match (te C (l + 1) (l + 1) o).2 with
    | some a => .tup [.int a, tt C f (a - o) o, tt C f (o + l - a) (a + 1)]
    | none => .non
theorem te_in {C : Nat → Nat → Int} {l o : Nat} : ∃ a, (te C (l + 1) (l + 1) o).2 = some a ∧ o ≤ a ∧ a ≤ o + l := by
  rw [te_eq]
  obtain ⟨i, hi, e⟩ := te_at (C := C) (l := l) (o := o)
  rw [e]
  exact ⟨o + i, by simp; omega, by omega, by omega⟩
theorem tt_tr {C : Nat → Nat → Int} : ∀ {f l o : Nat}, l ≤ f → o + l ≤ 1000 → TrD f (tt C f l o)
  | 0, 0, _, _, _ => by simp [tt]; exact .non
  | f + 1, 0, _, _, _ => by simp [tt]; exact .non
  | f + 1, l + 1, o, h, hb => by
    obtain ⟨a, e, h1, h2⟩ := te_in (C := C) (l := l) (o := o)
    unfold tt
    rw [e]
    exact .tup (by omega) (tt_tr (by omega) (by omega)) (tt_tr (by omega) (by omega))
def enc (a : Int × Option Nat) : D := .tup [.int a.1, match a.2 with | none => .non | some i => .int i]
end K36


namespace K36
open PySem Cr
abbrev asO (bb : Nat) : Cell := .obj c_AllSpans [some (.ptr bb)]
theorem as_at {call : Nat → List A → Store → KA → KX → Prop} {μ : Store} {p bb : Nat} {K : KA} {E : KX} (hp : μ p = some (asO bb)) : getAttr G call (.ptr p) a_own_best μ K E = K (.ptr bb) μ := ga_fld (clsOf_p hp) gk_AllSpans rfl rfl (fldOf_p hp rfl)
theorem as_both {μ : Store} {p bb : Nat} (hp : μ p = some (asO bb)) : methOf G μ (.ptr p) a_both = some i_AllSpans_both := by simp [methOf, clsOf_p hp, gk_AllSpans, k_AllSpans, lookN, a_tree, a_both, a_least_of]
theorem as_tree {μ : Store} {p bb : Nat} (hp : μ p = some (asO bb)) : methOf G μ (.ptr p) a_tree = some i_AllSpans_tree := by simp [methOf, clsOf_p hp, gk_AllSpans, k_AllSpans, lookN, a_tree, a_both, a_least_of]
theorem as_least {μ : Store} {p bb : Nat} (hp : μ p = some (asO bb)) : methOf G μ (.ptr p) a_least_of = some i_AllSpans_least_of := by simp [methOf, clsOf_p hp, gk_AllSpans, k_AllSpans, lookN, a_tree, a_both, a_least_of]
theorem both_ok {k p bb n : Nat} {c : Cell} {m : List Int → Option D} {one a other : Int} {x y : Int × Option Nat} {μ : Store} {K : KA} {E : KX} (hp : μ p = some (asO bb)) (hb : μ bb = some c) (h : DT c m n) (hx : m [one, a - 1] = some (enc x)) (hy : m [a + 1, other] = some (enc y)) (hK : K (.d (.int (x.1 + y.1))) μ) :
    callW G (k + 1) i_AllSpans_both [.ptr p, .d (.int one), .d (.int a), .d (.int other)] μ K E := by
  have hline : line = 16777216 := rfl
  refine call_of (fn := f_AllSpans_both) rfl rfl ?_
  simp [f_AllSpans_both, wpSs, wpS, wpE, wpEs, as_at hp]
  refine ⟨by omega, ?_⟩
  refine h.rd (a := [one, a - 1]) hb hx ?_
  simp [enc]
  refine ⟨by omega, ?_⟩
  refine h.rd (a := [a + 1, other]) hb hy ?_
  simp [enc]
  exact ret_d sub_refl hK
theorem least_of_ok {k p bb n many : Nat} {c : Cell} {m : List Int → Option D} {x : Int × Option Nat} {μ : Store} {K : KA} {E : KX} (hp : μ p = some (asO bb)) (hb : μ bb = some c) (h : DT c m n) (hx : m [0, (many : Int) - 1] = some (enc x)) (hK : K (.d (.int x.1)) μ) :
    callW G (k + 1) i_AllSpans_least_of [.ptr p, .d (.int many)] μ K E := by
  have hline : line = 16777216 := rfl
  refine call_of (fn := f_AllSpans_least_of) rfl rfl ?_
  simp [f_AllSpans_least_of, wpSs, wpS, wpE, wpEs, as_at hp]
  refine ⟨by omega, ?_⟩
  refine h.rd (a := [0, (many : Int) - 1]) hb hx ?_
  simp [enc]
  exact ret_d sub_refl hK
/-- all entries, for stretches of less than L books, and the first ones of L -/
def AllT (C : Nat → Nat → Int) (m : List Int → Option D) (many L O : Nat) : Prop := ∀ l o : Nat, o + l ≤ many → (l < L ∨ (l = L ∧ o < O)) → m [(o : Int), (o : Int) + l - 1] = some (enc (te C l l o))
theorem as_tree_ok {C : Nat → Nat → Int} {p bb n many : Nat} {c : Cell} {m : List Int → Option D} {μ : Store} (hp : μ p = some (asO bb)) (hb : μ bb = some c) (h : DT c m n) (hm : AllT C m many (many + 1) 0) :
    ∀ f l o k K E, l ≤ f → o + l ≤ many → K (.d (tt C f l o)) μ → callW G (k + f + 1) i_AllSpans_tree [.ptr p, .d (.int (o : Nat)), .d (.int ((o : Int) + (l : Nat) - 1))] μ K E := by
  have hline : line = 16777216 := rfl
  intro f
  induction f with
  | zero =>
    intro l o k K E hl ho hK
    have : l = 0 := by omega
    subst this
    refine call_of (fn := f_AllSpans_tree) rfl rfl ?_
    simp [f_AllSpans_tree, wpSs, wpS, wpT, wpTA, wpE, wpEs, as_at hp]
    refine ⟨by omega, ?_⟩
    refine h.rd (a := [(o : Int), (o : Int) - 1]) hb (by have := hm 0 o (by omega) (by omega); simpa using this) ?_
    simp [enc, te, List.set]
    simp [tt] at hK
    exact ret_d sub_refl hK
  | succ f ih =>
    intro l o k K E hl ho hK
    refine call_of (fn := f_AllSpans_tree) rfl rfl ?_
    simp [f_AllSpans_tree, wpSs, wpS, wpT, wpTA, wpE, wpEs, as_at hp]
    refine ⟨by omega, ?_⟩
    refine h.rd (a := [(o : Int), (o : Int) + l - 1]) hb (hm l o (by omega) (by omega)) ?_
    cases l with
    | zero =>
      simp [enc, te, List.set]
      simp [tt] at hK
      exact ret_d sub_refl hK
    | succ l =>
      obtain ⟨a, e, h1, h2⟩ := te_in (C := C) (l := l) (o := o)
      unfold tt at hK
      rw [e] at hK
      simp only [enc, e]
      simp [List.set, as_tree hp]
      have i1 : ((o : Int) + ((a - o : Nat) : Int) - 1) = (a : Int) - 1 := by omega
      have i2 : (((a + 1 : Nat) : Int) + ((o + l - a : Nat) : Int) - 1) = (o : Int) + ((l : Int) + 1) - 1 := by omega
      have i3 : ((a + 1 : Nat) : Int) = (a : Int) + 1 := by omega
      have ih1 : ∀ K E, K (.d (tt C f (a - o) o)) μ → callW G (k + (f + 1)) i_AllSpans_tree [.ptr p, .d (.int o), .d (.int ((a : Int) - 1))] μ K E := fun K E h => by
        have := ih (a - o) o k K E (by omega) (by omega) h
        rwa [i1] at this
      have ih2 : ∀ K E, K (.d (tt C f (o + l - a) (a + 1))) μ → callW G (k + (f + 1)) i_AllSpans_tree [.ptr p, .d (.int ((a : Int) + 1)), .d (.int ((o : Int) + ((l : Int) + 1) - 1))] μ K E := fun K E h => by
        have := ih (o + l - a) (a + 1) k K E (by omega) (by omega) h
        rwa [i2, i3] at this
      refine ih1 _ _ ?_
      simp only [as_tree hp]
      refine ih2 _ _ ?_
      simp
      exact ⟨by omega, ret_d sub_refl hK⟩
end K36


namespace K36
open PySem Cr
def cst (w g : List Int) (l o : Nat) : Int := ((w.drop o).take l).sum + ((g.drop o).take (l + 1)).sum
def Os (μ : Store) (p bb : Nat) (c : Cell) : Store := put (put μ p (asO bb)) bb c
theorem os_p {μ : Store} {p bb : Nat} {c : Cell} (h : p ≠ bb) : Os μ p bb c p = some (asO bb) := by rw [Os, put_o h, put_at]
theorem os_b {μ : Store} {p bb : Nat} {c : Cell} : Os μ p bb c bb = some c := by rw [Os, put_at]
theorem os_pb {μ : Store} {p bb : Nat} {c c' : Cell} : put (Os μ p bb c) bb c' = Os μ p bb c' := by simp [Os]
def aiA : List CS := f_AllSpans___init__.body.take 2
def aiB : List CS := bodyOf (f_AllSpans___init__.body.getD 2 .pass)
def aiI : List CS := bodyOf (aiB.getD 0 .pass)
theorem ai_body : f_AllSpans___init__.body = [.asg (.fld (.slot 0) a_own_best) .dctT, .asg (.slot 3) (.bi .len false (.cons (.slot 1) .nil)), .for_ (.slot 4) (.rng1 (.bin false .add (.slot 3) (.lit (.int 1)))) aiB] := rfl
theorem ai_in : aiB = [.for_ (.slot 5) (.rng1 (.bin false .add (.bin false .sub (.slot 3) (.slot 4)) (.lit (.int 1)))) aiI] := rfl
abbrev aiE (p : Nat) (w g : List Int) (many : Nat) (a b : Option A) : Cr.Env := [some (.ptr p), some (.d (.tup (LI w))), some (.d (.tup (LI g))), some (.d (.int many)), a, b, none, none, none, none]
theorem cutLI {w : List Int} {i j : Nat} (h : i ≤ j) : cut (LI w) (some (i : Int)) (some (j : Int)) = LI ((w.drop i).take (j - i)) := by
  rw [cutFT h]; simp
theorem range2_map {i n : Nat} : rangeD (i : Int) ((i : Int) + (n : Int)) = (List.range n).map fun k : Nat => D.int ((i : Int) + (k : Int)) := by
  have : ((i : Int) + (n : Int) - i).toNat = n := by omega
  simp [rangeD, this]
theorem allT_put {C : Nat → Nat → Int} {m : List Int → Option D} {many L O : Nat} (hm : AllT C m many L O) : AllT C (fun j => if j = [(O : Int), (O : Int) + L - 1] then some (enc (te C L L O)) else m j) many L (O + 1) := by
  intro l o h1 h2
  by_cases e : [(o : Int), (o : Int) + l - 1] = [(O : Int), (O : Int) + L - 1]
  · simp only [e, if_true]
    simp at e
    have : o = O := by omega
    subst this
    have : l = L := by omega
    subst this
    rfl
  · simp only [e, if_false]
    refine hm l o h1 ?_
    by_cases hl : l < L
    · exact .inl hl
    · refine .inr ⟨by omega, ?_⟩
      have : l = L := by omega
      subst this
      have : o ≠ O := by intro q; subst q; exact e rfl
      omega
theorem ai_step {k p bb n many L O : Nat} {w g : List Int} {c : Cell} {m : List Int → Option D} {μ : Store} {P : Post} (ap : p ≠ bb) (h : DT c m n) (hn : n < 100000) (hm : AllT (cst w g) m many L O) (hO : O + L ≤ many) (hmany : many ≤ 40)
    (hP : ∀ c' m' ρ, DT c' m' (n + 1) → AllT (cst w g) m' many L (O + 1) → mask (aiE p w g many (some (.d (.int L))) none) ρ = aiE p w g many (some (.d (.int L))) none → P.nx ρ (Os μ p bb c')) :
    wpSs G (callW G (k + 2)) aiI (aiE p w g many (some (.d (.int L))) (some (.d (.int O)))) (Os μ p bb c) P := by
  have hline : line = 16777216 := rfl
  simp [aiI, aiB, bodyOf, f_AllSpans___init__, wpSs, wpS, wpT, wpTA, wpTAs, wpE, wpEs, wpO, wpI, wpC, wpTg, wipe, List.set]
  have e1 : (O : Int) + (L : Int) = ((O + L : Nat) : Int) := by omega
  have e2 : (O : Int) + (L : Int) - 1 + 2 = ((O + L + 1 : Nat) : Int) := by omega
  rw [e2]
  have c1 : cut (LI w) (some (O : Int)) (some ((O : Int) + (L : Int))) = LI ((w.drop O).take L) := by
    rw [e1, cutLI (by omega)]
    have : O + L - O = L := by omega
    rw [this]
  have c2 : cut (LI g) (some (O : Int)) (some ((O + L + 1 : Nat) : Int)) = LI ((g.drop O).take (L + 1)) := by
    rw [cutLI (by omega)]
    have : O + L + 1 - O = L + 1 := by omega
    rw [this]
  rw [c1, c2]
  refine ⟨_, ints_LI _, _, ints_LI _, smallI (by omega) (by omega), smallI (by omega) (by omega), fun a ha => ?_⟩
  have hpa : p ≠ a := by intro e; subst e; rw [os_p ap] at ha; cases ha
  have hba : bb ≠ a := by intro e; subst e; rw [os_b] at ha; cases ha
  rw [range2_map]
  refine compM (List.range L) _ (fun i : Nat => .tup [.int ((te (cst w g) i i O).1 + (te (cst w g) (L - 1 - i) (L - 1 - i) (O + i + 1)).1), .int ((O : Int) + (i : Int))]) (fun _ _ => trivial) (by simp; omega) (fun i hi μ1 hμ Kc hKc => ?_) ?_
  · have hi' : i < L := List.mem_range.mp hi
    have hp1 : μ1 p = some (asO bb) := by rw [hμ p hpa]; exact os_p ap
    have hb1 : μ1 bb = some c := by rw [hμ bb hba]; exact os_b
    rw [as_both hp1]
    have x1 := hm i O (by omega) (.inl (by omega))
    have x2 := hm (L - 1 - i) (O + i + 1) (by omega) (.inl (by omega))
    have e3 : (((O + i + 1 : Nat) : Int) + ((L - 1 - i : Nat) : Int) - 1) = (O : Int) + L - 1 := by omega
    have e4 : ((O + i + 1 : Nat) : Int) = (O : Int) + i + 1 := by omega
    rw [e3, e4] at x2
    refine both_ok (k := k + 1) hp1 hb1 h x1 x2 ?_
    simp
    exact ⟨by omega, hKc⟩
  · rw [del_put ha]
    have gl := fun K E => as_at (call := callW G (k + 2)) (K := K) (E := E) (os_p (μ := μ) (c := c) ap)
    cases L with
    | zero =>
      simp
      refine ⟨by omega, ?_⟩
      rw [gl]
      refine ⟨by omega, ?_⟩
      refine h.put (a := [(O : Int), (O : Int) + ((0 : Nat) : Int) - 1]) os_b (by omega) fun c' h' => ?_
      rw [os_pb]
      exact hP c' _ _ h' (by have := allT_put hm; simpa [te, enc] using this) (by simp [mask])
    | succ l =>
      have hne : ((List.range (l + 1)).map fun i : Nat => D.tup [.int ((te (cst w g) i i O).1 + (te (cst w g) (l + 1 - 1 - i) (l + 1 - 1 - i) (O + i + 1)).1), .int ((O : Int) + (i : Int))]).isEmpty = false := by simp
      rw [hne]
      have hpr : pairsI ((List.range (l + 1)).map fun i : Nat => D.tup [.int ((te (cst w g) i i O).1 + (te (cst w g) (l + 1 - 1 - i) (l + 1 - 1 - i) (O + i + 1)).1), .int ((O : Int) + (i : Int))]) = some (rowsT (cst w g) l O) := by
        rw [pairs_map]
        rfl
      have hrn : rowsT (cst w g) l O ≠ [] := by simp [rowsT]
      refine ⟨_, hpr, hrn, fun a1 b1 hm1 hl1 => ⟨_, hpr, hrn, fun a2 b2 hm2 hl2 => ?_⟩⟩
      have u1 := mnP_uni (p := (a1, b1)) hm1 (fun q hq => hl1 q.1 q.2 hq)
      have u2 := mnP_uni (p := (a2, b2)) hm2 (fun q hq => hl2 q.1 q.2 hq)
      refine ⟨by omega, ?_⟩
      rw [gl]
      refine ⟨by omega, ?_⟩
      refine h.put (a := [(O : Int), (O : Int) + ((l + 1 : Nat) : Int) - 1]) os_b (by omega) fun c' h' => ?_
      rw [os_pb]
      have ev : D.tup [D.int ((((w.drop O).take (l + 1)).sum + ((g.drop O).take (l + 1 + 1)).sum) + a1), D.int b2] = enc (te (cst w g) (l + 1) (l + 1) O) := by
        rw [te_eq, ← u1]
        obtain ⟨i, hi, ei⟩ := te_at (C := cst w g) (l := l) (o := O)
        have eb1 : b1 = (O : Int) + i := by rw [← u1] at ei; exact (Prod.mk.inj ei).2
        have eb2 : b2 = (O : Int) + i := by rw [← u2] at ei; exact (Prod.mk.inj ei).2
        simp [enc, cst, eb1, eb2]
        omega
      rw [ev] at h'
      exact hP c' _ _ h' (allT_put hm) (by simp [mask])
end K36


namespace K36
open PySem Cr
theorem as_init {k p : Nat} {w g : List Int} {μ : Store} {K : KA} {E : KX} (hp : μ p = none) (hmany : w.length ≤ 40)
    (hK : ∀ bb c m n, p ≠ bb → μ bb = none → DT c m n → AllT (cst w g) m w.length (w.length + 1) 0 → K (.d .non) (Os μ p bb c)) :
    callW G (k + 3) i_AllSpans___init__ [.ptr p, .d (.tup (LI w)), .d (.tup (LI g))] (put μ p (.obj c_AllSpans [none])) K E := by
  have hline : line = 16777216 := rfl
  refine call_of (fn := f_AllSpans___init__) rfl rfl ?_
  rw [ai_body]
  simp [f_AllSpans___init__, wpSs, wpS, wpTA, wpE, wpEs, wpI, wpTg, List.set, new]
  intro bb hbb
  have ap : p ≠ bb := by intro e; subst e; simp [put] at hbb
  have hb : μ bb = none := by rw [put_o (fun e => ap e.symm)] at hbb; exact hbb
  refine setFld_p (i := 0) (fs := [none]) (by rw [put_o ap, put_at]) gk_AllSpans rfl rfl ?_
  have e0 : put (put (put μ p (.obj c_AllSpans [none])) bb (.dcT [] [])) p (.obj c_AllSpans ([none].set 0 (some (.ptr bb)))) = Os μ p bb (.dcT [] []) := by
    funext z
    by_cases e1 : z = p <;> by_cases e2 : z = bb <;> simp_all [Os, put, asO]
  rw [e0]
  refine ⟨smallI (by omega) (by omega), ?_⟩
  have sub : ∀ c, Sub μ (Os μ p bb c) := fun c => sub_put hb (sub_put hp sub_refl)
  refine for_inv (I := fun L ρ μ1 => ∃ c m n, μ1 = Os μ p bb c ∧ DT c m n ∧ n ≤ L * 41 ∧ AllT (cst w g) m w.length L 0 ∧ ρ = aiE p w g w.length none none) ⟨_, _, 0, rfl, DT.nil, by omega, fun l o a b => by omega, rfl⟩ (fun _ _ _ _ => trivial) ?_ ?_
  · rintro L x ρ μ1 nx hx ⟨c, m, n, rfl, h, hn, hm, rfl⟩ hnx
    have hL : L < w.length + 1 := by
      have := (List.getElem?_eq_some_iff.mp hx).1
      simp at this
      omega
    have ex := range_get hx
    simp at ex
    subst ex
    rw [ai_in]
    simp [wpSs, wpS, wpI, wpE, wpEs, wpTg, List.set]
    refine ⟨smallI (by omega) (by omega), ?_⟩
    refine for_inv (I := fun O ρ μ1 => ∃ c m n, μ1 = Os μ p bb c ∧ DT c m n ∧ n ≤ L * 41 + O ∧ AllT (cst w g) m w.length L O ∧ ρ = aiE p w g w.length (some (.d (.int L))) none) ⟨_, _, _, rfl, h, by omega, hm, rfl⟩ (fun _ _ _ _ => trivial) ?_ ?_
    · rintro O x ρ μ1 nx2 hx ⟨c, m, n, rfl, h, hn, hm, rfl⟩ hnx2
      have hO : O + L ≤ w.length := by
        have := (List.getElem?_eq_some_iff.mp hx).1
        simp at this
        omega
      have ex := range_get hx
      simp at ex
      subst ex
      simp [List.set]
      refine ai_step (k := k) ap h (by omega) hm hO hmany fun c' m' ρ h' hm' hma => hnx2 _ _ ⟨c', m', n + 1, rfl, h', by omega, hm', hma⟩
    · rintro ρ μ1 ⟨c, m, n, rfl, h, hn, hm, rfl⟩
      refine hnx _ _ ⟨c, m, n, rfl, h, ?_, ?_, by simp [mask]⟩
      · simp at hn; omega
      · intro l o a b
        refine hm l o a ?_
        rcases b with b | b
        · by_cases q : l < L
          · exact .inl q
          · refine .inr ⟨by omega, ?_⟩
            simp; omega
        · omega
  · rintro ρ μ1 ⟨c, m, n, rfl, h, hn, hm, rfl⟩
    have : (rangeD 0 ((w.length : Int) + 1)).length = w.length + 1 := by simp
    rw [this] at hm
    exact ret_d sub_refl (hK bb c m n ap hb h hm)
def bestC (w g : List Int) : D := .tup [.int (te (cst w g) w.length w.length 0).1, tt (cst w g) 5 w.length 0]
theorem as_make {k : Nat} {w g : List Int} {μ : Store} {K : KA} {E : KX} (hmany : w.length ≤ 40)
    (hK : ∀ p bb c m n, p ≠ bb → μ p = none → μ bb = none → DT c m n → AllT (cst w g) m w.length (w.length + 1) 0 → K (.ptr p) (Os μ p bb c)) :
    make G (callW G (k + 3)) c_AllSpans true [.d (.tup (LI w)), .d (.tup (LI g))] μ K E := by
  simp only [make, gk_AllSpans, k_AllSpans]
  intro p hp
  refine as_init hp hmany fun bb c m n ap hb h hm => ?_
  exact ⟨trivial, hK p bb c m n ap hp hb h hm⟩
theorem told_best_ok {k : Nat} {w g : List Int} (h5 : w.length ≤ 5) : Ret G (k + 8) i_told_best [.tup (LI w), .tup (LI g)] (bestC w g) := by
  intro μ K E hK
  have hline : line = 16777216 := rfl
  refine call_of (fn := f_told_best) rfl rfl ?_
  simp [f_told_best, wpSs, wpS, wpTA, wpE, wpEs, List.set]
  refine as_make (k := k + 4) (by omega) fun p bb c m n ap hp hb h hm => ?_
  have sub : Sub μ (Os μ p bb c) := sub_put hb (sub_put hp sub_refl)
  have h0 := hm w.length 0 (by omega) (.inl (by omega))
  have e0 : ((0 : Nat) : Int) + (w.length : Int) - 1 = (w.length : Int) - 1 := by omega
  rw [e0] at h0
  simp [as_least (os_p ap)]
  refine least_of_ok (k := k + 6) (many := w.length) (os_p ap) os_b h h0 ?_
  simp [as_tree (os_p ap)]
  have := as_tree_ok (C := cst w g) (os_p (μ := μ) ap) os_b h hm 5 w.length 0 (k + 1) (fun x_1 μ2 => toD μ2 x_1 fun x μ2 => 2 ≤ line ∧ retW true K (.d (.tup [.int (te (cst w g) w.length w.length 0).1, x])) μ2) (fun x v μ1 => ∃ μ2, Cr.Sub μ2 μ1 ∧ E x v μ2) h5 (by omega) (by
    simp
    exact ⟨by omega, ret_d sub hK⟩)
  rw [e0] at this
  exact this
theorem best_tree_ok {k : Nat} {w g : List Int} (h : Wt w) (hg : Wt g) (h1 : 1 ≤ w.length) (h5 : w.length ≤ 5) (h3 : g.length = w.length + 1) : Ret G (k + 9) i_best_tree [.tup (LI w), .tup (LI g)] (bestC w g) := by
  intro μ K E hK
  refine call_of (fn := f_best_tree) rfl rfl ?_
  simp [f_best_tree, wpSs, wpS, wpE, wpEs]
  refine check_gaps_ok (k := k + 3) h hg h1 (by omega) h3 _ _ _ ?_
  refine told_best_ok (k := k) h5 _ _ _ ?_
  exact ret_d sub_refl hK
end K36


namespace K36
open PySem Cr
theorem cut_mem {α : Type} {xs : List α} {lo hi : Option Int} {y : α} (h : y ∈ cut xs lo hi) : y ∈ xs := List.mem_of_mem_drop (List.mem_of_mem_take h)
theorem cut_le {α : Type} {xs : List α} {lo hi : Option Int} : (cut xs lo hi).length ≤ xs.length := by
  unfold cut
  simp only [List.length_take, List.length_drop]
  omega
def vtB : Nat → D → Bool
  | 0, _ => false
  | f + 1, .tup xs => xs.all (vtB f)
  | _ + 1, d => isiD G d
theorem vt_of : ∀ {f : Nat} {d : D}, vtB f d = true → Vt d
  | 0, d, h => by simp [vtB] at h
  | f + 1, d, h => by
    by_cases q : ∃ xs, d = .tup xs
    · obtain ⟨xs, rfl⟩ := q
      refine .mk _ rfl fun ys e x hx => ?_
      cases e
      simp only [vtB, List.all_eq_true] at h
      exact vt_of (h x hx)
    · refine .mk _ ?_ fun ys e => absurd ⟨ys, e⟩ q
      cases d <;> first | exact absurd ⟨_, rfl⟩ q | exact h
theorem vt_tup {xs : List D} (h : ∀ x ∈ xs, Vt x) : Vt (.tup xs) := .mk _ rfl fun ys e => by cases e; exact h
theorem vt_lst {xs : List D} : Vt (.lst xs) := .mk _ rfl fun ys e => by cases e
theorem vt_int {i : Int} : Vt (.int i) := .mk _ rfl fun ys e => by cases e
theorem vt_non : Vt .non := .mk _ rfl fun ys e => by cases e
theorem vt_bl {b : Bool} : Vt (.bl b) := .mk _ rfl fun ys e => by cases e
theorem vt_str {b : List Nat} : Vt (.str b) := .mk _ rfl fun ys e => by cases e
/-- what is bent -/
inductive Gt : Nat → D → Prop
  | int {n : Nat} {i : Int} (h : i.natAbs < 2 ^ 70) : Gt n (.int i)
  | non {n : Nat} : Gt n .non
  | tup {n : Nat} {xs : List D} (h : ∀ x ∈ xs, Gt n x) (hl : xs.length ≤ 10) : Gt (n + 1) (.tup xs)
theorem gt_vt {n : Nat} {v : D} (h : Gt n v) : Vt v := by
  induction h with
  | int _ => exact vt_int
  | non => exact vt_non
  | tup _ _ ih => exact vt_tup ih
theorem flatDs_all : ∀ {k : Nat} {xs : List D}, (∀ x ∈ xs, flatD k x = true) → flatDs k xs = true
  | k, [], _ => by simp [flatDs]
  | k, x :: xs, h => by
    simp only [flatDs, Bool.and_eq_true]
    exact ⟨h x (by simp), flatDs_all fun y hy => h y (by simp [hy])⟩
theorem gt_flat {n : Nat} {v : D} (h : Gt n v) : ∀ {k}, n ≤ k → flatD k v = true := by
  induction h with
  | int _ => intro k _; cases k <;> rfl
  | non => intro k _; cases k <;> rfl
  | tup _ _ ih =>
    intro k hk
    obtain ⟨k, rfl⟩ : ∃ j, k = j + 1 := ⟨k - 1, by omega⟩
    simp only [flatD]
    exact flatDs_all fun x hx => ih x hx (by omega)
theorem tr_gt {n : Nat} {v : D} (h : TrD n v) : Gt n v := by
  induction h with
  | non => exact .non
  | tup ha _ _ ix iy =>
    refine .tup (fun x hx => ?_) (by simp)
    simp at hx
    rcases hx with rfl | rfl | rfl
    · exact .int (by omega)
    · exact ix
    · exact iy
theorem of_p {k a b n : Nat} {c : Cell} {xs : List D} (hab : a ≠ b) (h1 : 1 ≤ xs.length) (h2 : xs.length ≤ 10000) (hn : n ≤ 1000000) {μ : Store} {K : KA} {E : KX} (hc : Pot n c)
    (hK : ∀ d c', d ∈ xs → Pot (n + 1) c' → K (.d d) (put (put μ a c') b (.lst xs))) : callW G (k + 2) i__law_of [.ptr a, .ptr b] (put (put μ a c) b (.lst xs)) K E := by
  refine call_of (fn := f__law_of) rfl rfl ?_
  simp [f__law_of, wpSs, wpS, wpE, wpEs]
  rw [rd_p put_at]
  simp
  rw [put_comm hab]
  refine take_ok (k := k) h1 h2 hn hc fun r c' hr hc' => ?_
  rw [put_comm (fun e => hab e.symm)]
  rw [rd_p put_at]
  simp
  refine ⟨_, atI_nat hr, ?_⟩
  exact ⟨_, sub_refl, hK _ _ (List.getElem_mem hr) hc'⟩
def oddL : List D := [.non, .bl true, .bl false, .int 0, .int 1, .int (-1), .int 2, .int 9999, .int 10000, .str [], .str [97], .str [65], .str [98, 111, 111, 107], .str [97], .tup [], .lst [], .dct [] [], .tup [.int 0], .tup [.tup []], .lst [.int 0], .tup [.str [97]], .tup [.str [97], .str [98]], .tup [.int 1, .int 2], .tup [.non], .tup [.str [97], .str [98], .int 1], .int 100000000000]
theorem odd_vt : ∀ d ∈ oddL, Vt d := by
  have : oddL.all (vtB 5) = true := by decide
  exact fun d hd => vt_of (List.all_eq_true.mp this d hd)
theorem odd_ok {k a n : Nat} {c : Cell} (hn : n + 1 ≤ 1000000) {μ : Store} {K : KA} {E : KX} (hc : Pot n c)
    (hK : ∀ d c', Vt d → Pot (n + 1) c' → K (.d d) (put μ a c')) : callW G (k + 3) i__law_odd [.ptr a] (put μ a c) K E := by
  have hline : line = 16777216 := rfl
  refine call_of (fn := f__law_odd) rfl rfl ?_
  simp [f__law_odd, wpSs, wpS, wpT, wpTA, wpE, wpEs, kindOf, isiD, isTy, List.set, new]
  intro b hb
  have nba : b ≠ a := fun e => by rw [e, put_at] at hb; cases hb
  refine ⟨by omega, ?_⟩
  simp [toD, frz, del_put hb]
  refine ⟨by omega, fun b2 hb2 => ?_⟩
  have nba2 : a ≠ b2 := fun e => by rw [← e, put_at] at hb2; cases hb2
  have hb2' : μ b2 = none := by rw [put_o (fun e => nba2 e.symm)] at hb2; exact hb2
  simp [tagOf, bmT, isMut, mutate, opMut]
  have pw : PowOk 10 11 := ⟨by decide, by decide⟩
  refine ⟨by omega, by omega, by omega, by omega, pw, by omega, by omega, ?_⟩
  refine of_p (k := k) (xs := oddL) nba2 (by decide) (by decide) (by omega) hc fun d c' hd hc' => ?_
  exact ret_d (sub_put (by rw [put_o (fun e => nba2 e.symm)]; exact hb2') sub_refl) (hK d c' (odd_vt d hd) hc')
end K36


namespace K36
open PySem Cr
def beR : List CS := f__law_bent.body.drop 1
theorem be_body : f__law_bent.body = .ife (.and (.isi (.slot 1) .tuple) (.and (.cmp .ne (.slot 1) (.tup .nil)) (.cmp .gt (.call i__law_take (.cons (.slot 0) (.cons (.lit (.int 6)) .nil))) (.lit (.int 0))))) [.asg (.slot 2) (.call i__law_take (.cons (.slot 0) (.cons (.bi .len false (.cons (.slot 1) .nil)) .nil))), .ret (.bin false .add (.bin false .add (.sli false (.slot 1) .no (.yes (.slot 2))) (.tup (.cons (.call i__law_bent (.cons (.slot 0) (.cons (.idx (.slot 1) (.slot 2)) .nil))) .nil))) (.sli false (.slot 1) (.yes (.bin false .add (.slot 2) (.lit (.int 1)))) .no))] [] :: beR := rfl
theorem be_tup {k a n : Nat} {c : Cell} {xs : List D} (hx : ∀ x ∈ xs, Vt x) (hl : xs.length ≤ 10) (hn : n + 1 ≤ 1000000) {μ : Store} {P : Post} (hc : Pot n c)
    (hP : ∀ d c', Vt d → Pot (n + 1) c' → P.rt (.d d) (put μ a c')) :
    wpSs G (callW G (k + 2)) beR [some (.ptr a), some (.d (.tup xs)), none, none] (put μ a c) P := by
  have hline : line = 16777216 := rfl
  simp [beR, f__law_bent, wpSs, wpS, wpT, wpTA, wpE, wpEs, wpO, kindOf, isiD, isTy, List.set]
  have l1 : (cut xs (some (-1)) none).length ≤ xs.length := cut_le
  have l2 : (cut xs (some 1) none).length ≤ xs.length := cut_le
  refine ⟨by omega, by omega, by omega, by omega, ?_⟩
  refine of_ok (k := k) (by simp) (by simp) (by omega) hc fun d c2 hd hc2 => ?_
  refine hP d c2 ?_ hc2
  simp at hd
  have sub : ∀ ys : List D, (∀ y ∈ ys, y ∈ xs ∨ y = .int 0) → Vt (.tup ys) := fun ys h => vt_tup fun y hy => by
    rcases h y hy with q | rfl
    · exact hx y q
    · exact vt_int
  rcases hd with rfl | rfl | rfl | rfl | rfl | rfl | rfl | rfl
  · exact vt_lst
  · exact sub _ fun y hy => .inl (cut_mem hy)
  · exact sub _ fun y hy => .inl (cut_mem hy)
  · refine sub _ fun y hy => ?_
    rcases List.mem_append.mp hy with h | h
    · exact .inl h
    · exact .inl (cut_mem h)
  · exact sub _ fun y hy => .inl (by simpa using hy)
  · exact sub _ fun y hy => by cases hy
  · exact vt_non
  · refine sub _ fun y hy => ?_
    rcases List.mem_append.mp hy with h | h
    · exact .inl h
    · simp at h; exact .inr h
theorem be_int {k a n : Nat} {c : Cell} {i : Int} (hi : i.natAbs < 2 ^ 70) (hn : n + 1 ≤ 1000000) {μ : Store} {K : KA} {E : KX} (hc : Pot n c)
    (hK : ∀ d c', Vt d → Pot (n + 1) c' → K (.d d) (put μ a c')) : callW G (k + 3) i__law_bent [.ptr a, .d (.int i)] (put μ a c) K E := by
  have hline : line = 16777216 := rfl
  refine call_of (fn := f__law_bent) rfl rfl ?_
  simp [f__law_bent, wpSs, wpS, wpT, wpTA, wpE, wpEs, kindOf, isiD, isTy, List.set]
  have hlog := lt_log (n := i.natAbs) (k := 70) hi (by decide)
  refine ⟨by omega, by omega, ?_⟩
  refine of_ok (k := k) (by simp) (by simp) (by omega) hc fun d c2 hd hc2 => ?_
  refine ret_d sub_refl (hK d c2 ?_ hc2)
  simp at hd
  rcases hd with rfl | rfl | rfl | rfl | rfl | rfl | rfl | rfl
  all_goals first | exact vt_int | exact vt_non | exact vt_bl | exact vt_str
theorem be_non {k a n : Nat} {c : Cell} (hn : n + 1 ≤ 1000000) {μ : Store} {K : KA} {E : KX} (hc : Pot n c)
    (hK : ∀ d c', Vt d → Pot (n + 1) c' → K (.d d) (put μ a c')) : callW G (k + 4) i__law_bent [.ptr a, .d .non] (put μ a c) K E := by
  have hline : line = 16777216 := rfl
  refine call_of (fn := f__law_bent) rfl rfl ?_
  simp [f__law_bent, wpSs, wpS, wpT, wpTA, wpE, wpEs, kindOf, isiD, isTy, List.set]
  refine odd_ok (k := k) hn hc fun d c2 hd hc2 => ?_
  exact ret_d sub_refl (hK d c2 hd hc2)
theorem bent_ok {a : Nat} {μ : Store} : ∀ (f k n : Nat) (v : D) (c : Cell) (K : KA) (E : KX), Gt f v → n + 3 * f + 3 ≤ 1000000 → Pot n c → f ≤ 20 →
    (∀ d c', Vt d → Pot (n + 3 * f + 3) c' → K (.d d) (put μ a c')) → callW G (k + f + 4) i__law_bent [.ptr a, .d v] (put μ a c) K E := by
  have hline : line = 16777216 := rfl
  intro f
  induction f with
  | zero =>
    intro k n v c K E hv hn hc hf hK
    cases hv with
    | int h => exact be_int (k := k + 1) h (by omega) hc fun d c' a b => hK d c' a (pot_mono (by omega) b)
    | non => exact be_non (k := k) (by omega) hc fun d c' a b => hK d c' a (pot_mono (by omega) b)
  | succ f ih =>
    intro k n v c K E hv hn hc hf hK
    have hv0 := hv
    cases hv with
    | int h => exact be_int (k := k + (f + 1) + 1) h (by omega) hc fun d c' a b => hK d c' a (pot_mono (by omega) b)
    | non => exact be_non (k := k + (f + 1)) (by omega) hc fun d c' a b => hK d c' a (pot_mono (by omega) b)
    | tup h hl =>
      rename_i xs
      have hfl := gt_flat hv0 (k := dep) (by show f + 1 ≤ 40; omega)
      have hvx : ∀ x ∈ xs, Vt x := fun x hx => gt_vt (h x hx)
      refine call_of (fn := f__law_bent) rfl rfl ?_
      rw [be_body]
      simp [f__law_bent, wpSs, wpS, wpT, wpE, wpEs, kindOf, isiD, isTy]
      refine ⟨hfl, by rfl, ?_⟩
      cases xs with
      | nil =>
        simp [eqD, eqDs]
        refine be_tup (k := k + f + 2) hvx hl (by omega) hc fun d c' hd hc' => ?_
        exact ret_d sub_refl (hK d c' hd (pot_mono (by omega) hc'))
      | cons x0 xr =>
        have e0 : eqD (.tup (x0 :: xr)) (.tup []) = false := by simp [eqD, eqDs]
        simp only [e0, Bool.not_false]
        refine take_ok (k := k + f + 3) (u := 6) (by omega) (by omega) (by omega) hc fun r c1 hr hc1 => ?_
        simp
        by_cases hr0 : 0 < r
        · simp [hr0, wpSs, wpS, wpT, wpTA, wpE, wpEs, wpO, List.set]
          have e1 : ((xr.length : Nat) : Int) + 1 = ((xr.length + 1 : Nat) : Int) := by omega
          rw [e1]
          refine take_ok (k := k + f + 3) (u := xr.length + 1) (by omega) (by simp at hl; omega) (by omega) hc1 fun p c2 hp hc2 => ?_
          simp
          generalize hxs : x0 :: xr = xs at *
          have hlen : xs.length = xr.length + 1 := by rw [← hxs]; simp
          refine ⟨_, atI_nat (by omega), ?_⟩
          refine ih k (n + 1 + 1) xs[p] c2 _ _ (h _ (List.getElem_mem _)) (by omega) hc2 (by omega) fun d c3 hd hc3 => ?_
          have t1 : (cut xs none (some (p : Int))).length ≤ p := by
            rw [cutT]; simp; omega
          have t2 : (cut xs (some ((p : Int) + 1)) none).length ≤ xs.length - (p + 1) := by
            have := cutF (s := xs) (k := p + 1)
            rw [show (((p + 1 : Nat)) : Int) = (p : Int) + 1 by omega] at this
            rw [this]; simp
          simp
          refine ⟨by omega, by omega, by omega, ?_⟩
          refine ret_d sub_refl (hK _ c3 (vt_tup fun y hy => ?_) (pot_mono (by omega) hc3))
          simp at hy
          rcases hy with h | rfl | h
          · exact hvx y (cut_mem h)
          · exact hd
          · exact hvx y (cut_mem h)
        · simp [hr0]
          refine be_tup (k := k + f + 2) hvx hl (by omega) hc1 fun d c' hd hc' => ?_
          exact ret_d sub_refl (hK d c' hd (pot_mono (by omega) hc'))
end K36


namespace K36
open PySem Cr
theorem weights_ok {k a n many : Nat} {c : Cell} (hm : many ≤ 10) (hn : n + 12 ≤ 1000000) {μ : Store} {K : KA} {E : KX} (hc : Pot n c)
    (hK : ∀ w c', Wt w → w.length = many → Pot (n + 12) c' → K (.d (.tup (LI w))) (put μ a c')) : callW G (k + 3) i__law_weights [.ptr a, .d (.int many)] (put μ a c) K E := by
  have hline : line = 16777216 := rfl
  refine call_of (fn := f__law_weights) rfl rfl ?_
  simp [f__law_weights, wpSs, wpS, wpTA, wpE, wpEs, wpI, wpC, wpTg, wipe, List.set]
  refine ⟨by omega, ?_⟩
  refine of_ok (k := k) (by simp) (by simp) (by omega) hc fun d c1 hd hc1 => ?_
  obtain ⟨u, hu1, hu2, rfl⟩ : ∃ u : Nat, 1 ≤ u ∧ u ≤ 1000 ∧ d = .int u := by
    simp at hd
    rcases hd with rfl | rfl | rfl
    · exact ⟨2, by omega, by omega, rfl⟩
    · exact ⟨10, by omega, by omega, rfl⟩
    · exact ⟨1000, by omega, by omega, rfl⟩
  refine ⟨smallI (by omega) (by omega), fun b hb => ?_⟩
  have nba : a ≠ b := fun e => by rw [← e, put_at] at hb; cases hb
  have hb' : μ b = none := by rw [put_o (fun e => nba e.symm)] at hb; exact hb
  refine comp_st (I := fun i acc μ1 => ∃ w c', acc = LI w ∧ w.length = i ∧ Wt w ∧ Pot (n + 1 + i) c' ∧ μ1 = put μ a c') ⟨[], c1, rfl, rfl, (fun _ h => by cases h), hc1, rfl⟩ (by simp; omega) (fun _ _ _ _ => trivial) ?_ ?_
  · rintro i x acc μ1 hx ⟨w, c2, rfl, hw, hwt, hc2, rfl⟩ Kc h1 _
    have hi : i < many := by
      have := (List.getElem?_eq_some_iff.mp hx).1
      simpa using this
    rw [put_comm nba]
    refine take_ok (k := k + 1) hu1 (by omega) (by omega) hc2 fun r c3 hr hc3 => ?_
    simp
    rw [put_comm (fun e => nba e.symm)]
    refine h1 (.int r) (put μ a c3) ⟨w ++ [(r : Int)], c3, by simp, by simp [hw], fun y hy => ?_, hc3, rfl⟩
    simp at hy
    rcases hy with hy | rfl
    · exact hwt y hy
    · omega
  · rintro acc μ1 ⟨w, c2, rfl, hw, hwt, hc2, rfl⟩
    have hwl : w.length = many := by simpa using hw
    have e := del_put (μ := put μ a c2) (a := b) (c := .lst (LI w)) (by rw [put_o (fun e => nba e.symm)]; exact hb')
    rw [e]
    exact ret_d sub_refl (hK w c2 hwt hwl (pot_mono (by simp; omega) hc2))
theorem dt_putP {c : Cell} {m : List Int → Option D} {n : Nat} (h : DT c m n) {b f : Nat} {μ : Store} {a : List Int} {ts : List D} {K : Store → Prop} (e : μ b = some c) (hf : μ f = some (.lst ts)) (hbf : b ≠ f) (hn : n < line) (k : ∀ c', DT c' (fun j => if j = a then some (.lst ts) else m j) (n + 1) → K (put (del μ f) b c')) : setSubT (.ptr b) (a.map D.int) (.ptr f) μ K := by
  have hd : del μ f b = some c := by simp [del, hbf]; exact e
  have hp := h.put (a := a) (v := .lst ts) (μ := del μ f) (K := K) hd hn k
  obtain ⟨ks, vs, rfl, h1, h2, h3⟩ := h
  simp only [setSubT, e, toD, frz, hf]
  simpa only [setSubT, hd, toD_d] using hp
theorem vt_p {x y : D} (hx : Vt x) (hy : Vt y) : Vt (.tup [x, y]) := vt_tup fun z hz => by
  simp at hz
  rcases hz with rfl | rfl
  · exact hx
  · exact hy
end K36


namespace K36
open PySem Cr
/-! sums, sorted one way and the other -/
def sm (a b : List Int) : Int := ((a.zip b).map fun x => x.1 * x.2).sum
theorem sm_nil {q : List Int} : sm [] q = 0 := by simp [sm]
theorem sm_cons {a b : Int} {p q : List Int} : sm (a :: p) (b :: q) = a * b + sm p q := by simp [sm]
theorem sm_app : ∀ {a b p q : List Int}, a.length = p.length → sm (a ++ b) (p ++ q) = sm a p + sm b q
  | [], b, [], q, _ => by simp [sm_nil]
  | [], b, _ :: _, q, h => by simp at h
  | _ :: _, b, [], q, h => by simp at h
  | x :: a, b, y :: p, q, h => by
    simp only [List.cons_append, sm_cons]
    rw [sm_app (by simpa using h)]
    omega
/-- ascending -/
def insA (x : Int) : List Int → List Int
  | [] => [x]
  | y :: l => if x ≤ y then x :: y :: l else y :: insA x l
def srtA : List Int → List Int
  | [] => []
  | x :: l => insA x (srtA l)
/-- descending -/
def insD (x : Int) : List Int → List Int
  | [] => [x]
  | y :: l => if y ≤ x then x :: y :: l else y :: insD x l
def srtD : List Int → List Int
  | [] => []
  | x :: l => insD x (srtD l)
theorem insA_perm : ∀ {x : Int} {l : List Int}, (insA x l).Perm (x :: l)
  | x, [] => .refl _
  | x, y :: l => by
    unfold insA
    split
    · exact .refl _
    · exact (insA_perm.cons y).trans (.swap x y l)
theorem srtA_perm : ∀ {l : List Int}, (srtA l).Perm l
  | [] => .refl _
  | x :: l => insA_perm.trans (srtA_perm.cons x)
theorem insD_perm : ∀ {x : Int} {l : List Int}, (insD x l).Perm (x :: l)
  | x, [] => .refl _
  | x, y :: l => by
    unfold insD
    split
    · exact .refl _
    · exact (insD_perm.cons y).trans (.swap x y l)
theorem srtD_perm : ∀ {l : List Int}, (srtD l).Perm l
  | [] => .refl _
  | x :: l => insD_perm.trans (srtD_perm.cons x)
theorem insA_up : ∀ {x : Int} {l : List Int}, l.Pairwise (· ≤ ·) → (insA x l).Pairwise (· ≤ ·)
  | x, [], _ => by simp [insA]
  | x, y :: l, h => by
    unfold insA
    split
    · rename_i c
      refine List.pairwise_cons.mpr ⟨fun z hz => ?_, h⟩
      rcases List.mem_cons.mp hz with e | e
      · omega
      · have := (List.pairwise_cons.mp h).1 z e; omega
    · rename_i c
      refine List.pairwise_cons.mpr ⟨fun z hz => ?_, insA_up (List.pairwise_cons.mp h).2⟩
      rcases List.mem_cons.mp (insA_perm.mem_iff.mp hz) with e | e
      · omega
      · exact (List.pairwise_cons.mp h).1 z e
theorem srtA_up : ∀ {l : List Int}, (srtA l).Pairwise (· ≤ ·)
  | [] => by simp [srtA]
  | x :: l => insA_up srtA_up
theorem insD_dn : ∀ {x : Int} {l : List Int}, l.Pairwise (· ≥ ·) → (insD x l).Pairwise (· ≥ ·)
  | x, [], _ => by simp [insD]
  | x, y :: l, h => by
    unfold insD
    split
    · rename_i c
      refine List.pairwise_cons.mpr ⟨fun z hz => ?_, h⟩
      rcases List.mem_cons.mp hz with e | e
      · omega
      · have := (List.pairwise_cons.mp h).1 z e; omega
    · rename_i c
      refine List.pairwise_cons.mpr ⟨fun z hz => ?_, insD_dn (List.pairwise_cons.mp h).2⟩
      rcases List.mem_cons.mp (insD_perm.mem_iff.mp hz) with e | e
      · omega
      · exact (List.pairwise_cons.mp h).1 z e
theorem srtD_dn : ∀ {l : List Int}, (srtD l).Pairwise (· ≥ ·)
  | [] => by simp [srtD]
  | x :: l => insD_dn srtD_dn
theorem up_uni {a b : List Int} (p : a.Perm b) (ha : a.Pairwise (· ≤ ·)) (hb : b.Pairwise (· ≤ ·)) : a = b := p.eq_of_pairwise (fun x y _ _ h1 h2 => by omega) ha hb
theorem dn_uni {a b : List Int} (p : a.Perm b) (ha : a.Pairwise (· ≥ ·)) (hb : b.Pairwise (· ≥ ·)) : a = b := p.eq_of_pairwise (fun x y _ _ h1 h2 => by omega) ha hb
/-- a depth, put in its place, for the least weight -/
theorem ins_le : ∀ {W L : List Int} {x e : Int}, (x :: W).Pairwise (· ≤ ·) → L.Pairwise (· ≥ ·) → W.length = L.length → sm (x :: W) (insD e L) ≤ x * e + sm W L
  | W, [], x, e, _, _, h => by
    have : W = [] := List.length_eq_zero_iff.mp (by simpa using h)
    subst this
    simp [insD, sm]
  | [], f :: L, x, e, _, _, h => by simp at h
  | y :: W, f :: L, x, e, hw, hl, h => by
    unfold insD
    split
    · rename_i c
      simp only [sm_cons]
      omega
    · rename_i c
      have hxy : x ≤ y := (List.pairwise_cons.mp hw).1 y (by simp)
      have ih := ins_le (W := W) (L := L) (x := y) (e := e) (List.pairwise_cons.mp hw).2 (List.pairwise_cons.mp hl).2 (by simpa using h)
      rw [sm_cons, sm_cons (a := y)]
      have := Int.mul_le_mul_of_nonneg_left (show e ≤ f by omega) (show 0 ≤ y - x by omega)
      rw [Int.sub_mul, Int.sub_mul] at this
      omega
theorem srt_le : ∀ {W E : List Int}, W.Pairwise (· ≤ ·) → W.length = E.length → sm W (srtD E) ≤ sm W E
  | [], [], _, _ => by simp [sm]
  | [], _ :: _, _, h => by simp at h
  | _ :: _, [], _, h => by simp at h
  | x :: W, e :: E, hw, h => by
    have hl : W.length = E.length := by simpa using h
    have a := srt_le (List.pairwise_cons.mp hw).2 hl
    have b := ins_le (e := e) hw (srtD_dn (l := E)) (by rw [hl]; exact srtD_perm.length_eq.symm)
    rw [sm_cons]
    show sm (x :: W) (insD e (srtD E)) ≤ _
    omega
/-- whatever order: the same sum -/
theorem sm_perm {w x : List Int} (p : w.Perm x) : ∀ {d : List Int}, d.length = w.length → ∃ d', d'.Perm d ∧ sm x d' = sm w d := by
  induction p with
  | nil => intro d h; exact ⟨d, .refl _, rfl⟩
  | cons a p ih =>
    intro d h
    match d, h with
    | e :: d, h =>
      obtain ⟨d', p', e'⟩ := ih (d := d) (by simpa using h)
      exact ⟨e :: d', p'.cons e, by rw [sm_cons, sm_cons, e']⟩
  | swap a b l =>
    intro d h
    match d, h with
    | e :: f :: d, h => exact ⟨f :: e :: d, .swap e f d, by simp only [sm_cons]; omega⟩
  | trans p q ih1 ih2 =>
    intro d h
    obtain ⟨d1, p1, e1⟩ := ih1 h
    obtain ⟨d2, p2, e2⟩ := ih2 (d := d1) (by rw [p1.length_eq, h, p.length_eq])
    exact ⟨d2, p2.trans p1, by rw [e2, e1]⟩
theorem sm_mono : ∀ {w p q : List Int}, (∀ x ∈ w, 0 ≤ x) → p.length = q.length → (∀ (i : Nat) (x y : Int), p[i]? = some x → q[i]? = some y → x ≤ y) → sm w p ≤ sm w q
  | [], p, q, _, _, _ => by simp [sm]
  | z :: w, [], [], _, _, _ => by simp [sm]
  | z :: w, [], _ :: _, _, h, _ => by simp at h
  | z :: w, _ :: _, [], _, h, _ => by simp at h
  | z :: w, x :: p, y :: q, hw, hl, h => by
    have a := sm_mono (w := w) (p := p) (q := q) (fun u hu => hw u (by simp [hu])) (by simpa using hl) fun i u v hu hv => h (i + 1) u v (by simpa using hu) (by simpa using hv)
    have b := h 0 x y rfl rfl
    have c := Int.mul_le_mul_of_nonneg_left b (hw z (by simp))
    rw [sm_cons, sm_cons]
    omega
end K36


namespace K36
open PySem Cr
/-- the two least put together, till one is left -/
def hf : Nat → List Int → Int
  | f + 1, x :: y :: r => (x + y) + hf f (insA (x + y) r)
  | _, _ => 0
abbrev NI (e : List Nat) : List Int := e.map Int.ofNat
def insN (x : Nat) : List Nat → List Nat
  | [] => [x]
  | y :: l => if y ≤ x then x :: y :: l else y :: insN x l
def srtN : List Nat → List Nat
  | [] => []
  | x :: l => insN x (srtN l)
theorem insN_I {x : Nat} : ∀ {l : List Nat}, NI (insN x l) = insD x (NI l)
  | [] => rfl
  | y :: l => by
    unfold insN
    by_cases c : y ≤ x
    · have c2 : (Int.ofNat y) ≤ (x : Int) := by simp; exact c
      rw [if_pos c]
      simp only [NI, List.map_cons, insD]
      rw [if_pos c2]
      rfl
    · have c2 : ¬ (Int.ofNat y) ≤ (x : Int) := by simp; omega
      rw [if_neg c]
      simp only [NI, List.map_cons, insD]
      rw [if_neg c2]
      have := insN_I (x := x) (l := l)
      simp only [NI] at this
      rw [this]
theorem srtN_I : ∀ {l : List Nat}, NI (srtN l) = srtD (NI l)
  | [] => rfl
  | x :: l => by
    show NI (insN x (srtN l)) = insD _ (srtD (NI l))
    rw [insN_I, srtN_I]
    rfl
/-- depths of a tree, the deepest first -/
def kd : Nat → List Nat → Bool
  | _, [x] => x == 0
  | f + 1, a :: b :: r => a == b && Nat.ble 1 a && kd f (insN (a - 1) r)
  | _, _ => false
theorem hf_le : ∀ {f : Nat} {x : List Int} {e : List Nat}, x.Pairwise (· ≤ ·) → (NI e).Pairwise (· ≥ ·) → x.length = e.length → kd f e = true → hf f x ≤ sm x (NI e)
  | _, [x], [e], _, _, _, h => by
    have h0 : e = 0 := by cases ‹Nat› <;> simpa [kd] using h
    subst h0
    cases ‹Nat› <;> simp [hf, sm]
  | f + 1, x1 :: x2 :: xs, a :: b :: r, hx, he, hl, h => by
    simp only [kd, Bool.and_eq_true, beq_iff_eq, Nat.ble_eq] at h
    obtain ⟨⟨rfl, h1⟩, h2⟩ := h
    have hxs : xs.Pairwise (· ≤ ·) := (List.pairwise_cons.mp (List.pairwise_cons.mp hx).2).2
    have hr : (NI r).Pairwise (· ≥ ·) := (List.pairwise_cons.mp (List.pairwise_cons.mp he).2).2
    have hl2 : xs.length = r.length := by simpa using hl
    have up := insA_up (x := x1 + x2) hxs
    obtain ⟨d', p', e'⟩ := sm_perm (w := (x1 + x2) :: xs) (x := insA (x1 + x2) xs) insA_perm.symm (d := NI ((a - 1) :: r)) (by simp; omega)
    have sl := srt_le up (E := d') (by rw [insA_perm.length_eq, p'.length_eq]; simp; omega)
    have ed : srtD d' = NI (insN (a - 1) r) := by
      rw [insN_I]
      exact dn_uni (srtD_perm.trans (p'.trans insD_perm.symm)) srtD_dn (insD_dn hr)
    rw [ed] at sl
    have ih := hf_le (f := f) up (e := insN (a - 1) r) (by rw [insN_I]; exact insD_dn hr) (by
      have q : (NI (insN (a - 1) r)).length = r.length + 1 := by rw [insN_I, insD_perm.length_eq]; simp
      rw [insA_perm.length_eq]
      simp at q ⊢
      omega) h2
    have ey : sm ((x1 + x2) :: xs) (NI ((a - 1) :: r)) = (x1 + x2) * ((a - 1 : Nat) : Int) + sm xs (NI r) := sm_cons
    have ex : sm (x1 :: x2 :: xs) (NI (a :: a :: r)) = x1 * (a : Int) + (x2 * (a : Int) + sm xs (NI r)) := by
      show sm (x1 :: x2 :: xs) (Int.ofNat a :: Int.ofNat a :: NI r) = _
      rw [sm_cons, sm_cons]
      rfl
    have ea : ((a - 1 : Nat) : Int) = (a : Int) - 1 := by omega
    have em : (x1 + x2) * ((a : Int) - 1) = x1 * a + x2 * a - x1 - x2 := by
      rw [Int.mul_sub, Int.add_mul, Int.mul_one]
      omega
    rw [ea, em] at ey
    rw [ex]
    simp only [hf]
    omega
  | _, [], [], _, _, _, h => by cases ‹Nat› <;> simp [kd] at h
  | _, [], _ :: _, _, _, h, _ => by simp at h
  | _, _ :: _, [], _, _, h, _ => by simp at h
  | _, [_], _ :: _ :: _, _, _, h, _ => by simp at h
  | _, _ :: _ :: _, [_], _, _, h, _ => by simp at h
  | 0, _ :: _ :: _, _ :: _ :: _, _, _, _, h => by simp [kd] at h
/-- Kraft's sum is one -/
def krs (e : List Nat) : Nat := (e.map fun d => 2 ^ (8 - d)).sum
theorem krs_perm {a b : List Nat} (p : a.Perm b) : krs a = krs b := (p.map _).sum_nat
theorem hf_at : ∀ {f : Nat} {x : List Int}, 1 ≤ x.length → x.length ≤ f + 1 → x.length ≤ 7 → ∃ e : List Nat, e.length = x.length ∧ sm x (NI e) = hf f x ∧ krs e = 256 ∧ ∀ d ∈ e, d + 1 ≤ x.length
  | f, [x], _, _, _ => ⟨[0], rfl, by cases f <;> simp [hf, sm], by decide, by simp⟩
  | 0, x1 :: x2 :: xs, _, h, _ => by simp at h
  | f + 1, x1 :: x2 :: xs, _, h, h7 => by
    have hl : (insA (x1 + x2) xs).length = xs.length + 1 := by rw [insA_perm.length_eq]; rfl
    simp only [List.length_cons] at h h7
    obtain ⟨e', l', s', k', b'⟩ := hf_at (f := f) (x := insA (x1 + x2) xs) (by omega) (by omega) (by omega)
    obtain ⟨d', p', sd⟩ := sm_perm (insA_perm (x := x1 + x2) (l := xs)) (d := NI e') (by simp; omega)
    -- the depths, in the other order, are numbers again
    have nat : ∀ {l : List Int} {m : List Nat}, l.Perm (NI m) → ∃ q : List Nat, l = NI q ∧ q.Perm m := by
      intro l m p
      have hn : ∀ x ∈ l, ∃ k : Nat, x = Int.ofNat k := fun x hx => by
        obtain ⟨k, _, rfl⟩ := List.mem_map.mp (p.mem_iff.mp hx)
        exact ⟨k, rfl⟩
      have e : l = NI (l.map Int.toNat) := by
        clear p
        induction l with
        | nil => rfl
        | cons x l ih =>
          obtain ⟨k, rfl⟩ := hn x (by simp)
          have := ih fun y hy => hn y (by simp [hy])
          simp only [NI, List.map_cons] at this ⊢
          rw [← this]
          rfl
      refine ⟨l.map Int.toNat, e, ?_⟩
      have q := p.map Int.toNat
      have em : (NI m).map Int.toNat = m := by simp [NI, Function.comp_def]
      rw [em] at q
      exact q
    obtain ⟨q, rfl, pq⟩ := nat p'
    match q, pq with
    | [], pq => have := pq.length_eq; simp at this; omega
    | dy :: r, pq =>
      have hdy : dy + 1 ≤ xs.length + 1 := by
        have := b' dy (pq.mem_iff.mp (by simp))
        omega
      refine ⟨(dy + 1) :: (dy + 1) :: r, ?_, ?_, ?_, ?_⟩
      · have := pq.length_eq
        simp at this ⊢
        omega
      · have e1 : sm ((x1 + x2) :: xs) (NI (dy :: r)) = (x1 + x2) * (dy : Int) + sm xs (NI r) := sm_cons
        have e2 : sm (x1 :: x2 :: xs) (NI ((dy + 1) :: (dy + 1) :: r)) = x1 * ((dy + 1 : Nat) : Int) + (x2 * ((dy + 1 : Nat) : Int) + sm xs (NI r)) := by
          show sm (x1 :: x2 :: xs) (Int.ofNat (dy + 1) :: Int.ofNat (dy + 1) :: NI r) = _
          rw [sm_cons, sm_cons]
          rfl
        have e3 : ((dy + 1 : Nat) : Int) = (dy : Int) + 1 := by omega
        rw [e2, e3]
        simp only [hf]
        rw [← s', ← sd, e1, Int.mul_add, Int.mul_add, Int.add_mul]
        omega
      · have e1 := krs_perm pq
        rw [k'] at e1
        simp only [krs, List.map_cons, List.sum_cons] at e1 ⊢
        obtain ⟨j, hj⟩ : ∃ j, 8 - dy = j + 1 := ⟨7 - dy, by omega⟩
        have e2 : 8 - (dy + 1) = j := by omega
        rw [e2]
        rw [hj, Nat.pow_succ] at e1
        omega
      · intro d hd
        simp only [List.length_cons]
        rcases List.mem_cons.mp hd with e | e
        · omega
        · rcases List.mem_cons.mp e with e | e
          · omega
          · have := b' d (pq.mem_iff.mp (by simp [e]))
            omega
end K36


namespace K36
open PySem Cr
inductive Pr
  | lf
  | nd (x y : Pr)
def Pr.sz : Pr → Nat
  | .lf => 1
  | .nd x y => x.sz + y.sz
def Pr.dl : Pr → Nat → List Nat
  | .lf, d => [d]
  | .nd x y, d => x.dl (d + 1) ++ y.dl (d + 1)
def allP : Nat → Nat → List Pr
  | _, 0 => []
  | _, 1 => [.lf]
  | 0, _ + 2 => []
  | f + 1, l + 2 => (List.range (l + 1)).flatMap fun i => (allP f (i + 1)).flatMap fun x => (allP f (l + 1 - i)).map fun y => .nd x y
def lsts (m : Nat) : Nat → List (List Nat)
  | 0 => [[]]
  | n + 1 => (List.range m).flatMap fun d => (lsts m n).map fun l => d :: l
theorem lsts_mem {m : Nat} : ∀ {e : List Nat}, (∀ d ∈ e, d < m) → e ∈ lsts m e.length
  | [], _ => by simp [lsts]
  | d :: e, h => by
    simp only [List.length_cons, lsts, List.mem_flatMap, List.mem_map, List.mem_range]
    exact ⟨d, h d (by simp), e, lsts_mem fun x hx => h x (by simp [hx]), rfl⟩
def leL : List Nat → List Nat → Bool
  | [], [] => true
  | x :: l, y :: m => Nat.ble x (y + 1) && leL l m
  | _, _ => false
def c1 (n : Nat) : Bool := (allP 6 n).all fun t => kd 9 (srtN (t.dl 0))
def c2 (n : Nat) : Bool := (lsts n n).all fun e => !(krs e == 256) || (((allP 6 n).any fun t => leL (t.dl 0) e) && (((allP 6 n).any fun t => t.dl 0 == srtN e) && ((allP 6 n).any fun t => t.dl 0 == (srtN e).reverse)))
theorem c1_ok {n : Nat} (h5 : n ≤ 6) : c1 n = true := by
  obtain rfl | rfl | rfl | rfl | rfl | rfl | rfl : n = 0 ∨ n = 1 ∨ n = 2 ∨ n = 3 ∨ n = 4 ∨ n = 5 ∨ n = 6 := by omega
  all_goals decide +kernel
theorem c2_ok {n : Nat} (h1 : 1 ≤ n) (h5 : n ≤ 6) : c2 n = true := by
  obtain rfl | rfl | rfl | rfl | rfl | rfl : n = 1 ∨ n = 2 ∨ n = 3 ∨ n = 4 ∨ n = 5 ∨ n = 6 := by omega
  all_goals decide +kernel
end K36


namespace K36
open PySem Cr
theorem nat_perm {l : List Int} {m : List Nat} (p : l.Perm (NI m)) : ∃ q : List Nat, l = NI q ∧ q.Perm m := by
  have hn : ∀ x ∈ l, ∃ k : Nat, x = Int.ofNat k := fun x hx => by
    obtain ⟨k, _, rfl⟩ := List.mem_map.mp (p.mem_iff.mp hx)
    exact ⟨k, rfl⟩
  have e : l = NI (l.map Int.toNat) := by
    clear p
    induction l with
    | nil => rfl
    | cons x l ih =>
      obtain ⟨k, rfl⟩ := hn x (by simp)
      have := ih fun y hy => hn y (by simp [hy])
      simp only [NI, List.map_cons] at this ⊢
      rw [← this]
      rfl
  refine ⟨l.map Int.toNat, e, ?_⟩
  have q := p.map Int.toNat
  have em : (NI m).map Int.toNat = m := by simp [NI, Function.comp_def]
  rw [em] at q
  exact q
theorem dl_len : ∀ {t : Pr} {d : Nat}, (t.dl d).length = t.sz
  | .lf, _ => rfl
  | .nd x y, d => by simp [Pr.dl, Pr.sz, dl_len (t := x), dl_len (t := y)]
theorem allP_sz : ∀ {f l : Nat} {t : Pr}, t ∈ allP f l → t.sz = l
  | f, 0, t, h => by cases f <;> simp [allP] at h
  | f, 1, t, h => by
    have : t = .lf := by cases f <;> simpa [allP] using h
    subst this; rfl
  | 0, l + 2, t, h => by simp [allP] at h
  | f + 1, l + 2, t, h => by
    simp only [allP, List.mem_flatMap, List.mem_map, List.mem_range] at h
    obtain ⟨i, hi, x, hx, y, hy, rfl⟩ := h
    have a := allP_sz hx
    have b := allP_sz hy
    simp only [Pr.sz]
    omega
theorem low {w : List Int} {t : Pr} (h6 : w.length ≤ 6) (ht : t ∈ allP 6 w.length) : hf 9 (srtA w) ≤ sm w (NI (t.dl 0)) := by
  have hl : (t.dl 0).length = w.length := by rw [dl_len, allP_sz ht]
  obtain ⟨d', p', e'⟩ := sm_perm (srtA_perm (l := w)).symm (d := NI (t.dl 0)) (by simpa using hl)
  have hx : (srtA w).length = w.length := srtA_perm.length_eq
  have a := srt_le (srtA_up (l := w)) (E := d') (by rw [hx, p'.length_eq]; simp [hl])
  have ed : srtD d' = NI (srtN (t.dl 0)) := by
    rw [srtN_I]
    exact dn_uni (srtD_perm.trans (p'.trans srtD_perm.symm)) srtD_dn srtD_dn
  have hk : kd 9 (srtN (t.dl 0)) = true := by
    have := c1_ok h6
    simp only [c1, List.all_eq_true] at this
    exact this t ht
  have ln : (srtN (t.dl 0)).length = w.length := by
    have q : (NI (srtN (t.dl 0))).length = (NI (t.dl 0)).length := by rw [srtN_I, srtD_perm.length_eq]
    simp at q
    omega
  have b := hf_le (f := 9) (srtA_up (l := w)) (e := srtN (t.dl 0)) (by rw [srtN_I]; exact srtD_dn) (by omega) hk
  rw [ed] at a
  omega
theorem sm_up : ∀ {w : List Int} {q : List Nat}, q.length = w.length → sm w (NI (q.map (· + 1))) = sm w (NI q) + w.sum
  | [], [], _ => by simp [sm]
  | [], _ :: _, h => by simp at h
  | _ :: _, [], h => by simp at h
  | x :: w, d :: q, h => by
    have := sm_up (w := w) (q := q) (by simpa using h)
    show sm (x :: w) (Int.ofNat (d + 1) :: NI (q.map (· + 1))) = sm (x :: w) (Int.ofNat d :: NI q) + _
    rw [sm_cons, sm_cons, this, List.sum_cons]
    have : (Int.ofNat (d + 1)) = (d : Int) + 1 := by simp
    rw [this, Int.mul_add, Int.mul_one]
    have : (Int.ofNat d) = (d : Int) := rfl
    rw [this]
    omega
theorem leL_sm : ∀ {w : List Int} {p q : List Nat}, (∀ x ∈ w, 0 ≤ x) → leL p q = true → sm w (NI p) ≤ sm w (NI (q.map (· + 1)))
  | [], _, _, _, _ => by simp [sm]
  | x :: w, [], [], _, _ => by simp [sm]
  | x :: w, [], _ :: _, _, h => by simp [leL] at h
  | x :: w, _ :: _, [], _, h => by simp [leL] at h
  | x :: w, d :: p, f :: q, hw, h => by
    simp only [leL, Bool.and_eq_true, Nat.ble_eq] at h
    have a := leL_sm (w := w) (fun y hy => hw y (by simp [hy])) h.2
    have b := Int.mul_le_mul_of_nonneg_left (show (Int.ofNat d) ≤ Int.ofNat (f + 1) by simp; omega) (hw x (by simp))
    show sm (x :: w) (Int.ofNat d :: NI p) ≤ sm (x :: w) (Int.ofNat (f + 1) :: NI (q.map (· + 1)))
    rw [sm_cons, sm_cons]
    omega
/-- depths in the order of the weights, and what trees there are for them -/
theorem at_w {w : List Int} (h1 : 1 ≤ w.length) (h6 : w.length ≤ 6) : ∃ q : List Nat, q.length = w.length ∧ sm w (NI q) = hf 9 (srtA w) ∧ (∃ t ∈ allP 6 w.length, leL (t.dl 0) q = true) ∧ (∃ t ∈ allP 6 w.length, t.dl 0 = srtN q) ∧ (∃ t ∈ allP 6 w.length, t.dl 0 = (srtN q).reverse) := by
  have hx : (srtA w).length = w.length := srtA_perm.length_eq
  obtain ⟨e, l, s, kr, b⟩ := hf_at (f := 9) (x := srtA w) (by omega) (by omega) (by omega)
  obtain ⟨d', p', sd⟩ := sm_perm (srtA_perm (l := w)) (d := NI e) (by simp; omega)
  obtain ⟨q, rfl, pq⟩ := nat_perm p'
  have lq : q.length = w.length := by rw [pq.length_eq]; omega
  refine ⟨q, lq, by rw [sd, s], ?_⟩
  have mem : q ∈ lsts w.length w.length := by
    have := lsts_mem (m := w.length) (e := q) fun d hd => by
      have := b d (pq.mem_iff.mp hd)
      omega
    rw [lq] at this
    exact this
  have ck := c2_ok h1 h6
  simp only [c2, List.all_eq_true] at ck
  have ck := ck q mem
  have kq : krs q = 256 := by rw [krs_perm pq]; exact kr
  rw [kq] at ck
  simp at ck
  obtain ⟨⟨t1, m1, a1⟩, ⟨t2, m2, a2⟩, t3, m3, a3⟩ := ck
  exact ⟨⟨t1, m1, a1⟩, ⟨t2, m2, a2⟩, t3, m3, a3⟩
theorem high {w : List Int} (hw : ∀ x ∈ w, 0 ≤ x) (h1 : 1 ≤ w.length) (h6 : w.length ≤ 6) : ∃ t ∈ allP 6 w.length, sm w (NI (t.dl 0)) ≤ hf 9 (srtA w) + w.sum := by
  obtain ⟨q, lq, s, ⟨t, ht, hle⟩, _⟩ := at_w h1 h6
  refine ⟨t, ht, ?_⟩
  have a := leL_sm hw hle
  have b := sm_up (w := w) lq
  omega
theorem sm_rev {a b : List Int} (h : a.length = b.length) : sm a.reverse b.reverse = sm a b := by
  induction a generalizing b with
  | nil => cases b with
    | nil => rfl
    | cons y b => simp at h
  | cons x a ih => cases b with
    | nil => simp at h
    | cons y b =>
      have hl : a.length = b.length := by simpa using h
      rw [List.reverse_cons, List.reverse_cons, sm_app (by simp [hl]), ih hl, sm_cons, sm_cons]
      simp [sm]
      omega
theorem same_up {w : List Int} (h1 : 1 ≤ w.length) (h6 : w.length ≤ 6) (e : w = srtA w) : ∃ t ∈ allP 6 w.length, sm w (NI (t.dl 0)) ≤ hf 9 (srtA w) := by
  obtain ⟨q, lq, s, _, ⟨t, ht, hd⟩, _⟩ := at_w h1 h6
  refine ⟨t, ht, ?_⟩
  rw [hd, srtN_I]
  have up : w.Pairwise (· ≤ ·) := by rw [e]; exact srtA_up
  have := srt_le up (E := NI q) (by simp [lq])
  omega
theorem same_dn {w : List Int} (h1 : 1 ≤ w.length) (h6 : w.length ≤ 6) (e : w = (srtA w).reverse) : ∃ t ∈ allP 6 w.length, sm w (NI (t.dl 0)) ≤ hf 9 (srtA w) := by
  obtain ⟨q, lq, s, _, _, t, ht, hd⟩ := at_w h1 h6
  refine ⟨t, ht, ?_⟩
  have er : NI (t.dl 0) = (srtD (NI q)).reverse := by rw [hd, ← srtN_I]; simp [NI]
  rw [er]
  have hl : (srtD (NI q)).length = w.length := by rw [srtD_perm.length_eq]; simp [lq]
  have hr : w.reverse = srtA w := by
    have := congrArg List.reverse e
    rw [List.reverse_reverse] at this
    exact this
  have a : sm w (srtD (NI q)).reverse = sm w.reverse (srtD (NI q)) := by
    have := sm_rev (a := w.reverse) (b := srtD (NI q)) (by simp [hl])
    rw [List.reverse_reverse] at this
    exact this
  have b := srt_le (W := w.reverse) (E := (NI q).reverse) (by rw [hr]; exact srtA_up) (by simp [lq])
  have c : srtD (NI q).reverse = srtD (NI q) := dn_uni (srtD_perm.trans ((List.reverse_perm _).trans srtD_perm.symm)) srtD_dn srtD_dn
  have d := sm_rev (a := w) (b := NI q) (by simp [lq])
  rw [c, d] at b
  omega
end K36


namespace K36
open PySem Cr
def Pr.d : Pr → Nat → D
  | .lf, o => .int o
  | .nd x y, o => .tup [x.d o, y.d (o + x.sz)]
def cP (w : List Int) : Pr → Nat → Int
  | .lf, _ => 0
  | .nd x y, o => (seg w o (x.sz + y.sz)).sum + (cP w x o + cP w y (o + x.sz))
theorem NI_app {a b : List Nat} : NI (a ++ b) = NI a ++ NI b := by simp [NI]
theorem sm_P {w : List Int} : ∀ {t : Pr} {o d : Nat}, o + t.sz ≤ w.length → sm (seg w o t.sz) (NI (t.dl d)) = cP w t o + (d : Int) * (seg w o t.sz).sum
  | .lf, o, d, h => by
    simp only [Pr.sz] at h ⊢
    rw [seg_one (by omega)]
    simp [Pr.dl, cP, sm, Int.mul_comm]
  | .nd x y, o, d, h => by
    simp only [Pr.sz] at h ⊢
    have a := sm_P (w := w) (t := x) (o := o) (d := d + 1) (by omega)
    have b := sm_P (w := w) (t := y) (o := o + x.sz) (d := d + 1) (by omega)
    simp only [Pr.dl]
    rw [NI_app, seg_add, sm_app (by rw [seg_len (by omega)]; simp [NI, dl_len]), a, b]
    simp only [cP]
    rw [seg_add, List.sum_append]
    have e : ((d + 1 : Nat) : Int) = (d : Int) + 1 := by omega
    rw [e]
    simp only [Int.add_mul, Int.mul_add, Int.one_mul]
    omega
theorem seg_all {w : List Int} : seg w 0 w.length = w := by simp [seg]
theorem sm_all {w : List Int} {t : Pr} (ht : t ∈ allP 6 w.length) : sm w (NI (t.dl 0)) = cP w t 0 := by
  have a := sm_P (w := w) (t := t) (o := 0) (d := 0) (by rw [allP_sz ht]; omega)
  rw [allP_sz ht, seg_all] at a
  rw [a]
  have : ((0 : Nat) : Int) = 0 := rfl
  rw [this, Int.zero_mul]
  omega
theorem allP_st : ∀ {f g l : Nat}, l ≤ f + 1 → l ≤ g + 1 → allP f l = allP g l
  | f, g, 0, _, _ => by cases f <;> cases g <;> rfl
  | f, g, 1, _, _ => by cases f <;> cases g <;> rfl
  | 0, g, l + 2, h, _ => by omega
  | f + 1, 0, l + 2, _, h => by omega
  | f + 1, g + 1, l + 2, h1, h2 => by
    unfold allP
    rw [List.flatMap_def, List.flatMap_def]
    congr 1
    apply List.map_congr_left
    intro i hi
    have := List.mem_range.mp hi
    rw [allP_st (f := f) (g := g) (l := i + 1) (by omega) (by omega), allP_st (f := f) (g := g) (l := l + 1 - i) (by omega) (by omega)]
theorem mem_6 {l i : Nat} {x y : Pr} (hl : l + 2 ≤ 6) (hi : i ≤ l) (hx : x ∈ allP 6 (i + 1)) (hy : y ∈ allP 6 (l + 1 - i)) : .nd x y ∈ allP 6 (l + 2) := by
  simp only [allP, List.mem_flatMap, List.mem_map, List.mem_range]
  refine ⟨i, by omega, x, ?_, y, ?_, rfl⟩
  · rw [allP_st (f := 5) (g := 6) (by omega) (by omega)]; exact hx
  · rw [allP_st (f := 5) (g := 6) (by omega) (by omega)]; exact hy
theorem of_6 {l : Nat} {t : Pr} (hl : l + 2 ≤ 6) (ht : t ∈ allP 6 (l + 2)) : ∃ i x y, i ≤ l ∧ x ∈ allP 6 (i + 1) ∧ y ∈ allP 6 (l + 1 - i) ∧ t = .nd x y := by
  simp only [allP, List.mem_flatMap, List.mem_map, List.mem_range] at ht
  obtain ⟨i, hi, x, hx, y, hy, rfl⟩ := ht
  rw [allP_st (f := 5) (g := 6) (by omega) (by omega)] at hx
  rw [allP_st (f := 5) (g := 6) (by omega) (by omega)] at hy
  exact ⟨i, x, y, by omega, hx, hy, rfl⟩
theorem allP_ne {l : Nat} (h1 : 1 ≤ l) (h6 : l ≤ 6) : allP 6 l ≠ [] := by
  obtain rfl | rfl | rfl | rfl | rfl | rfl : l = 1 ∨ l = 2 ∨ l = 3 ∨ l = 4 ∨ l = 5 ∨ l = 6 := by omega
  all_goals
    intro e
    have := congrArg List.isEmpty e
    revert this
    decide +kernel
theorem allP_len {l : Nat} (h6 : l ≤ 6) : (allP 6 l).length ≤ 42 := by
  obtain rfl | rfl | rfl | rfl | rfl | rfl | rfl : l = 0 ∨ l = 1 ∨ l = 2 ∨ l = 3 ∨ l = 4 ∨ l = 5 ∨ l = 6 := by omega
  all_goals decide +kernel
def cmP (w : List Int) (l o : Nat) : Int := lmin ((allP 6 l).map fun t => cP w t o)
theorem cmP_le {w : List Int} {l o : Nat} {t : Pr} (ht : t ∈ allP 6 l) : cmP w l o ≤ cP w t o := by
  have hm : cP w t o ∈ (allP 6 l).map fun t => cP w t o := List.mem_map.mpr ⟨t, ht, rfl⟩
  exact (lmin_ok (by intro e; rw [e] at hm; cases hm)).2 _ hm
theorem cmP_at {w : List Int} {l o : Nat} (h1 : 1 ≤ l) (h6 : l ≤ 6) : ∃ t, t ∈ allP 6 l ∧ cP w t o = cmP w l o := by
  have hne : (allP 6 l).map (fun t => cP w t o) ≠ [] := by simpa using allP_ne h1 h6
  obtain ⟨t, ht, e⟩ := List.mem_map.mp (lmin_ok hne).1
  exact ⟨t, ht, e⟩
theorem cmP_1 {w : List Int} {o : Nat} : cmP w 1 o = 0 := rfl
def candP (w : List Int) (l o i : Nat) : Int := cmP w (i + 1) o + cmP w (l + 1 - i) (o + i + 1)
theorem cP_nd {w : List Int} {l o i : Nat} {x y : Pr} (hi : i ≤ l) (hx : x ∈ allP 6 (i + 1)) (hy : y ∈ allP 6 (l + 1 - i)) : cP w (.nd x y) o = (seg w o (l + 2)).sum + (cP w x o + cP w y (o + i + 1)) := by
  have a := allP_sz hx
  have b := allP_sz hy
  have e1 : x.sz + y.sz = l + 2 := by omega
  have e2 : o + x.sz = o + i + 1 := by omega
  simp only [cP, e1, e2]
theorem cmP_cand {w : List Int} {l o i : Nat} (hl : l + 2 ≤ 6) (hi : i ≤ l) : cmP w (l + 2) o ≤ (seg w o (l + 2)).sum + candP w l o i := by
  obtain ⟨x, hx, ex⟩ := cmP_at (w := w) (l := i + 1) (o := o) (by omega) (by omega)
  obtain ⟨y, hy, ey⟩ := cmP_at (w := w) (l := l + 1 - i) (o := o + i + 1) (by omega) (by omega)
  have := cmP_le (w := w) (o := o) (mem_6 hl hi hx hy)
  rw [cP_nd hi hx hy, ex, ey] at this
  exact this
theorem cmP_eq {w : List Int} {l o j : Nat} (hl : l + 2 ≤ 6) (hj : j ≤ l) (hm : ∀ i, i ≤ l → candP w l o j ≤ candP w l o i) : (seg w o (l + 2)).sum + candP w l o j = cmP w (l + 2) o := by
  have a := cmP_cand (w := w) (o := o) hl hj
  obtain ⟨t, ht, e⟩ := cmP_at (w := w) (l := l + 2) (o := o) (by omega) hl
  obtain ⟨i, x, y, hi, hx, hy, rfl⟩ := of_6 hl ht
  rw [cP_nd hi hx hy] at e
  have h1 := cmP_le (w := w) (o := o) hx
  have h2 := cmP_le (w := w) (o := o + i + 1) hy
  have := hm i hi
  unfold candP at *
  omega
/-- gaps alone: the same least sum -/
theorem te_cmP {w : List Int} {k : Nat} : ∀ {l o : Nat}, l + 1 ≤ 6 → (te (cst (List.replicate k 0) w) l l o).1 = cmP w (l + 1) o := by
  intro l
  induction l using Nat.strongRecOn with
  | _ l ih =>
    intro o hl
    cases l with
    | zero => simp [te, cmP_1]
    | succ l =>
      rw [te_eq]
      obtain ⟨j, hj, ej⟩ := te_at (C := cst (List.replicate k 0) w) (l := l) (o := o)
      have cd : ∀ i, i ≤ l → (te (cst (List.replicate k 0) w) i i o).1 + (te (cst (List.replicate k 0) w) (l - i) (l - i) (o + i + 1)).1 = candP w l o i := fun i hi => by
        rw [ih i (by omega) (by omega), ih (l - i) (by omega) (by omega)]
        have : l - i + 1 = l + 1 - i := by omega
        rw [this]
        rfl
      have hmin : ∀ i, i ≤ l → candP w l o j ≤ candP w l o i := fun i hi => by
        have m := (mnP_ok (l := rowsT (cst (List.replicate k 0) w) l o) (by simp [rowsT])).2 _ (List.mem_map.mpr ⟨i, List.mem_range.mpr (by omega), rfl⟩)
        rw [ej, cd j hj, cd i hi] at m
        unfold leP at m
        simp only at m
        omega
      have h := cmP_eq (w := w) (o := o) (by omega) hj hmin
      rw [ej, cd j hj]
      have ec : cst (List.replicate k 0) w (l + 1) o = (seg w o (l + 2)).sum := by
        have : ((List.replicate k (0 : Int)).drop o).take (l + 1) = List.replicate (min (l + 1) (k - o)) 0 := by simp
        simp only [cst, this, seg]
        simp
      rw [ec]
      exact h
/-! bounds -/
theorem cP_bd {w : List Int} (hw : Wt w) : ∀ {t : Pr} {o : Nat}, t.sz ≤ 6 → 0 ≤ cP w t o ∧ cP w t o ≤ 6000 * (t.sz - 1 : Int)
  | .lf, o, _ => by simp [cP, Pr.sz]
  | .nd x y, o, h => by
    simp only [Pr.sz] at h
    have a := cP_bd hw (t := x) (o := o) (by omega)
    have b := cP_bd hw (t := y) (o := o + x.sz) (by omega)
    have s := sum_bd (l := seg w o (x.sz + y.sz)) fun z hz => hw z (List.mem_of_mem_drop (List.mem_of_mem_take hz))
    have sl : (seg w o (x.sz + y.sz)).length ≤ 6 := by simp [seg]; omega
    simp only [cP, Pr.sz]
    omega
theorem cmP_bd {w : List Int} {l o : Nat} (hw : Wt w) (h1 : 1 ≤ l) (h6 : l ≤ 6) : 0 ≤ cmP w l o ∧ cmP w l o ≤ 36000 := by
  obtain ⟨t, ht, e⟩ := cmP_at (w := w) (l := l) (o := o) h1 h6
  have a := cP_bd hw (t := t) (o := o) (by rw [allP_sz ht]; exact h6)
  rw [allP_sz ht] at a
  omega
end K36


namespace K36
open PySem Cr
def EntP (w : List Int) (l o : Nat) (v : D) : Prop := ∃ a, v = .tup [.int (cmP w l o), a] ∧ ((l = 1 ∧ a = .non) ∨ ∃ l' j, l = l' + 2 ∧ j ≤ l' ∧ a = .int ((o + j : Nat) : Int) ∧ (seg w o (l' + 2)).sum + candP w l' o j = cmP w (l' + 2) o)
def AllP (w : List Int) (m : List Int → Option D) (L O : Nat) : Prop := ∀ l o : Nat, 1 ≤ l → o + l ≤ w.length → (l < L ∨ (l = L ∧ o < O)) → ∃ v, m [(o : Int), (o : Int) + (l : Nat) - 1] = some v ∧ EntP w l o v
theorem allP_put {w : List Int} {m : List Int → Option D} {L O : Nat} {v : D} (hm : AllP w m L O) (hv : EntP w L O v) : AllP w (fun j => if j = [(O : Int), (O : Int) + (L : Nat) - 1] then some v else m j) L (O + 1) := by
  intro l o h1 h2 h3
  by_cases e : [(o : Int), (o : Int) + (l : Nat) - 1] = [(O : Int), (O : Int) + (L : Nat) - 1]
  · simp only [e, if_true]
    simp at e
    have : o = O := by omega
    subst this
    have : l = L := by omega
    subst this
    exact ⟨v, rfl, hv⟩
  · simp only [e, if_false]
    refine hm l o h1 h2 ?_
    by_cases hl : l < L
    · exact .inl hl
    · refine .inr ⟨by omega, ?_⟩
      have : l = L := by omega
      subst this
      have : o ≠ O := by intro q; subst q; exact e rfl
      omega
theorem allP_L {w : List Int} {m : List Int → Option D} {L O : Nat} (h : AllP w m L O) (hO : w.length < O + L) : AllP w m (L + 1) 0 := fun l o a1 a2 a3 => h l o a1 a2 (by omega)
def ppB : List CS := bodyOf (f_pairs_by.body.getD 1 .pass)
def ppI : List CS := bodyOf (ppB.getD 0 .pass)
theorem pp_body : f_pairs_by.body = [.asg (.slot 1) .dctT, .for_ (.slot 2) (.rng2 (.lit (.int 1)) (.bin false .add (.bi .len false (.cons (.slot 0) .nil)) (.lit (.int 1)))) ppB, .ret (.slot 1)] := rfl
theorem pp_in : ppB = [.for_ (.slot 3) (.rng1 (.bin false .add (.bin false .sub (.bi .len false (.cons (.slot 0) .nil)) (.slot 2)) (.lit (.int 1)))) ppI] := rfl
abbrev ppE (w : List Int) (b : Nat) (lg one : Option A) : Cr.Env := [some (.d (.tup (LI w))), some (.ptr b), lg, one, none, none, none, none]
theorem pp_cell {k b n L O : Nat} {w : List Int} {c : Cell} {m : List Int → Option D} {μ : Store} {P : Post} (hb : μ b = some c) (hd : DT c m n) (hn : n < 10000) (hw : Wt w) (h6 : w.length ≤ 6) (hL : 1 ≤ L) (hOL : O + L ≤ w.length) (hm : AllP w m L O)
    (hP : ∀ c' m' ρ, AllP w m' L (O + 1) → DT c' m' (n + 1) → mask (ppE w b (some (.d (.int L))) none) ρ = ppE w b (some (.d (.int L))) none → P.nx ρ (put μ b c')) :
    wpSs G (callW G k) ppI (ppE w b (some (.d (.int L))) (some (.d (.int O)))) μ P := by
  have hline : line = 16777216 := rfl
  simp [ppI, ppB, bodyOf, f_pairs_by, wpSs, wpS, wpT, wpTA, wpTAs, wpE, wpEs, wpO, wpI, wpC, wpTg, wipe, List.set]
  obtain ⟨l, rfl⟩ : ∃ l, L = l + 1 := ⟨L - 1, by omega⟩
  refine ⟨smallI (by omega) (by omega), smallI (by omega) (by omega), fun a ha => ?_⟩
  have hab : b ≠ a := by intro q; subst q; rw [ha] at hb; cases hb
  have e0 : (O : Int) + ((l + 1 : Nat) : Int) - 1 = (O : Int) + (l : Nat) := by omega
  rw [e0, range2_map]
  refine compM (List.range l) (fun k : Nat => D.int ((O : Int) + (k : Int))) (fun k => .tup [.int (cmP w (k + 1) O + cmP w (l - k) (O + k + 1)), .int ((O : Int) + (k : Int))]) (fun _ _ => trivial) (by simp; omega) (fun i hi μ1 hμ Kc hKc => ?_) ?_
  · have hil : i < l := List.mem_range.mp hi
    have hb1 : μ1 b = some c := by rw [hμ b hab]; exact hb
    obtain ⟨v1, m1, a1, rfl, _⟩ := hm (i + 1) O (by omega) (by omega) (.inl (by omega))
    obtain ⟨v2, m2, a2, rfl, _⟩ := hm (l - i) (O + i + 1) (by omega) (by omega) (.inl (by omega))
    have e1 : (O : Int) + ((i + 1 : Nat) : Int) - 1 = (O : Int) + i := by omega
    have e2 : ((O + i + 1 : Nat) : Int) + ((l - i : Nat) : Int) - 1 = (O : Int) + (l : Nat) := by omega
    have e3 : ((O + i + 1 : Nat) : Int) = (O : Int) + i + 1 := by omega
    rw [e1] at m1
    rw [e2, e3] at m2
    refine ⟨by omega, ?_⟩
    refine hd.rd (a := [(O : Int), (O : Int) + i]) hb1 m1 ?_
    simp
    refine ⟨by omega, ?_⟩
    refine hd.rd (a := [(O : Int) + i + 1, (O : Int) + (l : Nat)]) hb1 m2 ?_
    simp
    exact ⟨by omega, hKc⟩
  rw [del_put ha]
  have c1 : cut (LI w) (some (O : Int)) (some ((O : Int) + ((l + 1 : Nat) : Int))) = LI (seg w O (l + 1)) := by
    have e4 : (O : Int) + ((l + 1 : Nat) : Int) = ((O + (l + 1) : Nat) : Int) := by omega
    rw [e4, cutLI (by omega)]
    have : O + (l + 1) - O = l + 1 := by omega
    rw [this, seg]
  rw [c1]
  refine ⟨_, ints_LI _, ?_⟩
  have fin : ∀ v, EntP w (l + 1) O v → ∀ ρ, mask (ppE w b (some (.d (.int ((l + 1 : Nat) : Int)))) none) ρ = ppE w b (some (.d (.int ((l + 1 : Nat) : Int)))) none → setSubT (.ptr b) [.int O, .int ((O : Int) + (l : Nat))] (.d v) μ fun μ4 => P.nx ρ μ4 := by
    intro v hv ρ hma
    refine hd.put (a := [(O : Int), (O : Int) + (l : Nat)]) hb (by omega) fun c' h' => ?_
    have := allP_put hm hv
    rw [e0] at this
    exact hP c' _ ρ this h' hma
  cases l with
  | zero =>
    simp
    refine ⟨by omega, ?_⟩
    have := fin (.tup [.int 0, .non]) ⟨.non, by rw [cmP_1], .inl ⟨rfl, rfl⟩⟩
    simp at this
    exact this _ (by simp [mask])
  | succ l =>
    have hne : (!((List.range (l + 1)).map fun k : Nat => D.tup [.int (cmP w (k + 1) O + cmP w (l + 1 - k) (O + k + 1)), .int ((O : Int) + (k : Int))]).isEmpty) = true := by simp
    rw [hne]
    have hps : pairsI ((List.range (l + 1)).map fun k : Nat => D.tup [.int (cmP w (k + 1) O + cmP w (l + 1 - k) (O + k + 1)), .int ((O : Int) + (k : Int))]) = some ((List.range (l + 1)).map fun k : Nat => (candP w l O k, (O : Int) + (k : Int))) := pairs_map
    have hpn : ((List.range (l + 1)).map fun k : Nat => (candP w l O k, (O : Int) + (k : Int))) ≠ [] := by simp
    refine ⟨_, hps, hpn, fun a1 b1 h1 g1 => ⟨_, hps, hpn, fun a2 b2 h2 g2 => ⟨by omega, ?_⟩⟩⟩
    obtain ⟨j, hj, ej⟩ := List.mem_map.mp h1
    obtain ⟨j2, hj2, ej2⟩ := List.mem_map.mp h2
    have hj2l := List.mem_range.mp hj2
    simp only [Prod.mk.injEq] at ej ej2
    have s1 := g1 a2 b2 h2
    have s2 := g2 a1 b1 h1
    have ea : a1 = a2 := by omega
    have hmin : ∀ i, i ≤ l → candP w l O j2 ≤ candP w l O i := fun i hi => by
      have := g2 (candP w l O i) ((O : Int) + (i : Int)) (List.mem_map.mpr ⟨i, List.mem_range.mpr (by omega), rfl⟩)
      omega
    have hc := cmP_eq (w := w) (o := O) (by omega) (show j2 ≤ l by omega) hmin
    have ev : D.tup [.int ((seg w O (l + 1 + 1)).sum + a1), .int b2] = .tup [.int (cmP w (l + 1 + 1) O), .int ((O + j2 : Nat) : Int)] := by
      have hc' : (seg w O (l + 1 + 1)).sum + candP w l O j2 = cmP w (l + 1 + 1) O := hc
      have h3 : (seg w O (l + 1 + 1)).sum + a1 = cmP w (l + 1 + 1) O := by
        rw [← hc']
        omega
      have h4 : b2 = ((O + j2 : Nat) : Int) := by omega
      rw [h3, h4]
    rw [ev]
    refine fin _ ⟨_, rfl, .inr ⟨l, j2, rfl, by omega, rfl, hc⟩⟩ _ (by simp [mask])
theorem pairs_by_ok {k : Nat} {w : List Int} {μ : Store} {K : KA} {E : KX} (hw : Wt w) (h1 : 1 ≤ w.length) (h6 : w.length ≤ 6)
    (hK : ∀ b c m n, μ b = none → DT c m n → AllP w m (w.length + 1) 0 → K (.ptr b) (put μ b c)) : callW G (k + 1) i_pairs_by [.d (.tup (LI w))] μ K E := by
  have hline : line = 16777216 := rfl
  refine call_of (fn := f_pairs_by) rfl rfl ?_
  rw [pp_body]
  simp [f_pairs_by, wpSs, wpS, wpT, wpTA, wpTAs, wpE, wpEs, wpI, wpTg, List.set, new]
  intro b hb
  refine ⟨smallI (by omega) (by omega), smallI (by omega) (by omega), ?_⟩
  have er : rangeD 1 ((w.length : Int) + 1) = (List.range w.length).map fun k : Nat => D.int (((1 : Nat) : Int) + (k : Int)) := by
    have : (w.length : Int) + 1 = ((1 : Nat) : Int) + (w.length : Int) := by omega
    rw [this]
    exact range2_map (i := 1)
  rw [er]
  refine for_inv (I := fun L ρ μ1 => ∃ c m n, μ1 = put μ b c ∧ DT c m n ∧ n ≤ L * 10 ∧ AllP w m (L + 1) 0 ∧ ρ = ppE w b none none) ⟨_, _, 0, rfl, DT.nil, by omega, fun l o a1 a2 a3 => by omega, rfl⟩ (fun _ _ _ _ => trivial) ?_ ?_
  · rintro L x ρ μ1 nx hx ⟨c, m, n, rfl, h, hn, hm, rfl⟩ hnx
    have hL : L < w.length := by
      have := (List.getElem?_eq_some_iff.mp hx).1
      simpa using this
    have ex : x = .int ((L + 1 : Nat) : Int) := by
      simp [hL] at hx
      rw [← hx]
      congr 1
      omega
    subst ex
    rw [pp_in]
    simp only [wpSs, wpS, wpI, wpE, wpEs, List.set, List.getElem?_cons_succ, List.getElem?_cons_zero, rds]
    simp
    refine ⟨smallI (by omega) (by omega), ?_⟩
    have er2 : rangeD 0 ((w.length : Int) - ((L : Int) + 1) + 1) = (List.range (w.length - L)).map fun k : Nat => D.int (k : Int) := by
      have : (w.length : Int) - ((L : Int) + 1) + 1 = ((w.length - L : Nat) : Int) := by omega
      rw [this]
      exact range_map
    rw [er2]
    have ec : (L : Int) + 1 = ((L + 1 : Nat) : Int) := by omega
    rw [ec]
    refine for_inv (I := fun O ρ μ1 => ∃ c m n, μ1 = put μ b c ∧ DT c m n ∧ n ≤ L * 10 + O ∧ AllP w m (L + 1) O ∧ ρ = ppE w b (some (.d (.int ((L + 1 : Nat) : Int)))) none) ⟨_, _, _, rfl, h, by omega, hm, rfl⟩ (fun _ _ _ _ => trivial) ?_ ?_
    · rintro O x ρ μ1 nx3 hx ⟨c, m, n, rfl, h, hn, hm, rfl⟩ hnx3
      have hO : O < w.length - L := by
        have := (List.getElem?_eq_some_iff.mp hx).1
        simpa using this
      have ex : x = .int (O : Int) := by
        simp [hO] at hx
        exact hx.symm
      subst ex
      simp only [wpTg, List.set]
      exact pp_cell (k := k) put_at h (by omega) hw h6 (by omega) (by omega) hm fun c' m' ρ hm' h' hma => hnx3 _ _ ⟨c', m', n + 1, by rw [put_put], h', by omega, hm', hma⟩
    · rintro ρ μ1 ⟨c, m, n, rfl, h, hn, hm, rfl⟩
      simp at hn hm
      exact hnx _ _ ⟨c, m, n, rfl, h, by omega, allP_L hm (by omega), by simp [mask]⟩
  · rintro ρ μ1 ⟨c, m, n, rfl, h, hn, hm, rfl⟩
    simp at hm
    simp
    exact ⟨_, sub_refl, hK b c m n hb h hm⟩
end K36


namespace K36
open PySem Cr
theorem pairing_ok {b n : Nat} {w : List Int} {c : Cell} {m : List Int → Option D} {μ : Store} (h6 : w.length ≤ 6) (hb : μ b = some c) (hd : DT c m n) (hm : AllP w m (w.length + 1) 0) :
    ∀ f l o k K E, 1 ≤ l → l ≤ f → o + l ≤ w.length → (∀ t, t ∈ allP 6 l → cP w t o = cmP w l o → K (.d (t.d o)) μ) → callW G (k + f) i_pairing_by [.ptr b, .d (.int (o : Nat)), .d (.int ((o : Int) + (l : Nat) - 1))] μ K E := by
  have hline : line = 16777216 := rfl
  intro f
  induction f with
  | zero => intro l o k K E h1 hl; omega
  | succ f ih =>
    intro l o k K E h1 hl ho hK
    refine call_of (k := k + f) (fn := f_pairing_by) rfl rfl ?_
    simp [f_pairing_by, wpSs, wpS, wpT, wpTA, wpE, wpEs]
    obtain ⟨v, hv, a, rfl, ha⟩ := hm l o h1 (by omega) (by omega)
    refine ⟨by omega, ?_⟩
    refine hd.rd (a := [(o : Int), (o : Int) + (l : Nat) - 1]) hb hv ?_
    rcases ha with ⟨rfl, rfl⟩ | ⟨l', j, rfl, hj, rfl, hc⟩
    · simp [List.set]
      exact ret_d sub_refl (hK .lf (by simp [allP]) rfl)
    · simp [List.set]
      have e1 : (o : Int) + (j : Int) = (o : Int) + ((j + 1 : Nat) : Int) - 1 := by omega
      have e2 : ((o + j + 1 : Nat) : Int) = (o : Int) + j + 1 := by omega
      have e3 : ((o + j + 1 : Nat) : Int) + ((l' + 1 - j : Nat) : Int) - 1 = (o : Int) + ((l' : Int) + 2) - 1 := by omega
      have q1 : ∀ K E, (∀ t, t ∈ allP 6 (j + 1) → cP w t o = cmP w (j + 1) o → K (.d (t.d o)) μ) → callW G (k + f) i_pairing_by [.ptr b, .d (.int (o : Nat)), .d (.int ((o : Int) + j))] μ K E := fun K E h => by
        have := ih (j + 1) o k K E (by omega) (by omega) (by omega) h
        rw [← e1] at this
        exact this
      have q2 : ∀ K E, (∀ t, t ∈ allP 6 (l' + 1 - j) → cP w t (o + j + 1) = cmP w (l' + 1 - j) (o + j + 1) → K (.d (t.d (o + j + 1))) μ) → callW G (k + f) i_pairing_by [.ptr b, .d (.int ((o : Int) + j + 1)), .d (.int ((o : Int) + ((l' : Int) + 2) - 1))] μ K E := fun K E h => by
        have := ih (l' + 1 - j) (o + j + 1) k K E (by omega) (by omega) (by omega) h
        rw [e3, e2] at this
        exact this
      refine q1 _ _ fun x hx cx => ?_
      refine q2 _ _ fun y hy cy => ?_
      simp
      refine ⟨by omega, ?_⟩
      have := hK (.nd x y) (mem_6 (by omega) hj hx hy) (by rw [cP_nd hj hx hy, cx, cy]; exact hc)
      simp only [Pr.d, allP_sz hx] at this
      have e4 : o + (j + 1) = o + j + 1 := by omega
      rw [e4] at this
      exact ret_d sub_refl this
theorem best_pairing_ok {k : Nat} {w : List Int} {μ : Store} {K : KA} {E : KX} (hw : Wt w) (h1 : 1 ≤ w.length) (h6 : w.length ≤ 6)
    (hK : ∀ t, t ∈ allP 6 w.length → cP w t 0 = cmP w w.length 0 → K (.d (.tup [.int (cmP w w.length 0), t.d 0])) μ) : callW G (k + 8) i_best_pairing [.d (.tup (LI w))] μ K E := by
  have hline : line = 16777216 := rfl
  refine call_of (fn := f_best_pairing) rfl rfl ?_
  simp [f_best_pairing, wpSs, wpS, wpT, wpTA, wpE, wpEs, List.set]
  refine check_weights_ok (k := k + 3) hw h1 (by omega) _ _ _ ?_
  refine pairs_by_ok (k := k + 6) hw h1 h6 fun b c m n hb hd hm => ?_
  obtain ⟨v, hv, a, rfl, _⟩ := hm w.length 0 h1 (by omega) (by omega)
  have e0 : ((0 : Nat) : Int) + (w.length : Int) - 1 = (w.length : Int) - 1 := by omega
  have sub : Sub μ (put μ b c) := sub_put hb sub_refl
  rw [e0] at hv
  refine ⟨by omega, ?_⟩
  refine hd.rd (a := [0, (w.length : Int) - 1]) put_at hv ?_
  simp
  have q := pairing_ok (μ := put μ b c) h6 put_at hd hm w.length w.length 0 (k + 7 - w.length) (fun x μ2 => toD μ2 x fun y μ2 => 2 ≤ line ∧ retW true K (.d (.tup [.int (cmP w w.length 0), y])) μ2) (fun x v μ1 => ∃ μ2, Cr.Sub μ2 μ1 ∧ E x v μ2) h1 (by omega) (by omega) (fun t ht hc => by
    simp
    exact ⟨by omega, ret_d sub (hK t ht hc)⟩)
  rw [e0] at q
  have ek : k + 7 - w.length + w.length = k + 7 := by omega
  rw [ek] at q
  exact q
/-! the two least, put together -/
theorem lt_I (i j : Int) : ltC (.int i) (.int j) = decide (i < j) := ltD_code (by simp [ltD])
theorem sort_I {l : List Int} : sortD (LI l) = LI (srtA l) := by
  have sp := sortD_perm (LI l)
  have so := sortD_sorted (LI l)
  have q : ∀ d ∈ sortD (LI l), ∃ i, d = .int i := fun d hd => by
    obtain ⟨i, _, rfl⟩ := List.mem_map.mp (sp.mem_iff.mp hd)
    exact ⟨i, rfl⟩
  have of : ∀ m : List D, (∀ d ∈ m, ∃ i, d = .int i) → ∃ ks : List Int, m = LI ks := by
    intro m
    induction m with
    | nil => intro _; exact ⟨[], rfl⟩
    | cons x m ih =>
      intro h
      obtain ⟨i, rfl⟩ := h x (by simp)
      obtain ⟨ks, rfl⟩ := ih fun y hy => h y (by simp [hy])
      exact ⟨i :: ks, rfl⟩
  obtain ⟨ks, e⟩ := of _ q
  rw [e] at sp so ⊢
  have pk : ks.Perm l := by
    have := sp.map (fun x : D => match x with | .int i => i | _ => 0)
    simpa [LI, List.map_map, Function.comp_def] using this
  have up : ks.Pairwise (· ≤ ·) := (List.pairwise_map.mp so).imp fun {a b} z => by
    rw [lt_I] at z
    exact Int.not_lt.mp (of_decide_eq_false z)
  rw [up_uni (pk.trans srtA_perm.symm) up srtA_up]
theorem sortB_I {l : List Int} : sortB (LI l) = true := by
  unfold sortB
  rw [ints_LI]
  rfl
theorem opBi_sl {l : List Int} {K : D → Prop} : opBi .sorted [.lst (LI l)] K = (sortB (LI l) = true ∧ (LI l).length ≤ line ∧ K (.lst (sortD (LI l)))) := rfl
theorem opBi_st {l : List Int} {K : D → Prop} : opBi .sorted [.tup (LI l)] K = (sortB (LI l) = true ∧ (LI l).length ≤ line ∧ K (.lst (sortD (LI l)))) := rfl
theorem srt_l {l : List Int} {K : D → Prop} (h : l.length ≤ 1000) (k : K (.lst (LI (srtA l)))) : opBi .sorted [.lst (LI l)] K := by
  have hline : line = 16777216 := rfl
  rw [opBi_sl, sort_I]
  exact ⟨sortB_I, by simp; omega, k⟩
theorem srt_t {l : List Int} {K : D → Prop} (h : l.length ≤ 1000) (k : K (.lst (LI (srtA l)))) : opBi .sorted [.tup (LI l)] K := by
  have hline : line = 16777216 := rfl
  rw [opBi_st, sort_I]
  exact ⟨sortB_I, by simp; omega, k⟩
def fpB : List CS := bodyOf (f_free_pairing.body.getD 2 .pass)
def fpC : CE := match f_free_pairing.body.getD 2 .pass with | .while_ c _ => c | _ => .lit .non
theorem fp_body : f_free_pairing.body = [f_free_pairing.body.getD 0 .pass, f_free_pairing.body.getD 1 .pass, .while_ fpC fpB, .ret (.slot 2)] := rfl
abbrev fpE (w x : List Int) (t : Int) : Cr.Env := [some (.d (.tup (LI w))), some (.d (.lst (LI x))), some (.d (.int t)), none]
theorem srt_cons {r : List Int} {y : Int} (h : r.Pairwise (· ≤ ·)) : srtA (r ++ [y]) = insA y r :=
  up_uni (srtA_perm.trans ((List.perm_append_comm (l₁ := r) (l₂ := [y])).trans insA_perm.symm)) srtA_up (insA_up h)
theorem toDs_m {μ : Store} : ∀ {ds : List D} {K : List D → Store → Prop}, K ds μ → toDs μ (ds.map A.d) K
  | [], K, h => h
  | d :: ds, K, h => by
    simp only [List.map_cons, toDs, toD_d]
    exact toDs_m (ds := ds) h
theorem fp_step {k : Nat} {w : List Int} {μ : Store} {P : Post} {a b t : Int} {r : List Int} (hr : r.Pairwise (· ≤ ·)) (hx : r.length ≤ 100) (hP : P.nx [some (.d (.tup (LI w))), some (.d (.lst (LI (insA (a + b) r)))), some (.d (.int (t + (a + b)))), some (.d (.int (a + b)))] μ) :
    wpSs G (callW G k) fpB (fpE w (a :: b :: r) t) μ P := by
  have hline : line = 16777216 := rfl
  have c2 : cut (D.int a :: D.int b :: List.map D.int r) (some (2 : Int)) none = LI r := by
    have := cutF (s := LI (a :: b :: r)) (k := 2)
    simpa using this
  simp [fpB, bodyOf, f_free_pairing, wpSs, wpS, wpT, wpTA, wpE, wpEs, wpO, List.set]
  rw [c2]
  simp only [seqOf]
  have em : List.map A.d (LI r) ++ [A.d (D.int (a + b))] = (LI (r ++ [a + b])).map A.d := by simp
  rw [em]
  refine toDs_m ⟨by simp; omega, ?_⟩
  refine srt_l (by simp; omega) ?_
  rw [srt_cons hr]
  exact hP
theorem fp_loop {k : Nat} {w : List Int} {μ : Store} {P : Post} : ∀ (N : Nat) (x : List Int) (t : Int) (ρ0 : Cr.Env), x.Pairwise (· ≤ ·) → x.length ≤ N + 1 → x.length ≤ 100 → ρ0.map Option.isSome = [true, true, true, false] → (∀ y, P.nx (fpE w y (t + hf N x)) μ) → whileLoop ρ0 (fun ρ1 μ1 K E => wpT G (callW G k) fpC ρ1 μ1 K E) (fun ρ1 μ1 P1 => wpSs G (callW G k) fpB ρ1 μ1 P1) (N + 1) (fpE w x t) μ P
  | N, [], t, _, _, _, _, _, hP => by
    have hline : line = 16777216 := rfl
    rw [whileLoop]
    simp [fpC, f_free_pairing, wpT, wpE, wpEs]
    have := hP []
    have e : hf N [] = 0 := by cases N <;> rfl
    rw [e] at this
    simpa using this
  | N, [a], t, _, _, _, _, _, hP => by
    have hline : line = 16777216 := rfl
    rw [whileLoop]
    simp [fpC, f_free_pairing, wpT, wpE, wpEs]
    have := hP [a]
    have e : hf N [a] = 0 := by cases N <;> rfl
    rw [e] at this
    simpa using this
  | N + 1, a :: b :: r, t, ρ0, hs, hN, hx, h0, hP => by
    have hline : line = 16777216 := rfl
    have hr : r.Pairwise (· ≤ ·) := (List.pairwise_cons.mp (List.pairwise_cons.mp hs).2).2
    rw [whileLoop]
    have hc : ∀ K E, K true μ → wpT G (callW G k) fpC (fpE w (a :: b :: r) t) μ K E := by
      intro K E h
      simp [fpC, f_free_pairing, wpT, wpE, wpEs]
      have : decide ((1 : Int) < (r.length : Int) + 1 + 1) = true := decide_eq_true (by omega)
      rw [this]
      exact h
    refine hc _ _ ?_
    simp only []
    refine fp_step hr (by simp at hx; omega) ?_
    simp only []
    rw [mask_some (E2 := fpE w [] 0) (by rw [h0]; rfl)]
    have em : mask (fpE w [] 0) [some (.d (.tup (LI w))), some (.d (.lst (LI (insA (a + b) r)))), some (.d (.int (t + (a + b)))), some (.d (.int (a + b)))] = fpE w (insA (a + b) r) (t + (a + b)) := by simp [mask]
    rw [em]
    have hl : (insA (a + b) r).length = r.length + 1 := by rw [insA_perm.length_eq]; rfl
    simp only [List.length_cons] at hN hx
    refine fp_loop N (insA (a + b) r) (t + (a + b)) ρ0 (insA_up hr) (by omega) (by omega) h0 fun y => ?_
    have := hP y
    simp only [hf] at this
    have e : t + (a + b) + hf N (insA (a + b) r) = t + (a + b + hf N (insA (a + b) r)) := by omega
    rw [e]
    exact this
  | 0, a :: b :: r, t, _, _, hN, _, _, _ => by simp at hN
end K36


namespace K36
open PySem Cr
theorem free_pairing_ok {k : Nat} {w : List Int} (hw : Wt w) (h1 : 1 ≤ w.length) (h6 : w.length ≤ 6) : Ret G (k + 5) i_free_pairing [.tup (LI w)] (.int (hf 9 (srtA w))) := by
  intro μ K E hK
  have hline : line = 16777216 := rfl
  refine call_of (fn := f_free_pairing) rfl rfl ?_
  rw [fp_body]
  simp [f_free_pairing, wpSs, wpS, wpT, wpTA, wpTAs, wpE, wpEs, List.set]
  refine check_weights_ok (k := k) hw h1 (by omega) _ _ _ ?_
  refine srt_t (by omega) ?_
  have hl : (srtA w).length = w.length := srtA_perm.length_eq
  refine ⟨9 + 1, ?_⟩
  refine fp_loop 9 (srtA w) 0 _ srtA_up (by omega) (by omega) rfl fun y => ?_
  simp
  exact ret_d sub_refl hK
def lfB : List CS := bodyOf (f__law_free.body.getD 1 .pass)
theorem lf_body : f__law_free.body = [f__law_free.body.getD 0 .pass, .for_ (.slot 1) (.rng1 (.bin false .sub (.bi .len false (.cons (.slot 0) .nil)) (.lit (.int 1)))) lfB, .ret (.bi .int false (.cons (.slot 3) .nil))] := rfl
abbrev lfE (w : List Int) (lap : Option A) (x : List Int) (t : Int) (z : Option A) : Cr.Env := [some (.d (.tup (LI w))), lap, some (.d (.lst (LI x))), some (.d (.int t)), z]
theorem lf_step {k : Nat} {w : List Int} {l : Option A} {μ : Store} {P : Post} {a b t : Int} {r : List Int} (hr : r.Pairwise (· ≤ ·)) (hx : r.length ≤ 100) (hP : P.nx (lfE w l (insA (a + b) r) (t + (a + b)) (some (.d (.int (a + b))))) μ) :
    wpSs G (callW G k) lfB (lfE w l (a :: b :: r) t none) μ P := by
  have hline : line = 16777216 := rfl
  have c2 : cut (D.int a :: D.int b :: List.map D.int r) (some (2 : Int)) none = LI r := by
    have := cutF (s := LI (a :: b :: r)) (k := 2)
    simpa using this
  simp [lfB, bodyOf, f__law_free, wpSs, wpS, wpT, wpTA, wpTAs, wpE, wpEs, wpO, List.set]
  rw [c2]
  refine ⟨by omega, by simp; omega, ?_⟩
  have em : LI r ++ [D.int (a + b)] = LI (r ++ [a + b]) := by simp
  rw [em]
  refine srt_l (by simp; omega) ?_
  rw [srt_cons hr]
  exact hP
theorem law_free_ok {k : Nat} {w : List Int} (h1 : 1 ≤ w.length) (h6 : w.length ≤ 6) : Ret G (k + 1) i__law_free [.tup (LI w)] (.int (hf 9 (srtA w))) := by
  intro μ K E hK
  have hline : line = 16777216 := rfl
  refine call_of (fn := f__law_free) rfl rfl ?_
  rw [lf_body]
  simp [f__law_free, wpSs, wpS, wpT, wpTA, wpTAs, wpE, wpEs, wpI, wpTg, List.set]
  refine srt_t (by omega) ?_
  have hl : (srtA w).length = w.length := srtA_perm.length_eq
  have er : rangeD 0 ((w.length : Int) - 1) = (List.range (w.length - 1)).map fun k : Nat => D.int (k : Int) := by
    have : (w.length : Int) - 1 = ((w.length - 1 : Nat) : Int) := by omega
    rw [this]
    exact range_map
  rw [er]
  refine ⟨smallI (by omega) (by omega), ?_⟩
  refine for_inv (I := fun i ρ μ1 => μ1 = μ ∧ ∃ x t N, x.Pairwise (· ≤ ·) ∧ x.length + i = w.length ∧ t + hf N x = hf 9 (srtA w) ∧ x.length ≤ N + 1 ∧ ρ = lfE w none x t none) ⟨rfl, srtA w, 0, 9, srtA_up, by omega, by omega, by omega, rfl⟩ (fun _ _ _ _ => trivial) ?_ ?_
  · rintro i x ρ μ1 nx hx ⟨rfl, xs, t, N, up, hxl, hs, hN, rfl⟩ hnx
    have hi : i < w.length - 1 := by
      have := (List.getElem?_eq_some_iff.mp hx).1
      simpa using this
    match xs, up, hxl, hs, hN with
    | [], _, hxl, _, _ => simp at hxl; omega
    | [_], _, hxl, _, _ => simp at hxl; omega
    | a :: b :: r, up, hxl, hs, hN =>
      simp only [List.length_cons] at hxl hN
      obtain ⟨N, rfl⟩ : ∃ M, N = M + 1 := ⟨N - 1, by omega⟩
      have hr : r.Pairwise (· ≤ ·) := (List.pairwise_cons.mp (List.pairwise_cons.mp up).2).2
      have hl2 : (insA (a + b) r).length = r.length + 1 := by rw [insA_perm.length_eq]; rfl
      simp only [List.set]
      refine lf_step hr (by omega) (hnx _ _ ⟨rfl, insA (a + b) r, t + (a + b), N, insA_up hr, by omega, ?_, by omega, by simp [mask]⟩)
      simp only [hf] at hs
      omega
  · rintro ρ μ1 ⟨rfl, xs, t, N, up, hxl, hs, hN, rfl⟩
    simp at hxl
    have e : hf N xs = 0 := by
      match xs, hxl with
      | [], _ => cases N <;> rfl
      | [_], _ => cases N <;> rfl
      | _ :: _ :: _, hxl => simp at hxl; omega
    have et : t = hf 9 (srtA w) := by omega
    subst et
    simp
    exact ret_d sub_refl hK
end K36


namespace K36
open PySem Cr
/-! how often each place is asked of -/
def go : Nat → D → Nat → Nat → Option (List Nat)
  | f + 1, .int i, n, d => if i = (n : Int) then some [d] else none
  | f + 1, .tup [x, y], n, d => match go f x n (d + 1) with
    | some p => (match go f y (n + p.length) (d + 1) with
      | some q => some (p ++ q)
      | none => none)
    | none => none
  | _, _, _, _ => none
theorem go_len : ∀ {f : Nat} {v : D} {n d : Nat} {p : List Nat}, go f v n d = some p → 1 ≤ p.length
  | 0, v, n, d, p, h => by cases v <;> simp [go] at h
  | f + 1, v, n, d, p, h => by
    unfold go at h
    split at h
    · rename_i e
      split at h
      · cases h; simp
      · cases h
    · split at h
      · rename_i p1 e1
        split at h
        · rename_i q1 e2
          cases h
          have := go_len e1
          simp; omega
        · cases h
      · cases h
    · cases h
abbrev Fu : Nat := 14
def goS : List (D × Nat) → Nat → Option (List Nat)
  | [], _ => some []
  | s :: S, n => match go (Fu - s.2) s.1 n s.2 with
    | some p => (match goS S (n + p.length) with
      | some q => some (p ++ q)
      | none => none)
    | none => none
theorem goS_len : ∀ {S : List (D × Nat)} {n : Nat} {q : List Nat}, goS S n = some q → S.length ≤ q.length
  | [], n, q, h => by simp
  | s :: S, n, q, h => by
    unfold goS at h
    split at h
    · rename_i p e1
      split at h
      · rename_i q1 e2
        cases h
        have a := go_len e1
        have b := goS_len e2
        simp; omega
      · cases h
    · cases h
theorem goS_int {i : Int} {d n : Nat} {S : List (D × Nat)} (hd : d < Fu) : goS ((.int i, d) :: S) n = if i = (n : Int) then (match goS S (n + 1) with | some q => some (d :: q) | none => none) else none := by
  obtain ⟨f, hf⟩ : ∃ f, Fu - d = f + 1 := ⟨Fu - d - 1, by omega⟩
  simp only [goS, hf, go]
  by_cases e : i = (n : Int)
  · simp only [e, if_true, List.length_singleton]
    cases goS S (n + 1) <;> rfl
  · simp only [e, if_false]
theorem goS_tup {x y : D} {d n : Nat} {S : List (D × Nat)} (hd : d < Fu) : goS ((.tup [x, y], d) :: S) n = goS ((x, d + 1) :: (y, d + 1) :: S) n := by
  obtain ⟨f, hf⟩ : ∃ f, Fu - d = f + 1 := ⟨Fu - d - 1, by omega⟩
  have hf2 : Fu - (d + 1) = f := by omega
  simp only [goS, hf, hf2, go]
  cases go f x n (d + 1) with
  | none => rfl
  | some p =>
    simp only []
    cases go f y (n + p.length) (d + 1) with
    | none => rfl
    | some q =>
      simp only [List.length_append]
      have : n + (p.length + q.length) = n + p.length + q.length := by omega
      rw [this]
      cases goS S (n + p.length + q.length) with
      | none => rfl
      | some r => simp
def isPr : D → Bool
  | .int _ => true
  | .tup [_, _] => true
  | _ => false
theorem goS_bad {v : D} {d n : Nat} {S : List (D × Nat)} (h : isPr v = false) : goS ((v, d) :: S) n = none := by
  have : go (Fu - d) v n d = none := by
    cases Fu - d with
    | zero => cases v <;> simp [go]
    | succ f =>
      unfold go
      split
      · simp [isPr] at h
      · simp [isPr] at h
      · rfl
  simp only [goS, this]
/-- the answer -/
def asS (many : Nat) (v : D) : Option (List Nat) := match goS [(v, 0)] 0 with
  | some L => if L.length = many then some L else none
  | none => none
def asD (many : Nat) (v : D) : D := match asS many v with
  | some L => .lst (LI (NI L))
  | none => .non
/-- what is found, with what is still to come -/
def Whole (v : D) (pre : List Nat) (S : List (D × Nat)) : Prop := goS [(v, 0)] 0 = (match goS S pre.length with | some q => some (pre ++ q) | none => none)
theorem whole_0 {v : D} : Whole v [] [(v, 0)] := by
  unfold Whole
  cases h : goS [(v, 0)] 0 with
  | none => simp [h]
  | some q => simp [h]
theorem whole_int {v : D} {pre : List Nat} {S : List (D × Nat)} {d : Nat} (hd : d < Fu) (h : Whole v pre ((.int (pre.length : Nat), d) :: S)) : Whole v (pre ++ [d]) S := by
  unfold Whole at *
  rw [h, goS_int hd]
  simp only [if_true, List.length_append, List.length_singleton]
  cases goS S (pre.length + 1) with
  | none => rfl
  | some q => simp
theorem whole_tup {v x y : D} {pre : List Nat} {S : List (D × Nat)} {d : Nat} (hd : d < Fu) (h : Whole v pre ((.tup [x, y], d) :: S)) : Whole v pre ((x, d + 1) :: (y, d + 1) :: S) := by
  unfold Whole at *
  rw [h, goS_tup hd]
theorem asS_of {v : D} {many : Nat} {pre : List Nat} {S : List (D × Nat)} (h : Whole v pre S) : asS many v = match goS S pre.length with | some q => (if pre.length + q.length = many then some (pre ++ q) else none) | none => none := by
  unfold asS
  unfold Whole at h
  rw [h]
  cases goS S pre.length with
  | none => rfl
  | some q => simp
abbrev itA (s : D × Nat) : D := .tup [s.1, .int (s.2 : Nat)]
def stW (S : List (D × Nat)) : List D := (S.map itA).reverse
theorem stW_c {s : D × Nat} {S : List (D × Nat)} : stW (s :: S) = stW S ++ [itA s] := by simp [stW]
theorem stW_len {S : List (D × Nat)} : (stW S).length = S.length := by simp [stW]
def abC : CE := .cmp .neE (.slot 3) (.lst false .nil)
def abB : List CS := bodyOf (f_asks_by.body.getD 1 .pass)
theorem ab_body : f_asks_by.body = [f_asks_by.body.getD 0 .pass, .while_ abC abB, f_asks_by.body.getD 2 .pass] := rfl
abbrev abE (many : Nat) (v : D) (bl bw : Nat) : Cr.Env := [some (.d (.int many)), some (.d v), some (.ptr bl), some (.ptr bw), none, none]
theorem ab_step {k many d bl bw : Nat} {v0 v : D} {pre : List Nat} {S : List (D × Nat)} {μ : Store} {P : Post} (ap : bl ≠ bw) (hv : Vt v) (hp : pre.length ≤ 1000) (hS : S.length ≤ 5000)
    (h1 : v = .int (pre.length : Nat) → pre.length < many → ∀ ρ, mask (abE many v0 bl bw) ρ = abE many v0 bl bw → P.nx ρ (Sh μ bl bw (.lst (LI (NI (pre ++ [d])))) (stW S)))
    (h2 : ∀ x y, v = .tup [x, y] → d ≤ many → ∀ ρ, mask (abE many v0 bl bw) ρ = abE many v0 bl bw → P.nx ρ (Sh μ bl bw (.lst (LI (NI pre))) (stW ((x, d + 1) :: (y, d + 1) :: S))))
    (h3 : ¬ (v = .int (pre.length : Nat) ∧ pre.length < many) → ¬ (∃ x y, v = .tup [x, y] ∧ d ≤ many) → ∀ c W, P.rt (.d .non) (Sh μ bl bw c W)) :
    wpSs G (callW G (k + 1)) abB (abE many v0 bl bw) (Sh μ bl bw (.lst (LI (NI pre))) (stW ((v, d) :: S))) P := by
  have hline : line = 16777216 := rfl
  obtain ⟨v, ht, hvc⟩ := hv
  obtain ⟨F, hF, hFl⟩ : ∃ F : List D, F = LI (NI pre) ∧ F.length = pre.length := ⟨_, rfl, by simp⟩
  have hF2 : LI (NI (pre ++ [d])) = F ++ [.int (d : Nat)] := by rw [hF]; simp
  rw [hF2] at h1
  rw [← hF] at h2 ⊢
  rw [stW_c]
  obtain ⟨e1, e2⟩ := last_app (W := stW S) (x := itA (v, d))
  simp [abB, bodyOf, f_asks_by, wpSs, wpS, wpT, wpTA, wpTAs, wpE, wpEs, List.set, sh_tg, sh_w, sh_pw, bmT, isMut, mutate, opMut]
  refine is_integer_d (k := k) ht _ _ _ ?_
  simp only [rd_d, truth_bl]
  have nt : (∀ i, v ≠ .int i) → (∀ xs, v ≠ .tup xs) → P.rt (.d .non) (Sh μ bl bw (.lst F) (stW S)) := fun a b => h3 (fun e => a _ e.1) (fun ⟨x, y, e, _⟩ => b _ e) _ _
  by_cases hi : ∃ i, v = .int i
  · obtain ⟨i, rfl⟩ := hi
    simp only [isW]
    rw [rd_p (sh_l ap)]
    simp only [opBi_ll, opC_ni, hFl]
    by_cases e : i = (pre.length : Int)
    · subst e
      simp only [decide_true, Bool.not_true]
      have og : ∀ {K : Bool → Prop}, opC .ge (.int (pre.length : Nat)) (.int (many : Nat)) K = K (decide ((many : Int) ≤ (pre.length : Nat))) := rfl
      rw [og]
      by_cases hm : pre.length < many
      · have hm2 : decide ((many : Int) ≤ (pre.length : Nat)) = false := decide_eq_false (by omega)
        rw [hm2]
        simp only []
        have tg : tagOf (Sh μ bl bw (.lst F) (stW S)) (.ptr bl) = some .list := by simp [tagOf, sh_l ap]
        rw [tg]
        refine ⟨rfl, ?_⟩
        rw [sh_l ap]
        refine ⟨by omega, rfl, ?_⟩
        rw [sh_pl ap]
        exact h1 rfl hm _ (by simp [mask])
      · have hm2 : decide ((many : Int) ≤ (pre.length : Nat)) = true := decide_eq_true (by omega)
        rw [hm2]
        exact h3 (fun q => hm q.2) (fun ⟨x, y, q, _⟩ => by cases q) _ _
    · simp only [e, decide_false, Bool.not_false]
      exact h3 (fun q => e (by injection q.1)) (fun ⟨x, y, q, _⟩ => by cases q) _ _
  · have hw : isW v = false := by cases v <;> first | rfl | exact absurd ⟨_, rfl⟩ hi
    rw [hw]
    simp only [kindOf]
    refine ⟨ht, ?_⟩
    by_cases htt : ∃ xs, v = .tup xs
    · obtain ⟨xs, rfl⟩ := htt
      simp only [isTy, Bool.not_true, opBi_lt, opC_ni]
      by_cases h2l : xs.length = 2
      · obtain ⟨x, y, rfl⟩ : ∃ a b, xs = [a, b] := by
          match xs, h2l with
          | [a, b], _ => exact ⟨a, b, rfl⟩
        have e : (([x, y].length : Nat) : Int) = 2 := by simp
        simp only [e, decide_true, Bool.not_true]
        by_cases hm : d ≤ many
        · have hm2 : decide (many < d) = false := decide_eq_false (by omega)
          rw [hm2, sh_tg]
          refine ⟨rfl, ?_⟩
          simp [sh_w, sh_pw]
          have := h2 x y rfl hm [some (.d (.int many)), some (.d v0), some (.ptr bl), some (.ptr bw), some (.d (.tup [x, y])), some (.d (.int (d : Nat)))] (by simp [mask])
          have eW : stW ((x, d + 1) :: (y, d + 1) :: S) = stW S ++ [D.tup [y, .int ((d : Int) + 1)], D.tup [x, .int ((d : Int) + 1)]] := by simp [stW]
          rw [eW] at this
          have sl := stW_len (S := S)
          exact ⟨by omega, by omega, this⟩
        · have hm2 : decide (many < d) = true := decide_eq_true (by omega)
          rw [hm2]
          exact h3 (fun q => by cases q.1) (fun ⟨_, _, _, q⟩ => hm q) _ _
      · have e : ¬ ((xs.length : Nat) : Int) = 2 := by omega
        simp only [e, decide_false, Bool.not_false]
        exact h3 (fun q => by cases q.1) (fun ⟨x, y, q, _⟩ => by cases q; exact h2l rfl) _ _
    · have := nt (fun i e => hi ⟨i, e⟩) (fun xs e => htt ⟨xs, e⟩)
      cases v <;> first | exact absurd ⟨_, rfl⟩ htt | exact absurd ⟨_, rfl⟩ hi | (simp [isTy]; exact this)
end K36


namespace K36
open PySem Cr
theorem ltFu {d : Nat} (h : d ≤ 9) : d < Fu := by show d < 14; omega
def mz (S : List (D × Nat)) : Nat := (S.map fun s => 2 ^ (10 - s.2) - 1).sum
theorem mz_len : ∀ {S : List (D × Nat)}, (∀ s ∈ S, s.2 ≤ 9) → S.length ≤ mz S
  | [], _ => by simp
  | s :: S, h => by
    have a := mz_len (S := S) fun x hx => h x (by simp [hx])
    have b := h s (by simp)
    obtain ⟨j, hj⟩ : ∃ j, 10 - s.2 = j + 1 := ⟨9 - s.2, by omega⟩
    have c : 1 ≤ 2 ^ j := Nat.pos_of_ne_zero (by simp)
    simp only [mz, List.map_cons, List.sum_cons, List.length_cons, hj, Nat.pow_succ] at a ⊢
    omega
theorem none_of {v0 v : D} {many d : Nat} {pre : List Nat} {S : List (D × Nat)} (hd : d < Fu) (hW : Whole v0 pre ((v, d) :: S)) (hb : d + 1 ≤ pre.length + (S.length + 1))
    (n1 : ¬ (v = .int (pre.length : Nat) ∧ pre.length < many)) (n2 : ¬ (∃ x y, v = .tup [x, y] ∧ d ≤ many)) : asS many v0 = none := by
  rw [asS_of hW]
  cases hq : goS ((v, d) :: S) pre.length with
  | none => rfl
  | some q =>
    simp only []
    rw [if_neg]
    intro hl
    have l1 := goS_len hq
    simp only [List.length_cons] at l1
    by_cases hp : isPr v = true
    · cases v <;> simp only [isPr] at hp <;> try cases hp
      · rename_i i
        rw [goS_int hd] at hq
        by_cases e : i = (pre.length : Int)
        · exact n1 ⟨by rw [e], by omega⟩
        · rw [if_neg e] at hq
          cases hq
      · rename_i xs
        match xs, hp with
        | [x, y], _ => exact n2 ⟨x, y, rfl, by omega⟩
    · rw [goS_bad (by simpa using hp)] at hq
      cases hq
theorem abC_ok {k many bl bw : Nat} {v : D} {μ : Store} {c : Cell} {W : List D} {K : Bool → Store → Prop} {E : KX} (h : K (!W.isEmpty) (Sh μ bl bw c W)) : wpT G (callW G k) abC (abE many v bl bw) (Sh μ bl bw c W) K E := by
  simp [abC, wpE, wpEs]
  rw [rd_p sh_w]
  simpa using h
theorem ab_loop {k many bl bw : Nat} {v0 : D} {μ : Store} {P : Post} (ap : bl ≠ bw) (hm : many ≤ 6) (hP : ∀ pre, Whole v0 pre [] → P.nx (abE many v0 bl bw) (Sh μ bl bw (.lst (LI (NI pre))) [])) (hR : asS many v0 = none → ∀ c W, P.rt (.d .non) (Sh μ bl bw c W)) :
    ∀ (N : Nat) (pre : List Nat) (S : List (D × Nat)), Whole v0 pre S → (∀ s ∈ S, Vt s.1 ∧ s.2 ≤ many + 1 ∧ s.2 + 1 ≤ pre.length + S.length) → mz S < N → N ≤ 1100 → pre.length ≤ many →
    whileLoop (abE many v0 bl bw) (fun ρ1 μ1 K E => wpT G (callW G (k + 1)) abC ρ1 μ1 K E) (fun ρ1 μ1 P1 => wpSs G (callW G (k + 1)) abB ρ1 μ1 P1) N (abE many v0 bl bw) (Sh μ bl bw (.lst (LI (NI pre))) (stW S)) P
  | 0, pre, S, _, _, h, _, _ => by omega
  | N + 1, pre, [], hW, _, _, _, _ => by
    rw [whileLoop]
    exact abC_ok (hP pre hW)
  | N + 1, pre, (v, d) :: S, hW, hv, hN, hN2, hpre => by
    rw [whileLoop]
    refine abC_ok ?_
    have e : (!(stW ((v, d) :: S)).isEmpty) = true := by rw [stW_c]; simp
    rw [e]
    simp only []
    obtain ⟨v1, v2, v3⟩ := hv (v, d) (by simp)
    simp only [List.length_cons] at v3
    have hS : ∀ s ∈ S, Vt s.1 ∧ s.2 ≤ many + 1 ∧ s.2 + 1 ≤ pre.length + (S.length + 1) := fun s hs => by
      have := hv s (by simp [hs])
      simpa using this
    have hl := mz_len (S := S) fun s hs => by have := (hS s hs).2.1; omega
    obtain ⟨j, hj⟩ : ∃ j, 10 - d = j + 1 := ⟨9 - d, by simp only at v2; omega⟩
    have hmz : mz ((v, d) :: S) = (2 ^ j * 2 - 1) + mz S := by simp [mz, hj, Nat.pow_succ]
    have hj1 : 1 ≤ 2 ^ j := Nat.pos_of_ne_zero (by simp)
    obtain ⟨pj, hpj⟩ : ∃ pj, 2 ^ j = pj := ⟨_, rfl⟩
    rw [hpj] at hmz hj1
    simp only at v1 v2
    refine ab_step (k := k) ap v1 (by omega) (by omega) (fun ev hlt ρ hma => ?_) (fun x y ev hdm ρ hma => ?_) fun n1 n2 => hR (none_of (ltFu (by omega)) hW v3 n1 n2)
    · subst ev
      simp only []
      rw [hma]
      refine ab_loop ap hm hP hR N (pre ++ [d]) S (whole_int (ltFu (by omega)) hW) (fun s hs => ?_) (by omega) (by omega) (by simp; omega)
      have := hS s hs
      refine ⟨this.1, this.2.1, ?_⟩
      simp
      omega
    · subst ev
      simp only []
      rw [hma]
      have hvx : Vt x ∧ Vt y := by
        cases v1 with
        | mk _ _ c => exact ⟨c _ rfl x (by simp), c _ rfl y (by simp)⟩
      have hmz2 : mz ((x, d + 1) :: (y, d + 1) :: S) = (2 ^ j - 1) + ((2 ^ j - 1) + mz S) := by
        have : 10 - (d + 1) = j := by omega
        simp [mz, this, hpj]
      refine ab_loop ap hm hP hR N pre ((x, d + 1) :: (y, d + 1) :: S) (whole_tup (ltFu (by omega)) hW) (fun s hs => ?_) (by omega) (by omega) hpre
      simp only [List.length_cons]
      rcases List.mem_cons.mp hs with q | q
      · subst q; exact ⟨hvx.1, by simp; omega, by simp; omega⟩
      · rcases List.mem_cons.mp q with q | q
        · subst q; exact ⟨hvx.2, by simp; omega, by simp; omega⟩
        · have := hS s q
          exact ⟨this.1, this.2.1, by omega⟩
theorem asks_by_ok {k many : Nat} {v : D} (h1 : 1 ≤ many) (hm : many ≤ 6) (hv : Vt v) : Ret G (k + 2) i_asks_by [.int many, v] (asD many v) := by
  intro μ K E hK
  have hline : line = 16777216 := rfl
  refine call_of (fn := f_asks_by) rfl rfl ?_
  rw [ab_body]
  simp [f_asks_by, wpSs, wpS, wpTA, wpTAs, wpE, wpEs, List.set, new]
  intro bl hbl
  refine ⟨by omega, by omega, fun bw hw => ?_⟩
  have ap : bl ≠ bw := by intro e; subst e; simp [put] at hw
  have hw' : μ bw = none := by rw [put_o (fun e => ap e.symm)] at hw; exact hw
  have sub : ∀ c W, Sub μ (Sh μ bl bw c W) := fun c W => sub_put hw' (sub_put hbl sub_refl)
  refine ⟨1024, ?_⟩
  refine ab_loop (k := k) ap hm (fun pre hW => ?_) (fun hn c W => ?_) 1024 [] [(v, 0)] whole_0 (fun s hs => ?_) (by simp [mz]) (by omega) (by simp)
  · have ha := asS_of (many := many) hW
    simp only [goS, List.length_nil, Nat.add_zero, List.append_nil] at ha
    simp [wpSs, wpS, wpE, wpEs, wpT]
    rw [rd_p (sh_l ap)]
    simp only [opBi_ll, opC_ei, List.length_map]
    by_cases e : pre.length = many
    · rw [if_pos e] at ha
      have e2 : decide ((pre.length : Int) = (many : Nat)) = true := decide_eq_true (by omega)
      rw [e2]
      have : asD many v = .lst (LI (NI pre)) := by unfold asD; rw [ha]
      rw [this] at hK
      simp only [show (List.map (D.int ∘ Int.ofNat) pre) = LI (NI pre) by simp] at *
      exact ret_p (xs := LI (NI pre)) (sh_l ap) hbl (sub _ _) hK
    · rw [if_neg e] at ha
      have e2 : decide ((pre.length : Int) = (many : Nat)) = false := decide_eq_false (by omega)
      rw [e2]
      have : asD many v = .non := by unfold asD; rw [ha]
      rw [this] at hK
      exact ret_d (sub _ _) hK
  · have : asD many v = .non := by unfold asD; rw [hn]
    rw [this] at hK
    exact ret_d (sub _ _) hK
  · simp at hs
    subst hs
    exact ⟨hv, by simp, by simp⟩
end K36


namespace K36
open PySem Cr
def laB : List CS := bodyOf (f__law_asks.body.getD 1 .pass)
theorem la_body : f__law_asks.body = [f__law_asks.body.getD 0 .pass, .for_ (.slot 2) (.rng1 (.bin false .sub (.bin false .mul (.lit (.int 2)) (.slot 0)) (.lit (.int 1)))) laB, f__law_asks.body.getD 2 .pass] := rfl
abbrev laE (many : Nat) (v : D) (lap : Option A) (bl bw : Nat) : Cr.Env := [some (.d (.int many)), some (.d v), lap, some (.ptr bl), some (.ptr bw), none, none]
theorem la_0 {k many bl bw : Nat} {v0 : D} {lap : Option A} {c : Cell} {μ : Store} {P : Post} (h : P.rt (.d .non) (Sh μ bl bw c [])) : wpSs G (callW G k) laB (laE many v0 lap bl bw) (Sh μ bl bw c []) P := by
  simp [laB, bodyOf, f__law_asks, wpSs, wpS, wpT, wpTA, wpTAs, wpE, wpEs, List.set]
  rw [rd_p sh_w]
  simpa using h
theorem la_step {k many d bl bw : Nat} {lap : Int} {v0 v : D} {pre : List Nat} {S : List (D × Nat)} {μ : Store} {P : Post} (ap : bl ≠ bw) (hv : Vt v) (hp : pre.length ≤ 1000) (hS : S.length ≤ 5000)
    (h1 : v = .int (pre.length : Nat) → ∀ ρ, mask (laE many v0 none bl bw) ρ = laE many v0 none bl bw → P.nx ρ (Sh μ bl bw (.lst (LI (NI (pre ++ [d])))) (stW S)))
    (h2 : ∀ x y, v = .tup [x, y] → ∀ ρ, mask (laE many v0 none bl bw) ρ = laE many v0 none bl bw → P.nx ρ (Sh μ bl bw (.lst (LI (NI pre))) (stW ((x, d + 1) :: (y, d + 1) :: S))))
    (h3 : ¬ (v = .int (pre.length : Nat)) → ¬ (∃ x y, v = .tup [x, y]) → ∀ c W, P.rt (.d .non) (Sh μ bl bw c W)) :
    wpSs G (callW G (k + 1)) laB (laE many v0 (some (.d (.int lap))) bl bw) (Sh μ bl bw (.lst (LI (NI pre))) (stW ((v, d) :: S))) P := by
  have hline : line = 16777216 := rfl
  obtain ⟨v, ht, hvc⟩ := hv
  obtain ⟨F, hF, hFl⟩ : ∃ F : List D, F = LI (NI pre) ∧ F.length = pre.length := ⟨_, rfl, by simp⟩
  have hF2 : LI (NI (pre ++ [d])) = F ++ [.int (d : Nat)] := by rw [hF]; simp
  rw [hF2] at h1
  rw [← hF] at h2 ⊢
  rw [stW_c]
  obtain ⟨e1, e2⟩ := last_app (W := stW S) (x := itA (v, d))
  simp [laB, bodyOf, f__law_asks, wpSs, wpS, wpT, wpTA, wpTAs, wpE, wpEs, List.set, sh_tg, sh_w, sh_pw, bmT, isMut, mutate, opMut]
  rw [rd_p sh_w]
  have e0 : (stW S ++ [D.tup [v, D.int d]]).isEmpty = false := by simp
  simp [e0, sh_tg, sh_w, sh_pw]
  refine law_int_d (k := k) ht _ _ _ ?_
  simp only [rd_d, truth_bl]
  by_cases hi : ∃ i, v = .int i
  · obtain ⟨i, rfl⟩ := hi
    simp only [isW]
    rw [rd_p (sh_l ap)]
    simp only [opBi_ll, opC_ni, hFl]
    by_cases e : i = (pre.length : Int)
    · subst e
      simp only [decide_true, Bool.not_true]
      have tg : tagOf (Sh μ bl bw (.lst F) (stW S)) (.ptr bl) = some .list := by simp [tagOf, sh_l ap]
      rw [tg]
      refine ⟨rfl, ?_⟩
      rw [sh_l ap]
      refine ⟨by omega, rfl, ?_⟩
      rw [sh_pl ap]
      exact h1 rfl _ (by simp [mask])
    · simp only [e, decide_false, Bool.not_false]
      exact h3 (fun q => e (by injection q)) (fun ⟨x, y, q⟩ => by cases q) _ _
  · have hw : isW v = false := by cases v <;> first | rfl | exact absurd ⟨_, rfl⟩ hi
    rw [hw]
    simp only [kindOf]
    refine ⟨ht, ?_⟩
    by_cases htt : ∃ xs, v = .tup xs
    · obtain ⟨xs, rfl⟩ := htt
      simp only [isTy, Bool.not_true, opBi_lt, opC_ni]
      by_cases h2l : xs.length = 2
      · obtain ⟨x, y, rfl⟩ : ∃ a b, xs = [a, b] := by
          match xs, h2l with
          | [a, b], _ => exact ⟨a, b, rfl⟩
        have e : (([x, y].length : Nat) : Int) = 2 := by simp
        simp only [e, decide_true, Bool.not_true]
        rw [sh_tg]
        refine ⟨rfl, ?_⟩
        simp [sh_w, sh_pw]
        have := h2 x y rfl [some (.d (.int many)), some (.d v0), some (.d (.int lap)), some (.ptr bl), some (.ptr bw), some (.d (.tup [x, y])), some (.d (.int (d : Nat)))] (by simp [mask])
        have eW : stW ((x, d + 1) :: (y, d + 1) :: S) = stW S ++ [D.tup [y, .int ((d : Int) + 1)], D.tup [x, .int ((d : Int) + 1)]] := by simp [stW]
        rw [eW] at this
        have sl := stW_len (S := S)
        exact ⟨by omega, by omega, this⟩
      · have e : ¬ ((xs.length : Nat) : Int) = 2 := by omega
        simp only [e, decide_false, Bool.not_false]
        exact h3 (fun q => by cases q) (fun ⟨x, y, q⟩ => by cases q; exact h2l rfl) _ _
    · have := h3 (fun q => hi ⟨_, q⟩) (fun ⟨x, y, q⟩ => htt ⟨_, q⟩)
      cases v <;> first | exact absurd ⟨_, rfl⟩ htt | exact absurd ⟨_, rfl⟩ hi | (simp [isTy]; exact this _ _)
theorem none_of2 {v0 v : D} {many d : Nat} {pre : List Nat} {S : List (D × Nat)} (hd : d < Fu) (hW : Whole v0 pre ((v, d) :: S))
    (n1 : ¬ (v = .int (pre.length : Nat))) (n2 : ¬ (∃ x y, v = .tup [x, y])) : asS many v0 = none := by
  rw [asS_of hW]
  cases hq : goS ((v, d) :: S) pre.length with
  | none => rfl
  | some q =>
    exfalso
    by_cases hp : isPr v = true
    · cases v <;> simp only [isPr] at hp <;> try cases hp
      · rename_i i
        rw [goS_int hd] at hq
        by_cases e : i = (pre.length : Int)
        · exact n1 (by rw [e])
        · rw [if_neg e] at hq
          cases hq
      · rename_i xs
        match xs, hp with
        | [x, y], _ => exact n2 ⟨x, y, rfl⟩
    · rw [goS_bad (by simpa using hp)] at hq
      cases hq
/-- laps used so far -/
def Lap (i many : Nat) (pre : List Nat) (S : List (D × Nat)) : Prop := ∀ q, goS S pre.length = some q → pre.length + q.length = many → i + 2 * q.length + 1 = 2 * many + S.length
theorem lap_int {i many d : Nat} {pre : List Nat} {S : List (D × Nat)} (hd : d < Fu) (h : Lap i many pre ((.int (pre.length : Nat), d) :: S)) : Lap (i + 1) many (pre ++ [d]) S := by
  intro q hq hl
  simp only [List.length_append, List.length_singleton] at hq hl
  have := h (d :: q) (by rw [goS_int hd, hq]; simp) (by simp; omega)
  simp at this
  omega
theorem lap_tup {i many d : Nat} {x y : D} {pre : List Nat} {S : List (D × Nat)} (hd : d < Fu) (h : Lap i many pre ((.tup [x, y], d) :: S)) : Lap (i + 1) many pre ((x, d + 1) :: (y, d + 1) :: S) := by
  intro q hq hl
  have := h q (by rw [goS_tup hd, hq]) hl
  simp at this ⊢
  omega
theorem law_asks_ok {k many : Nat} {v : D} (h1 : 1 ≤ many) (hm : many ≤ 6) (hv : Vt v) : Ret G (k + 2) i__law_asks [.int many, v] (asD many v) := by
  intro μ K E hK
  have hline : line = 16777216 := rfl
  refine call_of (fn := f__law_asks) rfl rfl ?_
  rw [la_body]
  simp [f__law_asks, wpSs, wpS, wpTA, wpTAs, wpE, wpEs, wpI, wpTg, List.set, new]
  intro bl hbl
  refine ⟨by omega, by omega, fun bw hw => ?_⟩
  have ap : bl ≠ bw := by intro e; subst e; simp [put] at hw
  have hw' : μ bw = none := by rw [put_o (fun e => ap e.symm)] at hw; exact hw
  have sub : ∀ c W, Sub μ (Sh μ bl bw c W) := fun c W => sub_put hw' (sub_put hbl sub_refl)
  have er : rangeD 0 (2 * (many : Int) - 1) = (List.range (2 * many - 1)).map fun k : Nat => D.int (k : Int) := by
    have : 2 * (many : Int) - 1 = ((2 * many - 1 : Nat) : Int) := by omega
    rw [this]
    exact range_map
  rw [er]
  refine ⟨mulOk_b (by omega) (by omega), smallI (by omega) (by omega), ?_⟩
  have rN : asS many v = none → ∀ c W, retW true K (.d .non) (Sh μ bl bw c W) := fun hn c W => by
    have : asD many v = .non := by unfold asD; rw [hn]
    rw [this] at hK
    exact ret_d (sub _ _) hK
  refine for_inv (I := fun i ρ μ1 => ∃ pre S, Whole v pre S ∧ Lap i many pre S ∧ (∀ s ∈ S, Vt s.1 ∧ s.2 ≤ i) ∧ S.length ≤ i + 1 ∧ pre.length ≤ i ∧ μ1 = Sh μ bl bw (.lst (LI (NI pre))) (stW S) ∧ ρ = laE many v none bl bw)
    ⟨[], [(v, 0)], whole_0, fun q _ hl => by simp at hl ⊢; omega, fun s hs => by simp at hs; subst hs; exact ⟨hv, by simp⟩, by simp, by simp, rfl, rfl⟩ (fun _ _ _ _ => trivial) ?_ ?_
  · rintro i x ρ μ1 nx hx ⟨pre, S, hW, hL, hS, hSl, hpl, rfl, rfl⟩ hnx
    have hi : i < 2 * many - 1 := by
      have := (List.getElem?_eq_some_iff.mp hx).1
      simpa using this
    have ex : x = .int (i : Int) := by
      simp [hi] at hx
      exact hx.symm
    subst ex
    simp only [List.set]
    cases S with
    | nil =>
      refine la_0 (rN ?_ _ _)
      rw [asS_of hW]
      simp only [goS, List.length_nil, Nat.add_zero, List.append_nil]
      rw [if_neg]
      intro e
      have := hL [] rfl (by simpa using e)
      simp at this
      omega
    | cons s S =>
      obtain ⟨v1, d⟩ := s
      obtain ⟨hv1, hd⟩ := hS (v1, d) (by simp)
      simp only [List.length_cons] at hSl
      simp only at hv1 hd
      have hdF : d < Fu := by show d < 14; omega
      refine la_step (k := k) ap hv1 (by omega) (by omega) (fun ev ρ hma => ?_) (fun x y ev ρ hma => ?_) fun n1 n2 => rN (none_of2 hdF hW n1 n2)
      · subst ev
        refine hnx _ _ ⟨pre ++ [d], S, whole_int hdF hW, lap_int hdF hL, fun s hs => ?_, by omega, by simp; omega, rfl, hma⟩
        have := hS s (by simp [hs])
        exact ⟨this.1, by omega⟩
      · subst ev
        have hvx : Vt x ∧ Vt y := by
          cases hv1 with
          | mk _ _ c => exact ⟨c _ rfl x (by simp), c _ rfl y (by simp)⟩
        refine hnx _ _ ⟨pre, (x, d + 1) :: (y, d + 1) :: S, whole_tup hdF hW, lap_tup hdF hL, fun s hs => ?_, by simp; omega, by omega, rfl, hma⟩
        rcases List.mem_cons.mp hs with q | q
        · subst q; exact ⟨hvx.1, by simp; omega⟩
        · rcases List.mem_cons.mp q with q | q
          · subst q; exact ⟨hvx.2, by simp; omega⟩
          · have := hS s (by simp [q])
            exact ⟨this.1, by omega⟩
  · rintro ρ μ1 ⟨pre, S, hW, hL, hS, hSl, hpl, rfl, rfl⟩
    have ha := asS_of (many := many) hW
    have hL : Lap (2 * many - 1) many pre S := by simpa using hL
    simp [wpSs, wpS, wpE, wpEs, wpT]
    rw [rd_p (sh_l ap)]
    simp only [opBi_ll, opC_ei, List.length_map]
    have nn : asS many v = none → retW true K (.d .non) (Sh μ bl bw (.lst (LI (NI pre))) (stW S)) := fun h => rN h _ _
    by_cases e : pre.length = many
    · have e2 : decide ((pre.length : Int) = (many : Nat)) = true := decide_eq_true (by omega)
      rw [e2]
      simp only []
      rw [rd_p sh_w]
      cases S with
      | nil =>
        simp only [goS, List.length_nil, Nat.add_zero, List.append_nil] at ha
        rw [if_pos e] at ha
        have : asD many v = .lst (LI (NI pre)) := by unfold asD; rw [ha]
        rw [this] at hK
        simp [stW]
        simp only [show (List.map (D.int ∘ Int.ofNat) pre) = LI (NI pre) by simp] at *
        exact ret_p (xs := LI (NI pre)) (sh_l ap) hbl (sub _ _) hK
      | cons s S =>
        have hn : asS many v = none := by
          rw [ha]
          cases hq : goS (s :: S) pre.length with
          | none => rfl
          | some q =>
            simp only []
            rw [if_neg]
            intro hl
            have := hL q hq hl
            have l2 := goS_len hq
            simp only [List.length_cons] at this l2
            omega
        have nn := nn hn
        have e3 : (stW (s :: S)).isEmpty = false := by rw [stW_c]; simp
        simp [e3]
        simpa using nn
    · have e2 : decide ((pre.length : Int) = (many : Nat)) = false := decide_eq_false (by omega)
      rw [e2]
      have hn : asS many v = none := by
        rw [ha]
        cases hq : goS S pre.length with
        | none => rfl
        | some q =>
          simp only []
          rw [if_neg]
          intro hl
          have := hL q hq hl
          have l2 := goS_len hq
          omega
      simpa using nn hn
end K36


namespace K36
open PySem Cr
theorem fl_len {α β : Type} {f : α → List β} {B : Nat} : ∀ {l : List α}, (∀ x ∈ l, (f x).length ≤ B) → (l.flatMap f).length ≤ l.length * B
  | [], _ => by simp
  | x :: l, h => by
    have a := h x (by simp)
    have b := fl_len (l := l) fun y hy => h y (by simp [hy])
    simp only [List.flatMap_cons, List.length_append, List.length_cons, Nat.add_mul, Nat.one_mul]
    omega
def TP (l o : Nat) : List D := (allP 6 l).map fun t => t.d o
theorem tp_len {l o : Nat} (h6 : l ≤ 6) : (TP l o).length ≤ 42 := by simp only [TP, List.length_map]; exact allP_len h6
theorem tp_1 {o : Nat} : TP 1 o = [.int o] := rfl
/-- one cut: all pairings ahead, all behind -/
def TA (i j F : Nat) : List D := (TP (i + 1) F).flatMap fun x => (TP j (F + i + 1)).map fun y => .tup [x, y]
theorem tp_ta {l F : Nat} (h : l + 2 ≤ 6) : TP (l + 2) F = (List.range (l + 1)).flatMap fun i => TA i (l + 1 - i) F := by
  unfold TP
  rw [allP, List.map_flatMap]
  rw [List.flatMap_def, List.flatMap_def]
  congr 1
  apply List.map_congr_left
  intro i hi
  have hi := List.mem_range.mp hi
  rw [allP_st (f := 5) (g := 6) (l := i + 1) (by omega) (by omega), allP_st (f := 5) (g := 6) (l := l + 1 - i) (by omega) (by omega)]
  unfold TA TP
  rw [List.map_flatMap, List.flatMap_map, List.flatMap_def, List.flatMap_def]
  congr 1
  apply List.map_congr_left
  intro x hx
  have e : F + x.sz = F + i + 1 := by rw [allP_sz hx]; omega
  simp [Pr.d, e, Function.comp_def]
theorem ta_len {i l F : Nat} (h1 : i + 1 ≤ 6) (h2 : l ≤ 6) : (TA i l F).length ≤ 1764 := by
  have a := tp_len (o := F) h1
  have b := tp_len (o := F + i + 1) h2
  have c := fl_len (l := TP (i + 1) F) (f := fun x => (TP l (F + i + 1)).map fun y => D.tup [x, y]) (B := 42) fun x _ => by simpa using b
  unfold TA
  omega
def LX (many : Nat) (m : List Int → Option D) (L O : Nat) : Prop := ∀ l a : Nat, 1 ≤ l → a + l ≤ many → (l < L ∨ (l = L ∧ a < O)) → m [(a : Int), (a : Int) + (l : Nat) - 1] = some (.lst (TP l a))
theorem lx_put {many : Nat} {m : List Int → Option D} {L O : Nat} (h : LX many m L O) : LX many (fun j => if j = [(O : Int), (O : Int) + (L : Nat) - 1] then some (.lst (TP L O)) else m j) L (O + 1) := by
  intro l a h0 h1 h2
  simp only
  by_cases e : l = L ∧ a = O
  · obtain ⟨rfl, rfl⟩ := e
    simp
  · rw [if_neg, h l a h0 h1 (by omega)]
    intro q
    simp at q
    omega
def trB : List CS := bodyOf (f__law_pairings.body.getD 1 .pass)
def trI : List CS := bodyOf (trB.getD 0 .pass)
def trA : List CS := bodyOf (trI.getD 2 .pass)
def trX : List CS := bodyOf (trA.getD 0 .pass)
theorem tr_x : trX = [.expr (.bm .extend false (.slot 5) (.cons (.comp false (.tup (.cons (.slot 7) (.cons (.slot 8) .nil))) (.slot 8) (.seq (.idx (.slot 1) (.tup (.cons (.bin false .add (.slot 6) (.lit (.int 1))) (.cons (.slot 4) .nil))))) .nil [8]) .nil))] := rfl
abbrev trE (many b : Nat) (long first last : Option A) (fd at_ ah : Option A) : Cr.Env := [some (.d (.int many)), some (.ptr b), long, first, last, fd, at_, ah, none]
/-- one pairing ahead, all behind -/
theorem tr_ext {k b f n l p many : Nat} {long first last at_ : Int} {x : D} {c : Cell} {m : List Int → Option D} {ts : List D} {μ : Store} {P : Post} (hbf : b ≠ f) (h : DT c m n) (hb : μ b = some c) (hx : m [at_ + 1, last] = some (.lst (TP l p))) (hl5 : l ≤ 6) (hat : at_.natAbs < 1000) (hts : ts.length ≤ 100000)
    (hP : ∀ ρ, mask (trE many b (some (.d (.int long))) (some (.d (.int first))) (some (.d (.int last))) (some (.ptr f)) (some (.d (.int at_))) none) ρ = trE many b (some (.d (.int long))) (some (.d (.int first))) (some (.d (.int last))) (some (.ptr f)) (some (.d (.int at_))) none →
      P.nx ρ (put μ f (.lst (ts ++ (TP l p).map fun y => .tup [x, y])))) :
    wpSs G (callW G k) trX (trE many b (some (.d (.int long))) (some (.d (.int first))) (some (.d (.int last))) (some (.ptr f)) (some (.d (.int at_))) (some (.d x))) (put μ f (.lst ts)) P := by
  have hline : line = 16777216 := rfl
  rw [tr_x]
  have hb' : put μ f (.lst ts) b = some c := by rw [put_o hbf]; exact hb
  simp [wpSs, wpS, wpT, wpTA, wpE, wpEs, wpI, wpC, wpTg, wipe, List.set]
  have t3 := tp_len (o := p) hl5
  have ft : tagOf (put μ f (.lst ts)) (.ptr f) = some .list := by simp [tagOf]
  rw [ft]
  refine ⟨rfl, by omega, ?_⟩
  refine h.rd (a := [at_ + 1, last]) hb' hx ?_
  simp only [seqSrc_d, items_l]
  intro a ha
  refine compD (TP l p) (fun y => .tup [x, y]) (fun _ _ => trivial) (by omega) (fun y hy μ1 _ Kc hKc => ⟨by omega, hKc⟩) ?_
  rw [del_put ha]
  simp [isMut, mutate, opMut]
  refine ⟨by omega, ?_⟩
  exact hP _ (by simp [mask])
theorem tr_a : trA = [.for_ (.slot 7) (.seq (.idx (.slot 1) (.tup (.cons (.slot 3) (.cons (.slot 6) .nil))))) trX] := rfl
theorem tr_at {k b f n i l F many : Nat} {long last at_ : Int} {c : Cell} {m : List Int → Option D} {ts : List D} {μ : Store} {P : Post} (hbf : b ≠ f) (h : DT c m n) (hb : μ b = some c) (hi : at_ = (F : Int) + (i : Nat)) (hA : m [(F : Int), at_] = some (.lst (TP (i + 1) F))) (hB : m [at_ + 1, last] = some (.lst (TP l (F + i + 1)))) (hl5 : l + (i + 1) ≤ 6) (hts : ts.length ≤ 50000) (hat : at_.natAbs < 1000)
    (hP : ∀ ρ, mask (trE many b (some (.d (.int long))) (some (.d (.int F))) (some (.d (.int last))) (some (.ptr f)) none none) ρ = trE many b (some (.d (.int long))) (some (.d (.int F))) (some (.d (.int last))) (some (.ptr f)) none none →
      P.nx ρ (put μ f (.lst (ts ++ TA i l F)))) :
    wpSs G (callW G k) trA (trE many b (some (.d (.int long))) (some (.d (.int F))) (some (.d (.int last))) (some (.ptr f)) (some (.d (.int at_))) none) (put μ f (.lst ts)) P := by
  have hline : line = 16777216 := rfl
  rw [tr_a]
  have hb' : put μ f (.lst ts) b = some c := by rw [put_o hbf]; exact hb
  simp [wpSs, wpS, wpT, wpTA, wpE, wpEs, wpI, wpC, wpTg, wipe, List.set]
  refine ⟨by omega, ?_⟩
  refine h.rd (a := [(F : Int), at_]) hb' hA ?_
  simp only [seqSrc_d, items_l]
  have la := tp_len (l := i + 1) (o := F) (by omega)
  have lb := tp_len (l := l) (o := F + i + 1) (by omega)
  refine for_inv (I := fun j ρ μ1 => μ1 = put μ f (.lst (ts ++ ((TP (i + 1) F).take j).flatMap fun x => (TP l (F + i + 1)).map fun y => D.tup [x, y])) ∧ ρ = trE many b (some (.d (.int long))) (some (.d (.int F))) (some (.d (.int last))) (some (.ptr f)) (some (.d (.int at_))) none) ⟨by simp, rfl⟩ (fun _ _ _ _ => trivial) ?_ ?_
  · rintro j x ρ μ1 nx hx ⟨rfl, rfl⟩ hnx
    obtain ⟨hj, ej⟩ := List.getElem?_eq_some_iff.mp hx
    have hlen : (((TP (i + 1) F).take j).flatMap fun x => (TP l (F + i + 1)).map fun y => D.tup [x, y]).length ≤ 1764 := by
      have q := fl_len (l := (TP (i + 1) F).take j) (f := fun x => (TP l (F + i + 1)).map fun y => D.tup [x, y]) (B := 42) fun x _ => by simpa using lb
      have q2 : ((TP (i + 1) F).take j).length ≤ 42 := by simp; omega
      omega
    refine tr_ext (p := F + i + 1) (l := l) hbf h hb hB (by omega) hat (by simp only [List.length_append]; omega) fun ρ hma => hnx _ _ ⟨?_, hma⟩
    rw [List.take_succ_eq_append_getElem hj, List.flatMap_append, ej, List.append_assoc]
    simp
  · rintro ρ μ1 ⟨rfl, rfl⟩
    rw [List.take_length]
    exact hP _ (by simp [mask])
theorem tr_i : trI = [.asg (.slot 4) (.bin false .sub (.bin false .add (.slot 3) (.slot 2)) (.lit (.int 1))), .asg (.slot 5) (.ife (.cmp .eq (.slot 2) (.lit (.int 1))) (.lst true (.cons (.slot 3) .nil)) (.lst true .nil)), .for_ (.slot 6) (.rng2 (.slot 3) (.slot 4)) trA, .asg (.subT (.slot 1) (.cons (.slot 3) (.cons (.slot 4) .nil))) (.slot 5)] := rfl
theorem tr_step {k b n l F many : Nat} {c : Cell} {m : List Int → Option D} {μ : Store} {P : Post} (h : DT c m n) (hn : n < 1000) (hm : LX many m (l + 1) F) (hb : μ b = some c) (hL : l + 1 ≤ 6) (hF : F ≤ 10) (hLF : F + (l + 1) ≤ many)
    (hP : ∀ c' ρ, DT c' (fun j => if j = [(F : Int), (F : Int) + ((l + 1 : Nat) : Int) - 1] then some (.lst (TP (l + 1) F)) else m j) (n + 1) → mask (trE many b (some (.d (.int ((l + 1 : Nat) : Int)))) none none none none none) ρ = trE many b (some (.d (.int ((l + 1 : Nat) : Int)))) none none none none none → P.nx ρ (put μ b c')) :
    wpSs G (callW G k) trI (trE many b (some (.d (.int ((l + 1 : Nat) : Int)))) (some (.d (.int F))) none none none none) μ P := by
  have hline : line = 16777216 := rfl
  rw [tr_i]
  simp [wpSs, wpS, wpT, wpTA, wpE, wpEs, wpI, wpC, wpTg, wipe, List.set, new]
  have fin : ∀ a ρ, μ a = none → mask (trE many b (some (.d (.int ((l + 1 : Nat) : Int)))) none none none none none) ρ = trE many b (some (.d (.int ((l + 1 : Nat) : Int)))) none none none none none → setSubT (.ptr b) [.int F, .int ((F : Int) + ((l + 1 : Nat) : Int) - 1)] (.ptr a) (put μ a (.lst (TP (l + 1) F))) fun μ4 => P.nx ρ μ4 := by
    intro a ρ ha hma
    have hba : b ≠ a := by intro q; subst q; rw [ha] at hb; cases hb
    refine dt_putP h (a := [(F : Int), (F : Int) + ((l + 1 : Nat) : Int) - 1]) (by rw [put_o hba]; exact hb) put_at hba (by omega) fun c' h' => ?_
    rw [del_put ha]
    exact hP c' ρ h' hma
  cases l with
  | zero =>
    simp
    refine ⟨by omega, fun a ha => ⟨smallI (by omega) (by omega), ?_⟩⟩
    have : rangeD (F : Int) (F : Int) = [] := by
      have q := range2_map (i := F) (n := 0)
      simpa using q
    rw [this, forLoop]
    simp
    have := fin a [some (.d (.int many)), some (.ptr b), some (.d (.int 1)), some (.d (.int F)), some (.d (.int F)), some (.ptr a), none, none, none] ha (by simp [mask])
    rw [tp_1] at this
    simp at this
    exact ⟨trivial, by omega, this⟩
  | succ l =>
    have h1 : decide (((l + 1 + 1 : Nat) : Int) = 1) = false := decide_eq_false (by omega)
    have h1' : ¬ ((l : Int) + 1 + 1 = 1) := by omega
    simp [h1']
    refine fun a ha => ⟨smallI (by omega) (by omega), smallI (by omega) (by omega), ?_⟩
    have hba : b ≠ a := by intro q; subst q; rw [ha] at hb; cases hb
    have er : rangeD (F : Int) ((F : Int) + ((l : Int) + 1 + 1) - 1) = (List.range (l + 1)).map fun k : Nat => D.int ((F : Int) + (k : Int)) := by
      have q := range2_map (i := F) (n := l + 1)
      have e : (F : Int) + ((l : Int) + 1 + 1) - 1 = (F : Int) + ((l + 1 : Nat) : Int) := by omega
      rw [e]
      exact q
    rw [er]
    have bd : ∀ j, j ≤ l + 1 → ((List.range j).flatMap fun i => TA i (l + 1 - i) F).length ≤ 10584 := fun j hj => by
      have q := fl_len (l := List.range j) (f := fun i => TA i (l + 1 - i) F) (B := 1764) fun i hi => ta_len (by have := List.mem_range.mp hi; omega) (by omega)
      simp only [List.length_range] at q
      omega
    refine for_inv (I := fun j ρ μ1 => μ1 = put μ a (.lst ((List.range j).flatMap fun i => TA i (l + 1 - i) F)) ∧ ρ = trE many b (some (.d (.int ((l : Int) + 1 + 1)))) (some (.d (.int F))) (some (.d (.int ((F : Int) + ((l : Int) + 1 + 1) - 1)))) (some (.ptr a)) none none) ⟨rfl, rfl⟩ (fun _ _ _ _ => trivial) ?_ ?_
    · rintro j x ρ μ1 nx hx ⟨rfl, rfl⟩ hnx
      have hj : j < l + 1 := by
        have := (List.getElem?_eq_some_iff.mp hx).1
        simpa using this
      have ex : x = .int ((F : Int) + (j : Int)) := by
        simp [hj] at hx
        exact hx.symm
      subst ex
      have eA : m [(F : Int), (F : Int) + (j : Int)] = some (.lst (TP (j + 1) F)) := by
        have q := hm (j + 1) F (by omega) (by omega) (by omega)
        have e1 : (F : Int) + ((j + 1 : Nat) : Int) - 1 = (F : Int) + (j : Int) := by omega
        rw [e1] at q
        exact q
      have eB : m [(F : Int) + (j : Int) + 1, (F : Int) + ((l : Int) + 1 + 1) - 1] = some (.lst (TP (l + 1 - j) (F + j + 1))) := by
        have q := hm (l + 1 - j) (F + j + 1) (by omega) (by omega) (by omega)
        have e1 : ((F + j + 1 : Nat) : Int) = (F : Int) + (j : Int) + 1 := by omega
        have e2 : ((F + j + 1 : Nat) : Int) + ((l + 1 - j : Nat) : Int) - 1 = (F : Int) + ((l : Int) + 1 + 1) - 1 := by omega
        rw [e2, e1] at q
        exact q
      refine tr_at (i := j) (l := l + 1 - j) (F := F) hba h hb rfl eA eB (by omega) (by have := bd j (by omega); omega) (by omega) fun ρ hma => hnx _ _ ⟨?_, hma⟩
      rw [List.range_succ, List.flatMap_append]
      simp
    · rintro ρ μ1 ⟨rfl, rfl⟩
      have := fin a (trE many b (some (.d (.int ((l : Int) + 1 + 1)))) (some (.d (.int F))) (some (.d (.int ((F : Int) + ((l : Int) + 1 + 1) - 1)))) (some (.ptr a)) none none) ha (by simp [mask])
      rw [tp_ta (by omega)] at this
      simp
      simp at this
      exact ⟨by omega, this⟩
theorem tr_body : f__law_pairings.body = [.asg (.slot 1) .dctT, .for_ (.slot 2) (.rng2 (.lit (.int 1)) (.bin false .add (.slot 0) (.lit (.int 1)))) trB, .ret (.idx (.slot 1) (.tup (.cons (.lit (.int 0)) (.cons (.bin false .sub (.slot 0) (.lit (.int 1))) .nil))))] := rfl
theorem tr_b : trB = [.for_ (.slot 3) (.rng1 (.bin false .add (.bin false .sub (.slot 0) (.slot 2)) (.lit (.int 1)))) trI] := rfl
theorem pairings_ok {k many : Nat} (h0 : 1 ≤ many) (h5 : many ≤ 6) : Ret G (k + 1) i__law_pairings [.int many] (.lst (TP many 0)) := by
  intro μ K E hK
  have hline : line = 16777216 := rfl
  refine call_of (fn := f__law_pairings) rfl rfl ?_
  rw [tr_body]
  simp [f__law_pairings, wpSs, wpS, wpTA, wpE, wpEs, wpI, wpTg, List.set, new]
  intro b hb
  have er : rangeD 1 ((many : Int) + 1) = (List.range many).map fun k : Nat => D.int (((1 : Nat) : Int) + (k : Int)) := by
    have : (many : Int) + 1 = ((1 : Nat) : Int) + (many : Int) := by omega
    rw [this]
    exact range2_map
  rw [er]
  refine ⟨smallI (by omega) (by omega), smallI (by omega) (by omega), ?_⟩
  refine for_inv (I := fun L ρ μ1 => ∃ c m n, μ1 = put μ b c ∧ DT c m n ∧ n ≤ L * 10 ∧ LX many m (L + 1) 0 ∧ ρ = trE many b none none none none none none) ⟨_, _, 0, rfl, DT.nil, by omega, (fun l a h1 h2 h3 => by omega), rfl⟩ (fun _ _ _ _ => trivial) ?_ ?_
  · rintro L x ρ μ1 nx hx ⟨c, m, n, rfl, h, hn, hm, rfl⟩ hnx
    have hL : L < many := by
      have := (List.getElem?_eq_some_iff.mp hx).1
      simpa using this
    have ex : x = .int ((L + 1 : Nat) : Int) := by
      simp [hL] at hx
      rw [← hx]
      congr 1
      omega
    subst ex
    rw [tr_b]
    simp [wpSs, wpS, wpI, wpE, wpEs, wpTg, List.set]
    have er3 : rangeD 0 ((many : Int) - ((L : Int) + 1) + 1) = (List.range (many - L)).map fun k : Nat => D.int (k : Int) := by
      have : (many : Int) - ((L : Int) + 1) + 1 = ((many - L : Nat) : Int) := by omega
      rw [this]
      exact range_map
    rw [er3]
    refine ⟨smallI (by omega) (by omega), ?_⟩
    refine for_inv (I := fun F ρ μ1 => ∃ c m n, μ1 = put μ b c ∧ DT c m n ∧ n ≤ L * 10 + F ∧ LX many m (L + 1) F ∧ ρ = trE many b (some (.d (.int ((L + 1 : Nat) : Int)))) none none none none none) ⟨_, _, _, rfl, h, by omega, hm, rfl⟩ (fun _ _ _ _ => trivial) ?_ ?_
    · rintro F x ρ μ1 nx2 hx ⟨c, m, n, rfl, h, hn, hm, rfl⟩ hnx2
      have hF : F < many - L := by
        have := (List.getElem?_eq_some_iff.mp hx).1
        simpa using this
      have ex : x = .int (F : Int) := by
        simp [hF] at hx
        exact hx.symm
      subst ex
      exact tr_step h (by omega) hm put_at (by omega) (by omega) (by omega) fun c' ρ h' hma => hnx2 _ _ ⟨c', _, n + 1, by rw [put_put], h', by omega, lx_put hm, hma⟩
    · rintro ρ μ1 ⟨c, m, n, rfl, h, hn, hm, rfl⟩
      simp at hn hm
      refine hnx _ _ ⟨c, m, n, rfl, h, by omega, fun l a h1 h2 h3 => ?_, by simp [mask]⟩
      exact hm l a h1 h2 (by omega)
  · rintro ρ μ1 ⟨c, m, n, rfl, h, hn, hm, rfl⟩
    simp
    refine ⟨by omega, ?_⟩
    simp at hm
    have hv := hm many 0 (by omega) (by omega) (by omega)
    have e : ((0 : Nat) : Int) + (many : Nat) - 1 = (many : Int) - 1 := by omega
    rw [e] at hv
    refine h.rd (a := [0, (many : Int) - 1]) put_at hv ?_
    exact ret_d (sub_put hb sub_refl) hK
end K36


namespace K36
open PySem Cr
theorem go_bd : ∀ {f : Nat} {v : D} {n d : Nat} {p : List Nat}, go f v n d = some p → ∀ x ∈ p, x < d + f
  | 0, v, n, d, p, h => by cases v <;> simp [go] at h
  | f + 1, v, n, d, p, h => by
    unfold go at h
    split at h
    · rename_i e
      split at h
      · cases h; simp
      · cases h
    · split at h
      · rename_i p1 e1
        split at h
        · rename_i q1 e2
          cases h
          have a := go_bd e1
          have b := go_bd e2
          intro x hx
          rcases List.mem_append.mp hx with q | q
          · have := a x q; omega
          · have := b x q; omega
        · cases h
      · cases h
    · cases h
theorem asS_bd {many : Nat} {v : D} {L : List Nat} (h : asS many v = some L) : L.length = many ∧ ∀ x ∈ L, x < 14 := by
  unfold asS at h
  split at h
  · rename_i L1 e
    split at h
    · rename_i hl
      cases h
      refine ⟨hl, ?_⟩
      simp only [goS] at e
      split at e
      · rename_i p e1
        simp at e
        subst e
        have := go_bd e1
        intro x hx
        have := this x hx
        have : Fu = 14 := rfl
        omega
      · cases e
    · cases h
  · cases h
theorem asS_sm {many : Nat} {v : D} {L : List Nat} (h : asS many v = some L) : Sm (NI L) := fun x hx => by
  obtain ⟨k, hk, rfl⟩ := List.mem_map.mp hx
  have := (asS_bd h).2 k hk
  have e : Int.ofNat k = (k : Int) := rfl
  rw [e]
  omega
/-- a told pairing -/
def toldB (w : List Int) (total : Int) : D → Bool
  | .tup [.int a, t] => decide (a = total) && (match asS w.length t with
    | some L => decide (sm w (NI L) = total)
    | none => false)
  | _ => false
theorem shows_ok {k : Nat} {w : List Int} {v : D} (hv : Vt v) (hw : Wt w) (h1 : 1 ≤ w.length) (h5 : w.length ≤ 6) : Ret G (k + 8) i_shows_best_pairing [.tup (LI w), v] (.bl (toldB w (cmP w w.length 0) v)) := by
  intro μ K E hK
  have hline : line = 16777216 := rfl
  refine call_of (fn := f_shows_best_pairing) rfl rfl ?_
  simp [f_shows_best_pairing, wpSs, wpS, wpT, wpTA, wpTAs, wpE, wpEs, wpI, wpC, wpTg, wipe, List.set, kindOf]
  refine check_weights_ok (k := k + 3) hw h1 (by omega) _ _ _ ?_
  refine pairs_by_ok (k := k + 6) hw h1 h5 fun b c m n hb hd hm => ?_
  obtain ⟨v0, hv0, a0, rfl, _⟩ := hm w.length 0 h1 (by omega) (by omega)
  have e0 : ((0 : Nat) : Int) + (w.length : Int) - 1 = (w.length : Int) - 1 := by omega
  have sub : Sub μ (put μ b c) := sub_put hb sub_refl
  rw [e0] at hv0
  refine ⟨by omega, ?_⟩
  refine hd.rd (a := [0, (w.length : Int) - 1]) put_at hv0 ?_
  generalize put μ b c = μ1 at *
  generalize cmP w w.length 0 = num at *
  obtain ⟨v, ht, hvc⟩ := hv
  simp
  refine ⟨ht, ?_⟩
  by_cases htt : ∃ xs, v = .tup xs
  case neg =>
    have hk : toldB w num v = false := by cases v <;> first | rfl | exact absurd ⟨_, rfl⟩ htt
    rw [hk] at hK
    cases v <;> first | exact absurd ⟨_, rfl⟩ htt | (simp [isTy]; exact ret_d sub hK)
  obtain ⟨xs, rfl⟩ := htt
  simp only [isTy, Bool.not_true, opBi_lt, opC_ni]
  by_cases h3 : xs.length = 2
  case neg =>
    have hk : toldB w num (.tup xs) = false := by
      unfold toldB
      split
      · rename_i e; cases e; exact absurd rfl h3
      · rfl
    rw [hk] at hK
    have e : ¬ ((xs.length : Nat) : Int) = 2 := by omega
    simp only [e, decide_false, Bool.not_false]
    exact ret_d sub hK
  obtain ⟨a, t, rfl⟩ : ∃ a b, xs = [a, b] := by
    match xs, h3 with
    | [a, b], _ => exact ⟨a, b, rfl⟩
  have e : (([a, t].length : Nat) : Int) = 2 := by simp
  have hvt := hvc _ rfl t (by simp)
  obtain ⟨_, hva, hvz⟩ := hvc _ rfl a (by simp)
  simp only [e, decide_true, Bool.not_true, opIx_t, atI_0, Option.some.injEq, exists_eq_left']
  refine is_integer_d (k := k + 6) hva _ _ _ ?_
  simp only [rd_d, truth_bl]
  cases hw0 : isW a with
  | false =>
    have hk : toldB w num (.tup [a, t]) = false := by cases a <;> first | rfl | cases hw0
    rw [hk] at hK
    simp only [Bool.not_false]
    exact ret_d sub hK
  | true =>
    cases a <;> simp only [isW] at hw0 <;> try cases hw0
    rename_i i
    simp only [Bool.not_true, opC_ni]
    by_cases ei : i = num
    case neg =>
      have hk : toldB w num (.tup [.int i, t]) = false := by simp [toldB, ei]
      rw [hk] at hK
      simp only [ei, decide_false, Bool.not_false]
      exact ret_d sub hK
    subst ei
    simp only [decide_true, Bool.not_true]
    simp
    refine asks_by_ok (k := k + 5) h1 h5 hvt _ _ _ ?_
    unfold asD
    cases hdp : asS w.length t with
    | none =>
      have hk : toldB w i (.tup [.int i, t]) = false := by simp [toldB, hdp]
      rw [hk] at hK
      simp
      exact ret_d sub hK
    | some L =>
      have hk : toldB w i (.tup [.int i, t]) = decide (sm w (NI L) = i) := by simp [toldB, hdp]
      rw [hk] at hK
      obtain ⟨hL1, hL2⟩ := asS_bd hdp
      have hwk := asS_sm hdp
      have hNl : (NI L).length = w.length := by simp [NI, hL1]
      simp only []
      intro ap2 hap2
      rw [zip_LI]
      refine compM _ _ (fun x : Int × Int => .int (x.1 * x.2)) (fun _ _ => trivial) (by simp; omega) (fun x hx μ1 hμ Kc hKc => ?_) ?_
      · obtain ⟨hx1, hx2⟩ := zip_mem hx
        have b1 := hw _ hx1
        have b2 := hwk _ hx2
        refine ⟨rfl, ?_⟩
        simp [wpTgs, wpTg, List.set]
        exact ⟨mulOk_b (by omega) (by omega), hKc⟩
      · rw [del_put hap2]
        refine ⟨_, intsM, ?_⟩
        exact ret_d sub hK
theorem is_told_ok {k : Nat} {w : List Int} {num : Int} {v : D} (hv : Vt v) (hw : Wt w) (h1 : 1 ≤ w.length) (h5 : w.length ≤ 6) : Ret G (k + 8) i__law_is_told [.tup (LI w), .int num, v] (.bl (toldB w num v)) := by
  intro μ K E hK
  have hline : line = 16777216 := rfl
  refine call_of (fn := f__law_is_told) rfl rfl ?_
  simp [f__law_is_told, wpSs, wpS, wpT, wpTA, wpTAs, wpE, wpEs, wpI, wpC, wpTg, wipe, List.set, kindOf]
  obtain ⟨v, ht, hvc⟩ := hv
  refine ⟨ht, ?_⟩
  by_cases htt : ∃ xs, v = .tup xs
  case neg =>
    have hk : toldB w num v = false := by cases v <;> first | rfl | exact absurd ⟨_, rfl⟩ htt
    rw [hk] at hK
    cases v <;> first | exact absurd ⟨_, rfl⟩ htt | (simp [isTy]; exact ret_d sub_refl hK)
  obtain ⟨xs, rfl⟩ := htt
  simp only [isTy, Bool.not_true, opBi_lt, opC_ni]
  by_cases h3 : xs.length = 2
  case neg =>
    have hk : toldB w num (.tup xs) = false := by
      unfold toldB
      split
      · rename_i e; cases e; exact absurd rfl h3
      · rfl
    rw [hk] at hK
    have e : ¬ ((xs.length : Nat) : Int) = 2 := by omega
    simp only [e, decide_false, Bool.not_false]
    exact ret_d sub_refl hK
  obtain ⟨a, t, rfl⟩ : ∃ a b, xs = [a, b] := by
    match xs, h3 with
    | [a, b], _ => exact ⟨a, b, rfl⟩
  have e : (([a, t].length : Nat) : Int) = 2 := by simp
  have hvt := hvc _ rfl t (by simp)
  obtain ⟨_, hva, hvz⟩ := hvc _ rfl a (by simp)
  simp only [e, decide_true, Bool.not_true, opIx_t, atI_0, Option.some.injEq, exists_eq_left']
  refine law_int_d (k := k + 6) hva _ _ _ ?_
  simp only [rd_d, truth_bl]
  cases hw0 : isW a with
  | false =>
    have hk : toldB w num (.tup [a, t]) = false := by cases a <;> first | rfl | cases hw0
    rw [hk] at hK
    simp only [Bool.not_false]
    exact ret_d sub_refl hK
  | true =>
    cases a <;> simp only [isW] at hw0 <;> try cases hw0
    rename_i i
    simp only [Bool.not_true, opC_ni]
    by_cases ei : i = num
    case neg =>
      have hk : toldB w num (.tup [.int i, t]) = false := by simp [toldB, ei]
      rw [hk] at hK
      simp only [ei, decide_false, Bool.not_false]
      exact ret_d sub_refl hK
    subst ei
    simp only [decide_true, Bool.not_true]
    simp
    refine law_asks_ok (k := k + 5) h1 h5 hvt _ _ _ ?_
    unfold asD
    cases hdp : asS w.length t with
    | none =>
      have hk : toldB w i (.tup [.int i, t]) = false := by simp [toldB, hdp]
      rw [hk] at hK
      simp
      exact ret_d sub_refl hK
    | some L =>
      have hk : toldB w i (.tup [.int i, t]) = decide (sm w (NI L) = i) := by simp [toldB, hdp]
      rw [hk] at hK
      obtain ⟨hL1, hL2⟩ := asS_bd hdp
      have hwk := asS_sm hdp
      have hNl : (NI L).length = w.length := by simp [NI, hL1]
      simp only []
      intro ap2 hap2
      rw [zip_LI]
      refine compM _ _ (fun x : Int × Int => .int (x.1 * x.2)) (fun _ _ => trivial) (by simp; omega) (fun x hx μ1 hμ Kc hKc => ?_) ?_
      · obtain ⟨hx1, hx2⟩ := zip_mem hx
        have b1 := hw _ hx1
        have b2 := hwk _ hx2
        refine ⟨rfl, ?_⟩
        simp [wpTgs, wpTg, List.set]
        exact ⟨mulOk_b (by omega) (by omega), hKc⟩
      · rw [del_put hap2]
        refine ⟨_, intsM, ?_⟩
        exact ret_d sub_refl hK
/-! the pairings themselves -/
theorem go_d : ∀ {t : Pr} {f o d : Nat}, t.sz ≤ f → go f (t.d o) o d = some (t.dl d)
  | .lf, f, o, d, h => by
    obtain ⟨g, rfl⟩ : ∃ g, f = g + 1 := ⟨f - 1, by simp only [Pr.sz] at h; omega⟩
    simp [Pr.d, Pr.dl, go]
  | .nd x y, f, o, d, h => by
    have px : ∀ t : Pr, 1 ≤ t.sz := fun t => by
      induction t with
      | lf => simp [Pr.sz]
      | nd a b ha hb => simp only [Pr.sz]; omega
    have h1 := px x
    have h2 := px y
    simp only [Pr.sz] at h
    obtain ⟨g, rfl⟩ : ∃ g, f = g + 1 := ⟨f - 1, by omega⟩
    simp only [Pr.d, Pr.dl, go]
    rw [go_d (t := x) (by omega)]
    simp only []
    rw [dl_len, go_d (t := y) (by omega)]
theorem asS_P {n : Nat} {t : Pr} (h6 : n ≤ 6) (ht : t ∈ allP 6 n) : asS n (t.d 0) = some (t.dl 0) := by
  have hs := allP_sz ht
  have hF : Fu = 14 := rfl
  simp only [asS, goS]
  rw [go_d (by omega)]
  simp [dl_len, hs]
theorem told_P {w : List Int} {t : Pr} (h6 : w.length ≤ 6) (ht : t ∈ allP 6 w.length) (hc : cP w t 0 = cmP w w.length 0) : toldB w (cmP w w.length 0) (.tup [.int (cmP w w.length 0), t.d 0]) = true := by
  simp [toldB, asS_P h6 ht, sm_all ht, hc]
theorem vt_P : ∀ {t : Pr} {o : Nat}, t.sz ≤ 8 → Vt (t.d o)
  | .lf, o, _ => vt_int
  | .nd x y, o, h => by
    simp only [Pr.sz] at h
    exact vt_p (vt_P (by omega)) (vt_P (by omega))
end K36


namespace K36
open PySem Cr
def rv (a many : Nat) (total values told free : Option A) (w : List Int) : Cr.Env := [some (.ptr a), some (.d (.int many)), some (.d (.tup (LI w))), some (.d (.lst (TP many 0))), total, values, none, told, free, none, none, none, none]
def pA : List CS := f__law_right.body.take 4
def pB : List CS := (f__law_right.body.drop 4).take 2
def pC : List CS := (f__law_right.body.drop 6).take 2
def pD : List CS := (f__law_right.body.drop 8).take 2
def pE : List CS := (f__law_right.body.drop 10).take 2
def pF : List CS := f__law_right.body.drop 12
theorem r_body : f__law_right.body = pA ++ (pB ++ (pC ++ (pD ++ (pE ++ pF)))) := rfl
theorem vt_T {l o : Nat} {t : Pr} (h : t ∈ allP 6 l) (hl : l ≤ 6) : Vt (t.d o) := vt_P (by rw [allP_sz h]; omega)
theorem partA {k a n : Nat} {c : Cell} (hn : n + 100 ≤ 1000000) {μ : Store} {P : Post} (hc : Pot n c)
    (hP : ∀ (w : List Int) c', Wt w → 1 ≤ w.length → w.length ≤ 6 → Pot (n + 100) c' → P.nx (rv a w.length none none none none w) (put μ a c')) :
    wpSs G (callW G (k + 12)) pA [some (.ptr a), none, none, none, none, none, none, none, none, none, none, none, none] (put μ a c) P := by
  have hline : line = 16777216 := rfl
  simp [pA, f__law_right, wpSs, wpS, wpT, wpTA, wpTAs, wpE, wpEs, wpI, wpC, wpTg, wipe, List.set]
  refine take_ok (k := k + 11) (u := 6) (by omega) (by omega) (by omega) hc fun r c1 hr hc1 => ?_
  simp
  obtain ⟨many, hmany, h0, h5⟩ : ∃ many : Nat, 1 + (r : Int) = (many : Nat) ∧ 1 ≤ many ∧ many ≤ 6 := ⟨r + 1, by omega, by omega, by omega⟩
  rw [hmany]
  refine weights_ok (k := k + 9) (many := many) (by omega) (by omega) hc1 fun w c2 hw hwl hc2 => ?_
  refine take_ok (k := k + 11) (u := 3) (by omega) (by omega) (by omega) hc2 fun r2 c3 hr2 hc3 => ?_
  simp
  subst hwl
  have sl : (srtA w).length = w.length := srtA_perm.length_eq
  have sw : Wt (srtA w) := fun x hx => hw x (srtA_perm.mem_iff.mp hx)
  by_cases hz : r2 = 0
  · subst hz
    simp
    refine srt_t (by omega) ?_
    simp
    refine pairings_ok (k := k + 11) h0 h5 _ _ _ ?_
    have := hP (srtA w) c3 sw (by omega) (by omega) (pot_mono (by omega) hc3)
    rw [rv, sl] at this
    exact this
  · simp [hz]
    refine pairings_ok (k := k + 11) h0 h5 _ _ _ ?_
    exact hP w c3 hw h0 h5 (pot_mono (by omega) hc3)
def sms (w : List Int) : List Int := (allP 6 w.length).map fun t => cP w t 0
theorem sms_at {w : List Int} : lmin (sms w) = cmP w w.length 0 := rfl
theorem partB {k a : Nat} {w : List Int} (hw : Wt w) (h0 : 1 ≤ w.length) (h5 : w.length ≤ 6) {μ : Store} {P : Post}
    (hP : ∀ t, t ∈ allP 6 w.length → cP w t 0 = cmP w w.length 0 → P.nx (rv a w.length (some (.d (.int (cmP w w.length 0)))) none (some (.d (.tup [.int (cmP w w.length 0), t.d 0]))) (some (.d (.int (hf 9 (srtA w))))) w) μ) :
    wpSs G (callW G (k + 12)) pB (rv a w.length none none none none w) μ P := by
  have hline : line = 16777216 := rfl
  have hlen := allP_len h5
  simp [pB, rv, TP, f__law_right, wpSs, wpS, wpT, wpTA, wpTAs, wpE, wpEs, wpI, wpC, wpTg, wpTgs, wipe, List.set]
  intro b hb
  refine compM (allP 6 w.length) (fun t => t.d 0) (fun t => .int (cP w t 0)) (fun _ _ => trivial) (by omega) (fun t ht μ1 _ Kc hKc => ?_) ?_
  · refine law_asks_ok (k := k + 10) h0 h5 (vt_T ht h5) _ _ _ ?_
    have hA := asS_P h5 ht
    have hS := asS_sm hA
    have hL : (NI (t.dl 0)).length = w.length := by simp [NI, (asS_bd hA).1]
    unfold asD
    rw [hA]
    simp only []
    intro b2 hb2
    rw [zip_LI]
    refine compM _ _ (fun x : Int × Int => .int (x.1 * x.2)) (fun _ _ => trivial) (by simp; omega) (fun x hx μ2 hμ Kc2 hKc2 => ?_) ?_
    · obtain ⟨hx1, hx2⟩ := zip_mem hx
      have b1 := hw _ hx1
      have b2 := hS _ hx2
      refine ⟨rfl, ?_⟩
      simp [wpTgs, wpTg, List.set]
      exact ⟨mulOk_b (by omega) (by omega), hKc2⟩
    · rw [del_put hb2]
      refine ⟨_, intsM, ?_⟩
      have e : ((w.zip (NI (t.dl 0))).map fun x => x.1 * x.2).sum = cP w t 0 := sm_all ht
      rw [e]
      exact hKc
  rw [del_put hb]
  have es : ((allP 6 w.length).map fun t => D.int (cP w t 0)) = LI (sms w) := by simp [sms]
  rw [es]
  have hne : sms w ≠ [] := by simpa [sms] using allP_ne h0 h5
  refine ⟨sms w, ints_LI _, hne, fun m b1 b2 => ?_⟩
  have em : m = cmP w w.length 0 := lmin_uni b1 b2
  subst em
  refine best_pairing_ok (k := k + 4) hw h0 h5 fun t ht hc => ?_
  refine free_pairing_ok (k := k + 7) hw h0 h5 _ _ _ ?_
  exact hP t ht hc
end K36


namespace K36
open PySem Cr
theorem flat_LI {k : Nat} : ∀ {w : List Int}, flatDs k (LI w) = true
  | [] => by cases k <;> rfl
  | x :: w => by
    have := flat_LI (k := k) (w := w)
    simp only [LI, List.map_cons] at this ⊢
    simp [flatDs, flatD, this]
theorem eq_LI : ∀ {a b : List Int}, eqDs (LI a) (LI b) = decide (a = b)
  | [], [] => rfl
  | [], _ :: _ => rfl
  | _ :: _, [] => rfl
  | x :: a, y :: b => by
    have := eq_LI (a := a) (b := b)
    simp only [LI, List.map_cons] at this ⊢
    rw [eqDs, this, eqD]
    by_cases h : x = y
    · by_cases h2 : a = b <;> simp [h, h2]
    · simp [h]
theorem free_le {w : List Int} (h0 : 1 ≤ w.length) (h5 : w.length ≤ 6) : hf 9 (srtA w) ≤ cmP w w.length 0 := by
  obtain ⟨t, ht, e⟩ := cmP_at (w := w) (l := w.length) (o := 0) h0 h5
  have := low h5 ht
  rw [sm_all ht, e] at this
  exact this
theorem le_free {w : List Int} (hw : Wt w) (h0 : 1 ≤ w.length) (h5 : w.length ≤ 6) : cmP w w.length 0 ≤ hf 9 (srtA w) + w.sum := by
  obtain ⟨t, ht, e⟩ := high (fun x hx => (hw x hx).1) h0 h5
  rw [sm_all ht] at e
  have := cmP_le (w := w) (o := 0) ht
  omega
theorem same {w : List Int} (h0 : 1 ≤ w.length) (h5 : w.length ≤ 6) (h : w = srtA w ∨ w = (srtA w).reverse) : hf 9 (srtA w) = cmP w w.length 0 := by
  have a := free_le h0 h5
  have b : ∃ t ∈ allP 6 w.length, sm w (NI (t.dl 0)) ≤ hf 9 (srtA w) := by
    rcases h with h | h
    · exact same_up h0 h5 h
    · exact same_dn h0 h5 h
  obtain ⟨t, ht, e⟩ := b
  rw [sm_all ht] at e
  have := cmP_le (w := w) (o := 0) ht
  omega
theorem hf_bd {w : List Int} (hw : Wt w) (h0 : 1 ≤ w.length) (h5 : w.length ≤ 6) : -6000 ≤ hf 9 (srtA w) ∧ hf 9 (srtA w) ≤ 36000 := by
  have a := free_le h0 h5
  have b := le_free hw h0 h5
  have c := cmP_bd (w := w) (l := w.length) (o := 0) hw h0 h5
  have d := sum_bd (l := w) fun z hz => hw z hz
  omega
theorem partC {k a : Nat} {values : Option A} {w : List Int} {t : Pr} (hw : Wt w) (h0 : 1 ≤ w.length) (h5 : w.length ≤ 6) (ht : t ∈ allP 6 w.length) (hc : cP w t 0 = cmP w w.length 0) {μ : Store} {P : Post}
    (hP : P.nx (rv a w.length (some (.d (.int (cmP w w.length 0)))) none (some (.d (.tup [.int (cmP w w.length 0), t.d 0]))) (some (.d (.int (hf 9 (srtA w))))) w) μ) :
    wpSs G (callW G (k + 12)) pC (rv a w.length (some (.d (.int (cmP w w.length 0)))) none (some (.d (.tup [.int (cmP w w.length 0), t.d 0]))) (some (.d (.int (hf 9 (srtA w))))) w) μ P := by
  have hline : line = 16777216 := rfl
  have bd := cmP_bd (w := w) (l := w.length) (o := 0) hw h0 h5
  have bf := hf_bd hw h0 h5
  have l1 := free_le h0 h5
  have l2 := le_free hw h0 h5
  simp [pC, rv, f__law_right, wpSs, wpS, wpT, wpTA, wpTAs, wpE, wpEs, wpI, wpC, wpTg, wpTgs, wipe, List.set]
  refine ⟨int_sz (by omega), rfl, int_sz (by omega), rfl, ?_⟩
  refine is_told_ok (k := k + 4) (vt_p vt_int (vt_T ht h5)) hw h0 h5 _ _ _ ?_
  rw [told_P h5 ht hc]
  simp
  refine ⟨int_sz (by omega), rfl, ?_⟩
  refine law_free_ok (k := k + 11) h0 h5 _ _ _ ?_
  simp
  have e1 : decide (hf 9 (srtA w) ≤ cmP w w.length 0) = true := decide_eq_true l1
  have e2 : decide (cmP w w.length 0 ≤ hf 9 (srtA w) + w.sum) = true := decide_eq_true l2
  refine ⟨int_sz (by omega), rfl, ?_⟩
  rw [e1]
  refine ⟨w, ints_LI _, ?_⟩
  rw [e2]
  exact hP
theorem partD {k a : Nat} {values told : Option A} {w : List Int} (hw : Wt w) (h0 : 1 ≤ w.length) (h5 : w.length ≤ 6) {μ : Store} {P : Post}
    (hP : P.nx (rv a w.length (some (.d (.int (cmP w w.length 0)))) none told (some (.d (.int (hf 9 (srtA w))))) w) μ) :
    wpSs G (callW G (k + 12)) pD (rv a w.length (some (.d (.int (cmP w w.length 0)))) none told (some (.d (.int (hf 9 (srtA w))))) w) μ P := by
  have hline : line = 16777216 := rfl
  have bd := cmP_bd (w := w) (l := w.length) (o := 0) hw h0 h5
  have bf := hf_bd hw h0 h5
  have sl : (srtA w).length = w.length := srtA_perm.length_eq
  simp [pD, rv, f__law_right, wpSs, wpS, wpT, wpTA, wpTAs, wpE, wpEs, wpI, wpC, wpTg, wpTgs, wipe, List.set]
  refine srt_t (by omega) ?_
  refine srt_t (by omega) ?_
  have orv : ∀ {K : D → Prop}, opRev (.lst (LI (srtA w))) K = K (.lst (LI (srtA w)).reverse) := rfl
  rw [orv]
  have rr : (LI (srtA w)).reverse = LI (srtA w).reverse := by simp
  rw [rr]
  refine ⟨by omega, ?_, ?_, ?_⟩
  · show flatDs 39 (LI w) = true
    exact flat_LI
  · have e1 : flatDs 39 (LI (srtA w)) = true := flat_LI
    have e2 : flatDs 39 (LI (srtA w).reverse) = true := flat_LI
    simp only [flatDs, flatD, dep, e1, e2, Bool.and_self]
  have hin : inD (.lst (LI w)) [.lst (LI (srtA w)), .lst (LI (srtA w).reverse)] = true → hf 9 (srtA w) = cmP w w.length 0 := by
    intro h
    simp only [inD, List.any_cons, List.any_nil, eqD, eq_LI, Bool.or_false, Bool.or_eq_true, decide_eq_true_eq] at h
    refine same h0 h5 ?_
    rcases h with h | h
    · exact .inl h.symm
    · exact .inr h.symm
  have fin : 1 < w.length → callW G (k + 12) i_best_tree [.d (.tup (List.replicate (w.length - 1) (.int 0))), .d (.tup (LI w))] = fun μ K E => callW G (k + 3 + 9) i_best_tree [.d (.tup (LI (List.replicate (w.length - 1) 0))), .d (.tup (LI w))] μ K E := by
    intro _
    simp
  have tc : (te (cst (List.replicate (w.length - 1) 0) w) (w.length - 1) (w.length - 1) 0).1 = cmP w w.length 0 := by
    have := te_cmP (w := w) (k := w.length - 1) (l := w.length - 1) (o := 0) (by omega)
    have e : w.length - 1 + 1 = w.length := by omega
    rw [e] at this
    exact this
  cases hi : inD (.lst (LI w)) [.lst (LI (srtA w)), .lst (LI (srtA w).reverse)]
  all_goals
    try (have hh := hin hi; have hd : decide (hf 9 (srtA w) = cmP w w.length 0) = true := decide_eq_true hh; simp only [hd, Bool.not_true])
    try simp only []
    by_cases h1 : 1 < w.length
    · have d1 : decide ((1 : Int) < (w.length : Int)) = true := decide_eq_true (by omega)
      simp only [d1]
      refine ⟨by omega, by omega, by omega, ?_⟩
      rw [fin h1]
      refine best_tree_ok (k := k + 3) (w := List.replicate (w.length - 1) 0) (fun x hx => by have := List.eq_of_mem_replicate hx; omega) hw (by simp; omega) (by simp; omega) (by simp; omega) _ _ _ ?_
      simp [bestC]
      rw [tc]
      simp
      exact hP
    · have d1 : decide ((1 : Int) < (w.length : Int)) = false := decide_eq_false (by omega)
      simp only [d1]
      exact hP
end K36


namespace K36
open PySem Cr
theorem bents_ok {k a s b n : Nat} {c : Cell} {L : List D} {v : D} {μ : Store} {K : List D → Store → Prop} (hg : Gt 6 v) (hn : n + 300 ≤ 1000000) (nsa : a ≠ s) (hc : Pot n c) (hb : put (put μ a c) s (.lst L) b = none)
    (hK : ∀ vs c', (∀ v ∈ vs, Vt v) → vs.length ≤ 10 → Pot (n + 210) c' → K vs (put (put (put μ a c') s (.lst L)) b (.lst vs))) :
    compLoop b none (fun x μ2 Kc => callW G (k + 12) i__law_bent [.ptr a, .d v] μ2 (fun a μ4 => toD μ4 a fun d μ5 => Kc (some d) μ5) fun x x_1 x_2 => False) (rangeD 0 10) [] (put (put (put μ a c) s (.lst L)) b (.lst [])) K := by
  have hline : line = 16777216 := rfl
  have nbs : b ≠ s := fun e => by rw [e, put_at] at hb; cases hb
  have nba : a ≠ b := fun e => by rw [← e, put_o nsa, put_at] at hb; cases hb
  refine comp_st (I := fun j acc μ1 => ∃ c', (∀ v ∈ acc, Vt v) ∧ acc.length ≤ j ∧ Pot (n + 21 * j) c' ∧ μ1 = put (put μ a c') s (.lst L)) ⟨c, (fun _ h => by cases h), by simp, hc, rfl⟩ (by simp; omega) (fun _ _ _ _ => trivial) ?_ ?_
  · rintro j x acc μ1 hx ⟨c3, hv, hl, hc3, rfl⟩ Kc k1 _
    have hj : j < 10 := by
      have := (List.getElem?_eq_some_iff.mp hx).1
      simpa using this
    have e3 : put (put (put μ a c3) s (.lst L)) b (.lst acc) = put (put (put μ s (.lst L)) b (.lst acc)) a c3 := by
      rw [put_comm nsa, put_comm nba]
    rw [e3]
    refine bent_ok 6 (k + 2) _ _ _ _ _ hg (by omega) hc3 (by omega) fun d c4 hd hc4 => ?_
    simp
    have e4 : put (put (put μ s (.lst L)) b (.lst acc)) a c4 = put (put (put μ a c4) s (.lst L)) b (.lst acc) := by
      rw [put_comm (fun e => nba e.symm), put_comm (fun e => nsa e.symm)]
    rw [e4]
    refine k1 d _ ⟨c4, fun v hv' => ?_, by simp; omega, pot_mono (by omega) hc4, rfl⟩
    rcases List.mem_append.mp hv' with q | q
    · exact hv v q
    · simp at q; subst q; exact hd
  · rintro acc μ1 ⟨c3, hv, hl, hc3, rfl⟩
    simp at hl hc3
    exact hK acc c3 hv hl (pot_mono (by omega) hc3)
theorem gt_P : ∀ {t : Pr} {o n : Nat}, t.sz ≤ n + 1 → o + t.sz ≤ 100 → Gt n (t.d o)
  | .lf, o, n, _, h => .int (by simp only [Pr.sz] at h; omega)
  | .nd x y, o, n, h, ho => by
    have px : ∀ t : Pr, 1 ≤ t.sz := fun t => by
      induction t with
      | lf => simp [Pr.sz]
      | nd a b ha hb => simp only [Pr.sz]; omega
    have h1 := px x
    have h2 := px y
    simp only [Pr.sz] at h ho
    obtain ⟨m, rfl⟩ : ∃ m, n = m + 1 := ⟨n - 1, by omega⟩
    refine .tup (fun z hz => ?_) (by simp)
    simp at hz
    rcases hz with rfl | rfl
    · exact gt_P (by omega) (by omega)
    · exact gt_P (by omega) (by omega)
theorem gt_p {i : Int} {t : D} (hi : i.natAbs < 2 ^ 60) (ht : Gt 5 t) : Gt 6 (.tup [.int i, t]) := by
  refine .tup (fun x hx => ?_) (by simp)
  simp at hx
  rcases hx with rfl | rfl
  · exact .int (by omega)
  · exact ht
theorem partE {k a n many : Nat} {c : Cell} {free : Option A} {w : List Int} {tot : Int} {t : D} (hn : n + 900 ≤ 1000000) (h0 : 1 ≤ many) (hm : many ≤ 6) (ht : Gt 5 t) {μ : Store} {P : Post} (hc : Pot n c)
    (hP : ∀ s L c', (∀ v ∈ L, Vt v) → L.length = 11 → Pot (n + 10) c' → a ≠ s → μ s = none → P.nx (rv a many (some (.d (.int tot))) (some (.ptr s)) (some (.d (.tup [.int tot, t]))) free w) (put (put μ a c') s (.lst L))) :
    wpSs G (callW G (k + 12)) pE (rv a many (some (.d (.int tot))) none (some (.d (.tup [.int tot, t]))) free w) (put μ a c) P := by
  have hline : line = 16777216 := rfl
  have hlen := tp_len (l := many) (o := 0) hm
  have hpos : 1 ≤ (TP many 0).length := by
    have := allP_ne h0 hm
    rw [TP, List.length_map]
    cases e : allP 6 many with
    | nil => exact absurd e this
    | cons _ _ => simp
  simp [pE, rv, f__law_right, wpSs, wpS, wpT, wpTA, wpTAs, wpE, wpEs, wpI, wpC, wpTg, wpTgs, wipe, List.set, new]
  refine ⟨by omega, ?_⟩
  refine of_ok (k := k + 10) hpos (by omega) (by omega) hc fun d c1 hd hc1 => ?_
  obtain ⟨z, hz, rfl⟩ := List.mem_map.mp hd
  have vz : Vt (z.d 0) := vt_T hz hm
  have vt : Vt t := gt_vt ht
  simp
  refine ⟨by omega, ?_⟩
  refine odd_ok (k := k + 9) (by omega) hc1 fun d0 c2 hd0 hc2 => ?_
  simp
  refine ⟨by omega, fun s hs => ?_⟩
  have nsa : a ≠ s := fun e => by rw [← e, put_at] at hs; cases hs
  have hs' : μ s = none := by rw [put_o (fun e => nsa e.symm)] at hs; exact hs
  have tg : ∀ {μ' : Store} {xs : List D}, tagOf (put μ' s (.lst xs)) (.ptr s) = some .list := by intro μ' xs; simp [tagOf]
  rw [tg]
  refine ⟨rfl, by omega, by omega, ?_⟩
  simp [isMut, mutate, opMut]
  refine ⟨by omega, ?_⟩
  refine hP s _ c2 (fun v hv => ?_) rfl (pot_mono (by omega) hc2) nsa hs'
  simp only [List.mem_cons, List.not_mem_nil, or_false] at hv
  rcases hv with rfl | rfl | rfl | rfl | rfl | rfl | rfl | rfl | rfl | rfl | rfl
  · exact vt_p vt_int vt
  · exact vt_p vt vt_int
  · exact vt_lst
  · exact vt_p vt_int vt
  · exact vt_p vt_int vz
  · exact vt_non
  · exact hd0
  · exact vt_p vt_int vt_int
  · exact vt_p vt_int (vt_p vt vt_int)
  · exact vt_p vt_int (vt_p vt_int vt)
  · exact vt_p vt_bl vt
def rB : List CS := bodyOf (f__law_right.body.getD 12 .pass)
theorem pF_eq : pF = [.for_ (.slot 6) (.seq (.bin false .add (.slot 5) (.comp false (.call i__law_bent (.cons (.slot 0) (.cons (.slot 7) .nil))) (.slot 10) (.rng1 (.lit (.int 10))) .nil [10]))) rB, .ret (.lit (.bl true))] := rfl
theorem r_lap {k a : Nat} {free : Option A} {s : Nat} {told : D} {w : List Int} {v : D} (hw : Wt w) (h0 : 1 ≤ w.length) (h5 : w.length ≤ 6) (hv : Vt v) {μ : Store} {P : Post}
    (hP : ∀ ρ, mask (rv a w.length (some (.d (.int (cmP w w.length 0)))) (some (.ptr s)) (some (.d told)) free w) ρ = rv a w.length (some (.d (.int (cmP w w.length 0)))) (some (.ptr s)) (some (.d told)) free w → P.nx ρ μ)
    (ht : free.isSome) :
    wpSs G (callW G (k + 12)) rB ((rv a w.length (some (.d (.int (cmP w w.length 0)))) (some (.ptr s)) (some (.d told)) free w).set 6 (some (.d v))) μ P := by
  have hline : line = 16777216 := rfl
  obtain ⟨x1, rfl⟩ := Option.isSome_iff_exists.mp ht
  simp [rB, bodyOf, f__law_right, rv, wpSs, wpS, wpT, wpTA, wpTAs, wpE, wpEs, List.set]
  refine shows_ok (k := k + 4) hv hw h0 h5 _ _ _ ?_
  simp
  refine ⟨bl_sz, rfl, ?_⟩
  refine is_told_ok (k := k + 4) hv hw h0 h5 _ _ _ ?_
  simp
  refine ⟨bl_sz, rfl, ?_⟩
  refine hP _ ?_
  simp [mask, rv]
theorem partF {k a s n : Nat} {c : Cell} {free : Option A} {w : List Int} {L : List D} {t : D} (hw : Wt w) (h0 : 1 ≤ w.length) (h5 : w.length ≤ 6) (hL : ∀ v ∈ L, Vt v) (hLl : L.length = 11) (nsa : a ≠ s) (hn : n + 300 ≤ 1000000) (hc : Pot n c) {μ : Store} {P : Post} (hs : μ s = none) (htg : Gt 5 t)
    (ht : free.isSome) (hP : ∀ c', Pot (n + 210) c' → P.rt (.d (.bl true)) (put (put μ a c') s (.lst L))) :
    wpSs G (callW G (k + 12)) pF (rv a w.length (some (.d (.int (cmP w w.length 0)))) (some (.ptr s)) (some (.d (.tup [.int (cmP w w.length 0), t]))) free w) (put (put μ a c) s (.lst L)) P := by
  have hline : line = 16777216 := rfl
  have bd := cmP_bd (w := w) (l := w.length) (o := 0) hw h0 h5
  rw [pF_eq]
  simp [rv, wpSs, wpS, wpT, wpTA, wpE, wpEs, wpI, wpC, wpO, wpTg, wipe, List.set]
  refine ⟨smallI (by omega) (by omega), fun b hb => ?_⟩
  refine bents_ok (k := k) (gt_p (by omega) htg) hn nsa hc hb fun v1 c3 hv1 hl1 hc3 => ?_
  have nbs : b ≠ s := fun e => by rw [e, put_at] at hb; cases hb
  have nba : a ≠ b := fun e => by rw [← e, put_o nsa, put_at] at hb; cases hb
  have hbf : put (put μ a c3) s (.lst L) b = none := by
    rw [put_o nbs, put_o (fun e => nba e.symm)] at hb ⊢; exact hb
  rw [del_put hbf, rd_p put_at]
  simp
  refine ⟨by omega, ?_⟩
  have hv : ∀ v ∈ L ++ v1, Vt v := fun v q => by
    rcases List.mem_append.mp q with q | q
    · exact hL v q
    · exact hv1 v q
  refine for_inv (I := fun i ρ μ1 => μ1 = put (put μ a c3) s (.lst L) ∧ ρ = rv a w.length (some (.d (.int (cmP w w.length 0)))) (some (.ptr s)) (some (.d (.tup [.int (cmP w w.length 0), t]))) free w) ⟨rfl, rfl⟩ (fun _ _ _ _ => trivial) ?_ ?_
  · rintro i x ρ μ1 nx hx ⟨rfl, rfl⟩ hnx
    exact r_lap (k := k) hw h0 h5 (hv x (List.mem_of_getElem? hx)) (fun ρ hρ => hnx _ _ ⟨rfl, hρ⟩) ht
  · rintro ρ μ1 ⟨rfl, rfl⟩
    exact hP c3 hc3
theorem right_ok {k a n : Nat} {c : Cell} (hn : n + 1000 ≤ 1000000) {μ : Store} {K : KA} {E : KX} (hc : Pot n c)
    (hK : ∀ c', Pot (n + 1000) c' → K (.d (.bl true)) (put μ a c')) : callW G (k + 13) i__law_right [.ptr a] (put μ a c) K E := by
  have hline : line = 16777216 := rfl
  refine call_of (fn := f__law_right) rfl rfl ?_
  rw [r_body, wpSs_app]
  refine partA (k := k) (n := n) (by omega) hc fun w c1 hw h0 h5 hc1 => ?_
  simp only []
  rw [wpSs_app]
  refine partB (k := k) hw h0 h5 fun t ht hcp => ?_
  simp only []
  rw [wpSs_app]
  refine partC (k := k) (values := none) hw h0 h5 ht hcp ?_
  simp only []
  rw [wpSs_app]
  refine partD (k := k) (values := none) hw h0 h5 ?_
  simp only []
  rw [wpSs_app]
  have gt : Gt 5 (t.d 0) := gt_P (by rw [allP_sz ht]; omega) (by rw [allP_sz ht]; omega)
  refine partE (k := k) (n := n + 100) (by omega) h0 h5 gt hc1 fun s L c2 hv hl hc2 nsa hs => ?_
  simp only []
  refine partF (k := k) (n := n + 110) hw h0 h5 hv hl nsa (by omega) hc2 hs gt rfl fun c3 hc3 => ?_
  have hsn : (put μ a c3) s = none := by rw [put_o (fun e => nsa e.symm)]; exact hs
  exact ret_d (sub_put hsn sub_refl) (hK c3 (pot_mono (by omega) hc3))
theorem law_ok36 {k : Nat} {ns : List Int} (hl : ns.length ≤ 63) {μ : Store} {K : KA} {E : KX} (hK : K (.d (.bl true)) μ) : callW G (k + 14) i_law [.d (.lst (ns.map D.int))] μ K E := by
  have hline : line = 16777216 := rfl
  refine call_of (fn := f_law) rfl rfl ?_
  simp [f_law, wpSs, wpS, wpT, wpTA, wpTAs, wpE, wpEs, wpI, wpC, List.set]
  obtain ⟨ps, hps, hpl, hcells⟩ := cells_ok (k := k + 12) (xs := ns.map D.int) (by simp; omega)
  refine hcells _ _ _ ?_
  simp only [seqSrc_d, items_l]
  have hmem : ∀ x ∈ LD ps, ∃ p : Nat, p < 2 ∧ x = .int (p : Int) := fun x hx => by
    simp only [LD, List.mem_map] at hx
    obtain ⟨p, hp, rfl⟩ := hx
    exact ⟨p, hps p hp, rfl⟩
  refine for_inv (I := fun i ρ μ1 => Cr.Sub μ μ1 ∧ ρ = [some (.d (.lst (ns.map D.int))), none, none, none]) ⟨sub_refl, rfl⟩ (fun _ _ _ _ => trivial) ?_ fun ρ μ1 hI => ?_
  · rintro i x ρ μ1 nx hx ⟨hs, rfl⟩ hnx
    obtain ⟨p, hp, rfl⟩ := hmem x (List.mem_of_getElem? hx)
    simp [wpTg, List.set]
    refine pot_ok (k := k + 12) (by omega) fun a c ha hc => ?_
    refine ⟨smallI (by omega) (by omega), fun b hb => ?_⟩
    have nba : b ≠ a := fun e => by rw [e, put_at] at hb; cases hb
    rw [put_o nba] at hb
    refine comp_st (fun i acc μ2 => ∃ c', Pot (1000 * i) c' ∧ acc = List.replicate i (.bl true) ∧ μ2 = put μ1 a c') ⟨c, hc, rfl, rfl⟩ (by simp; omega) (fun _ _ _ _ => by trivial) (fun i x acc μ2 hx hI Kc hsm _ => ?_) fun acc μ2 hI => ?_
    · obtain ⟨c', b1, rfl, rfl⟩ := hI
      have hi : i < 2 := by have := (List.getElem?_eq_some_iff.mp hx).1; simpa using this
      simp [wpTg, wpC, wpE, wpEs, wipe, List.set]
      rw [put_comm (Ne.symm nba)]
      refine right_ok (k := k) (by omega) b1 fun c2 hc2 => ?_
      simp
      rw [put_comm nba]
      exact hsm _ _ ⟨c2, pot_mono (by omega) hc2, by rw [List.replicate_succ'], rfl⟩
    · obtain ⟨c', b1, rfl, rfl⟩ := hI
      rw [del_put (by rw [put_o nba]; exact hb)]
      refine ⟨List.replicate 2 true, by decide, ?_⟩
      simp
      exact hnx _ _ ⟨sub_put (sub_none hs ha) hs, by simp [mask]⟩
  · obtain ⟨hs, rfl⟩ := hI
    exact ret_d hs hK
end K36


namespace K36
open PySem Cr
def nm : Nm := ⟨[(.ofString "own_best"), (.ofString "__init__"), (.ofString "both"), (.ofString "tree"), (.ofString "least_of")], [(.ofString "AllSpans")], []⟩
def T : Tb := ⟨[((.ofString "is_integer"), 0), ((.ofString "is_between"), 1), ((.ofString "are_numbers"), 2), ((.ofString "check_weights"), 3), ((.ofString "check_gaps"), 4), ((.ofString "told_best"), 9), ((.ofString "best_tree"), 10), ((.ofString "pairs_by"), 11), ((.ofString "pairing_by"), 12), ((.ofString "best_pairing"), 13), ((.ofString "asks_by"), 14), ((.ofString "shows_best_pairing"), 15), ((.ofString "free_pairing"), 16), ((.ofString "_law_pot"), 17), ((.ofString "_law_take"), 18), ((.ofString "_law_of"), 19), ((.ofString "_law_cells"), 20), ((.ofString "_law_odd"), 21), ((.ofString "_law_bent"), 22), ((.ofString "_law_is_int"), 23), ((.ofString "_law_asks"), 24), ((.ofString "_law_weights"), 25), ((.ofString "_law_free"), 26), ((.ofString "_law_pairings"), 27), ((.ofString "_law_is_told"), 28), ((.ofString "_law_right"), 29), ((.ofString "law"), 30)], [((.ofString "AllSpans"), 0)], [((.ofString "MOST_WEIGHTS"), 0), ((.ofString "MOST_WEIGHT"), 1)], [(.ofString "abs"), (.ofString "all"), (.ofString "bool"), (.ofString "int"), (.ofString "isinstance"), (.ofString "len"), (.ofString "list"), (.ofString "max"), (.ofString "min"), (.ofString "range"), (.ofString "repr"), (.ofString "sorted"), (.ofString "str"), (.ofString "sum"), (.ofString "tuple"), (.ofString "zip")], [.bool, .int, .str, .tuple], [[(.ofString "value")], [(.ofString "value"), (.ofString "least"), (.ofString "most")], [(.ofString "value"), (.ofString "least"), (.ofString "most")], [(.ofString "weights")], [(.ofString "weights"), (.ofString "gaps")], [(.ofString "self"), (.ofString "weights"), (.ofString "gaps")], [(.ofString "self"), (.ofString "one"), (.ofString "at"), (.ofString "other")], [(.ofString "self"), (.ofString "one"), (.ofString "other")], [(.ofString "self"), (.ofString "many")], [(.ofString "weights"), (.ofString "gaps")], [(.ofString "weights"), (.ofString "gaps")], [(.ofString "weights")], [(.ofString "best"), (.ofString "one"), (.ofString "other")], [(.ofString "weights")], [(.ofString "many"), (.ofString "value")], [(.ofString "weights"), (.ofString "value")], [(.ofString "weights")], [(.ofString "script"), (.ofString "place")], [(.ofString "pot"), (.ofString "upto")], [(.ofString "pot"), (.ofString "some")], [(.ofString "script"), (.ofString "limit")], [(.ofString "pot")], [(.ofString "pot"), (.ofString "value")], [(.ofString "value")], [(.ofString "many"), (.ofString "value")], [(.ofString "pot"), (.ofString "many")], [(.ofString "weights")], [(.ofString "many")], [(.ofString "weights"), (.ofString "total"), (.ofString "value")], [(.ofString "pot")], [(.ofString "script")]]⟩
def top (i : Nat) : PySem.Stmt := PySem.Challenge.pw_rightbetween_k36_whole_pairings_by_all_p.main.body.getD i (.Pass ⟨0, 0, 0, 0⟩)
def e0 : Ent := ⟨(.fn (.ofString "is_integer")), (.ofString "is_integer"), (.ofString "is_integer"), L2.defArgs (top 5), L2.defBody (top 5), L2.defScope (top 5), [(.ofString "value")], [(.ofString "value")]⟩
def e1 : Ent := ⟨(.fn (.ofString "is_between")), (.ofString "is_between"), (.ofString "is_between"), L2.defArgs (top 6), L2.defBody (top 6), L2.defScope (top 6), [(.ofString "value"), (.ofString "least"), (.ofString "most")], [(.ofString "value"), (.ofString "least"), (.ofString "most")]⟩
def e2 : Ent := ⟨(.fn (.ofString "are_numbers")), (.ofString "are_numbers"), (.ofString "are_numbers"), L2.defArgs (top 10), L2.defBody (top 10), L2.defScope (top 10), [(.ofString "value"), (.ofString "least"), (.ofString "most"), (.ofString "number")], [(.ofString "value"), (.ofString "least"), (.ofString "most")]⟩
def e3 : Ent := ⟨(.fn (.ofString "check_weights")), (.ofString "check_weights"), (.ofString "check_weights"), L2.defArgs (top 11), L2.defBody (top 11), L2.defScope (top 11), [(.ofString "weights")], [(.ofString "weights")]⟩
def e4 : Ent := ⟨(.fn (.ofString "check_gaps")), (.ofString "check_gaps"), (.ofString "check_gaps"), L2.defArgs (top 12), L2.defBody (top 12), L2.defScope (top 12), [(.ofString "weights"), (.ofString "gaps")], [(.ofString "weights"), (.ofString "gaps")]⟩
def e5 : Ent := ⟨(.me (.ofString "AllSpans") (.ofString "__init__")), (.ofString "__init__"), (.ofString "AllSpans.__init__"), L2.defArgs (inC (top 13) 0), L2.defBody (inC (top 13) 0), L2.defScope (inC (top 13) 0), [(.ofString "self"), (.ofString "weights"), (.ofString "gaps"), (.ofString "many"), (.ofString "long"), (.ofString "one"), (.ofString "other"), (.ofString "total"), (.ofString "rows"), (.ofString "at")], [(.ofString "self"), (.ofString "weights"), (.ofString "gaps")]⟩
def e6 : Ent := ⟨(.me (.ofString "AllSpans") (.ofString "both")), (.ofString "both"), (.ofString "AllSpans.both"), L2.defArgs (inC (top 13) 1), L2.defBody (inC (top 13) 1), L2.defScope (inC (top 13) 1), [(.ofString "self"), (.ofString "one"), (.ofString "at"), (.ofString "other")], [(.ofString "self"), (.ofString "one"), (.ofString "at"), (.ofString "other")]⟩
def e7 : Ent := ⟨(.me (.ofString "AllSpans") (.ofString "tree")), (.ofString "tree"), (.ofString "AllSpans.tree"), L2.defArgs (inC (top 13) 2), L2.defBody (inC (top 13) 2), L2.defScope (inC (top 13) 2), [(.ofString "self"), (.ofString "one"), (.ofString "other"), (.ofString "at")], [(.ofString "self"), (.ofString "one"), (.ofString "other")]⟩
def e8 : Ent := ⟨(.me (.ofString "AllSpans") (.ofString "least_of")), (.ofString "least_of"), (.ofString "AllSpans.least_of"), L2.defArgs (inC (top 13) 3), L2.defBody (inC (top 13) 3), L2.defScope (inC (top 13) 3), [(.ofString "self"), (.ofString "many")], [(.ofString "self"), (.ofString "many")]⟩
def e9 : Ent := ⟨(.fn (.ofString "told_best")), (.ofString "told_best"), (.ofString "told_best"), L2.defArgs (top 14), L2.defBody (top 14), L2.defScope (top 14), [(.ofString "weights"), (.ofString "gaps"), (.ofString "spans")], [(.ofString "weights"), (.ofString "gaps")]⟩
def e10 : Ent := ⟨(.fn (.ofString "best_tree")), (.ofString "best_tree"), (.ofString "best_tree"), L2.defArgs (top 15), L2.defBody (top 15), L2.defScope (top 15), [(.ofString "weights"), (.ofString "gaps")], [(.ofString "weights"), (.ofString "gaps")]⟩
def e11 : Ent := ⟨(.fn (.ofString "pairs_by")), (.ofString "pairs_by"), (.ofString "pairs_by"), L2.defArgs (top 16), L2.defBody (top 16), L2.defScope (top 16), [(.ofString "weights"), (.ofString "best"), (.ofString "long"), (.ofString "one"), (.ofString "other"), (.ofString "rows"), (.ofString "total"), (.ofString "at")], [(.ofString "weights")]⟩
def e12 : Ent := ⟨(.fn (.ofString "pairing_by")), (.ofString "pairing_by"), (.ofString "pairing_by"), L2.defArgs (top 17), L2.defBody (top 17), L2.defScope (top 17), [(.ofString "best"), (.ofString "one"), (.ofString "other"), (.ofString "at")], [(.ofString "best"), (.ofString "one"), (.ofString "other")]⟩
def e13 : Ent := ⟨(.fn (.ofString "best_pairing")), (.ofString "best_pairing"), (.ofString "best_pairing"), L2.defArgs (top 18), L2.defBody (top 18), L2.defScope (top 18), [(.ofString "weights"), (.ofString "best")], [(.ofString "weights")]⟩
def e14 : Ent := ⟨(.fn (.ofString "asks_by")), (.ofString "asks_by"), (.ofString "asks_by"), L2.defArgs (top 19), L2.defBody (top 19), L2.defScope (top 19), [(.ofString "many"), (.ofString "value"), (.ofString "found"), (.ofString "waiting"), (.ofString "here"), (.ofString "depth")], [(.ofString "many"), (.ofString "value")]⟩
def e15 : Ent := ⟨(.fn (.ofString "shows_best_pairing")), (.ofString "shows_best_pairing"), (.ofString "shows_best_pairing"), L2.defArgs (top 20), L2.defBody (top 20), L2.defScope (top 20), [(.ofString "weights"), (.ofString "value"), (.ofString "total"), (.ofString "found"), (.ofString "one"), (.ofString "other")], [(.ofString "weights"), (.ofString "value")]⟩
def e16 : Ent := ⟨(.fn (.ofString "free_pairing")), (.ofString "free_pairing"), (.ofString "free_pairing"), L2.defArgs (top 21), L2.defBody (top 21), L2.defScope (top 21), [(.ofString "weights"), (.ofString "left"), (.ofString "total"), (.ofString "both")], [(.ofString "weights")]⟩
def e17 : Ent := ⟨(.fn (.ofString "_law_pot")), (.ofString "_law_pot"), (.ofString "_law_pot"), L2.defArgs (top 23), L2.defBody (top 23), L2.defScope (top 23), [(.ofString "script"), (.ofString "place"), (.ofString "cell"), (.ofString "own"), (.ofString "small")], [(.ofString "script"), (.ofString "place")]⟩
def e18 : Ent := ⟨(.fn (.ofString "_law_take")), (.ofString "_law_take"), (.ofString "_law_take"), L2.defArgs (top 24), L2.defBody (top 24), L2.defScope (top 24), [(.ofString "pot"), (.ofString "upto"), (.ofString "prime"), (.ofString "mixed"), (.ofString "digit")], [(.ofString "pot"), (.ofString "upto")]⟩
def e19 : Ent := ⟨(.fn (.ofString "_law_of")), (.ofString "_law_of"), (.ofString "_law_of"), L2.defArgs (top 25), L2.defBody (top 25), L2.defScope (top 25), [(.ofString "pot"), (.ofString "some")], [(.ofString "pot"), (.ofString "some")]⟩
def e20 : Ent := ⟨(.fn (.ofString "_law_cells")), (.ofString "_law_cells"), (.ofString "_law_cells"), L2.defArgs (top 26), L2.defBody (top 26), L2.defScope (top 26), [(.ofString "script"), (.ofString "limit")], [(.ofString "script"), (.ofString "limit")]⟩
def e21 : Ent := ⟨(.fn (.ofString "_law_odd")), (.ofString "_law_odd"), (.ofString "_law_odd"), L2.defArgs (top 27), L2.defBody (top 27), L2.defScope (top 27), [(.ofString "pot"), (.ofString "some")], [(.ofString "pot")]⟩
def e22 : Ent := ⟨(.fn (.ofString "_law_bent")), (.ofString "_law_bent"), (.ofString "_law_bent"), L2.defArgs (top 28), L2.defBody (top 28), L2.defScope (top 28), [(.ofString "pot"), (.ofString "value"), (.ofString "at"), (.ofString "some")], [(.ofString "pot"), (.ofString "value")]⟩
def e23 : Ent := ⟨(.fn (.ofString "_law_is_int")), (.ofString "_law_is_int"), (.ofString "_law_is_int"), L2.defArgs (top 29), L2.defBody (top 29), L2.defScope (top 29), [(.ofString "value")], [(.ofString "value")]⟩
def e24 : Ent := ⟨(.fn (.ofString "_law_asks")), (.ofString "_law_asks"), (.ofString "_law_asks"), L2.defArgs (top 30), L2.defBody (top 30), L2.defScope (top 30), [(.ofString "many"), (.ofString "value"), (.ofString "lap"), (.ofString "found"), (.ofString "waiting"), (.ofString "here"), (.ofString "depth")], [(.ofString "many"), (.ofString "value")]⟩
def e25 : Ent := ⟨(.fn (.ofString "_law_weights")), (.ofString "_law_weights"), (.ofString "_law_weights"), L2.defArgs (top 31), L2.defBody (top 31), L2.defScope (top 31), [(.ofString "pot"), (.ofString "many"), (.ofString "upto"), (.ofString "at")], [(.ofString "pot"), (.ofString "many")]⟩
def e26 : Ent := ⟨(.fn (.ofString "_law_free")), (.ofString "_law_free"), (.ofString "_law_free"), L2.defArgs (top 32), L2.defBody (top 32), L2.defScope (top 32), [(.ofString "weights"), (.ofString "lap"), (.ofString "left"), (.ofString "total"), (.ofString "both")], [(.ofString "weights")]⟩
def e27 : Ent := ⟨(.fn (.ofString "_law_pairings")), (.ofString "_law_pairings"), (.ofString "_law_pairings"), L2.defArgs (top 33), L2.defBody (top 33), L2.defScope (top 33), [(.ofString "many"), (.ofString "led"), (.ofString "long"), (.ofString "one"), (.ofString "other"), (.ofString "found"), (.ofString "at"), (.ofString "ahead"), (.ofString "behind")], [(.ofString "many")]⟩
def e28 : Ent := ⟨(.fn (.ofString "_law_is_told")), (.ofString "_law_is_told"), (.ofString "_law_is_told"), L2.defArgs (top 34), L2.defBody (top 34), L2.defScope (top 34), [(.ofString "weights"), (.ofString "total"), (.ofString "value"), (.ofString "asks"), (.ofString "one"), (.ofString "other")], [(.ofString "weights"), (.ofString "total"), (.ofString "value")]⟩
def e29 : Ent := ⟨(.fn (.ofString "_law_right")), (.ofString "_law_right"), (.ofString "_law_right"), L2.defArgs (top 35), L2.defBody (top 35), L2.defScope (top 35), [(.ofString "pot"), (.ofString "many"), (.ofString "weights"), (.ofString "every"), (.ofString "total"), (.ofString "values"), (.ofString "value"), (.ofString "told"), (.ofString "free"), (.ofString "pairing"), (.ofString "lap"), (.ofString "one"), (.ofString "other")], [(.ofString "pot")]⟩
def e30 : Ent := ⟨(.fn (.ofString "law")), (.ofString "law"), (.ofString "law"), L2.defArgs (top 36), L2.defBody (top 36), L2.defScope (top 36), [(.ofString "script"), (.ofString "place"), (.ofString "pot"), (.ofString "lap")], [(.ofString "script")]⟩
def ents : List Ent := [e0, e1, e2, e3, e4, e5, e6, e7, e8, e9, e10, e11, e12, e13, e14, e15, e16, e17, e18, e19, e20, e21, e22, e23, e24, e25, e26, e27, e28, e29, e30]
theorem st : statB T G nm ents = true := by decide +kernel
theorem law_ok : LawOk G 30 63 20 := fun ns hl => law_ok36 (k := 6) hl rfl
end K36
namespace K36
open PySem PySem.Spec PyProof.Rows Cr
abbrev R : PySem.W.OpenRow := PySem.W.OpenLaw.row PySem.Challenge.rw_rightbetween_k36_whole_pairings_by_all_p
abbrev hk : PySem.W.Hook := hookC 6 T G nm ents
def ob (s : PySem.W.SharedT) : AlC := obsCG 6 T G nm ents (HandSHeadRun.getT s)
theorem ob_eq (s : PySem.W.SharedT) : ob s = hk.obs s.abs := obsCG_eq (HandSHeadRun.getT_eq s)
def loose : List PySem.Str := ((R.prog.main.scope.names.filter fun q => decide (q.2 = .local)).map (·.1)).filter fun x => !(x == "law")
theorem run (w : World) : HandSHeadRun.RunEq R (PySem.W.view R.prog [36]) hk ob 20000 loose w := by
  intro os
  kernel_rfl
end K36
open PySem PySem.W PySem.Calls PyProof.Rows
theorem PySem.Challenge.cw_rightbetween_k36_whole_pairings_by_all_p_holds : PySem.Challenge.rw_rightbetween_k36_whole_pairings_by_all_p.Holds := by
  w_on; o_law
  refine HandSHeadRun.head_any (r := OpenLaw.row PySem.Challenge.rw_rightbetween_k36_whole_pairings_by_all_p) (q := view (OpenLaw.row PySem.Challenge.rw_rightbetween_k36_whole_pairings_by_all_p).prog [36]) (H := K36.hk) (ob := K36.ob) (M := 20000) (loose := K36.loose) (d := HandSHeadRun.topDef (OpenLaw.row PySem.Challenge.rw_rightbetween_k36_whole_pairings_by_all_p).prog 36) (kwd := []) K36.ob_eq (by kernel_rfl) (fun s => by kernel_rfl) K36.run (by kernel_rfl) (by kernel_rfl) (by kernel_rfl) (by rfl) (by first | assumption | decide +kernel) (by decide +kernel) ⟨rfl, rfl, rfl, rfl, rfl, by decide +kernel⟩ ?hw ?hc
  case hw => w_witness2
  case hc => exact Cr.law_walk (l := PySem.Challenge.rw_rightbetween_k36_whole_pairings_by_all_p) (n := 63) (k := 20) (T := K36.T) (G := K36.G) (nm := K36.nm) (ents := K36.ents) (nn := 6) (li := 30) (x := "script") (e := K36.e30) rfl (by decide) (by kernel_rfl) ⟨rfl, by decide, by decide⟩ K36.st rfl (by decide +kernel) rfl K36.law_ok


