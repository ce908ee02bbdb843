import PyProof.Rows.All
import Wide.All
import OpenK.AllK
import Wide.FinOn
import PyProof.EqAt
import PyProof.EqKinds
import PyProof.TupleCall
import HandS.ForMost
import HandS.Exc
import HandS.ExcOwn
import HandS.TryOnly
import HandS.WordsExc
import HandS.Lambda
import HandS.Wide
import HandS.TupAny
import HandS.TupMul
import HandS.IsInst
import HandS.Conv
import HandS.SortInts
import HandS.Style
import HandS.Zip
import HandS.Flow
import HandS.ExcIs
import HandS.More
import HandS.Strs
import HandS.SetFor
import HandS.Walk
import HandS.Comp
import KE.GoesMore
import HandS.Iter
import HandS.Defaults
import HandS.HeadHook4
import HandS.Codes
import HandS.HeadWalk
import HandS.EndTab
import KE.KStateDown
import Lean
import Wide.Once
import HandS.Base
import HandS.Call
import HandS.Ends
import HandS.Words
import HandS.Head0
import HandS.Head1
import HandS.Head2
import HandS.HeadEnd
import HandS.HeadHook1
import HandS.HeadHook2
import HandS.HeadHook3
import PySem.Challenge.RW_upsdowns_k30_whole_codes
set_option Elab.async false
set_option linter.all false
set_option maxRecDepth 100000
section
/-! V1: values as trees, a small language, what it does. -/
namespace VL
open PySem

/-- a value as a tree; fn: the so-manieth def of the text; scr: the law's own argument -/
inductive D where
  | non | bl (b : Bool) | int (i : Int) | str (s : Str)
  | tup (xs : List D) | lst (xs : List D) | dic (n : Nat)
  | fn (n : Nat)
  | scr (xs : List Int)

/-- an exception: its class by number, what it was made with -/
structure Ex where
  cls : Nat
  arg : Option D

/-- what a slot holds: nothing known, a value that stays, a list of its own, the caller's list, a thunk's end, a caught exception -/
inductive Sl where
  | no | v (d : D) | ol (xs : List D) | ln (xs : List D) | th (o : Option Ex) | ex (e : Ex)
abbrev Env := List Sl

/-- a result: a value, a new list, the list of a slot -/
inductive R where
  | v (d : D) | fl (xs : List D) | br (i : Nat)
/-- what a def hands back -/
inductive Rt where
  | v (d : D) | fl (xs : List D) | ex (e : Ex)

inductive Rs (α : Type) where
  | ok (a : α) (ρ : Env) | ex (e : Ex) (ρ : Env) | no

namespace Rs
variable {α β : Type}
def bind (m : Rs α) (k : α → Env → Rs β) : Rs β := match m with
  | .ok a ρ => k a ρ
  | .ex e ρ => .ex e ρ
  | .no => .no
@[simp] theorem bind_ok (a : α) (ρ : Env) (k : α → Env → Rs β) : (Rs.ok a ρ).bind k = k a ρ := rfl
@[simp] theorem bind_ex (e : Ex) (ρ : Env) (k : α → Env → Rs β) : (Rs.ex e ρ : Rs α).bind k = .ex e ρ := rfl
@[simp] theorem bind_no (k : α → Env → Rs β) : (Rs.no : Rs α).bind k = .no := rfl
theorem bind_assoc {γ : Type} (m : Rs α) (k : α → Env → Rs β) (l : β → Env → Rs γ) : (m.bind k).bind l = m.bind fun a ρ => (k a ρ).bind l := by
  cases m <;> rfl
/-- a pure step that may be stuck -/
def opt (ρ : Env) : Option α → Rs α
  | some a => .ok a ρ
  | none => .no
@[simp] theorem opt_some (ρ : Env) (a : α) : opt ρ (some a) = .ok a ρ := rfl
@[simp] theorem opt_none (ρ : Env) : (opt ρ none : Rs α) = .no := rfl
end Rs

/-! ### data -/
mutual
/-- no list, no dict within -/
def noL : D → Bool
  | .tup xs => noLs xs
  | .lst _ => false
  | .dic _ => false
  | .scr _ => false
  | _ => true
def noLs : List D → Bool
  | [] => true
  | x :: xs => noL x && noLs xs
end
mutual
/-- at most n deep; no dict, no def within -/
def flat : Nat → D → Bool
  | n + 1, .tup xs => flats n xs
  | n + 1, .lst xs => flats n xs
  | _, .non => true
  | _, .bl _ => true
  | _, .int _ => true
  | _, .str _ => true
  | _, _ => false
def flats : Nat → List D → Bool
  | _, [] => true
  | n, x :: xs => flat n x && flats n xs
end
mutual
/-- no dict, no def within -/
def dat : D → Bool
  | .tup xs => dats xs
  | .lst xs => dats xs
  | .dic _ => false
  | .fn _ => false
  | .scr _ => false
  | _ => true
def dats : List D → Bool
  | [] => true
  | x :: xs => dat x && dats xs
end
mutual
/-- Python's == on data -/
def eqD : D → D → Bool
  | .non, .non => true
  | .bl a, .bl b => a == b
  | .bl a, .int j => (if a then 1 else 0) == j
  | .int i, .bl b => i == (if b then 1 else 0)
  | .int i, .int j => i == j
  | .str x, .str y => x == y
  | .lst xs, .lst ys => eqDs xs ys
  | .tup xs, .tup ys => eqDs xs ys
  | _, _ => false
def eqDs : List D → List D → Bool
  | [], [] => true
  | x :: xs, y :: ys => eqD x y && eqDs xs ys
  | _, _ => false
end
/-- a value's truth -/
def truth : D → Option Bool
  | .non => some false
  | .bl b => some b
  | .int i => some (i != 0)
  | .tup xs => some (!xs.isEmpty)
  | .lst xs => some (!xs.isEmpty)
  | _ => none
def asInt : D → Option Int
  | .int i => some i
  | _ => none
def asBl : D → Option Bool
  | .bl i => some i
  | _ => none
def intsD : List D → Option (List Int)
  | [] => some []
  | .int i :: r => (intsD r).map (i :: ·)
  | _ :: _ => none
def blsD : List D → Option (List Bool)
  | [] => some []
  | .bl i :: r => (blsD r).map (i :: ·)
  | _ :: _ => none

/-! ### operators -/
inductive Op where
  | add | sub | mul | div | mod | pow
  deriving DecidableEq
inductive Cm where
  | lt | le | gt | ge | eq | ne | in_ | nin | is_ | isn
  deriving DecidableEq
inductive Ty where
  | int | bool | str | tuple | list | dict
  deriving DecidableEq
inductive Bi where
  | len | abs | int | sum | all | any | max | min | tuple | list | sorted | max2 | min2 | lrange1 | lrange2
  deriving DecidableEq
inductive Mt where
  | count | index
  deriving DecidableEq
inductive Ik where
  | of | rng | rng2 | rng3 | enum | zip
  deriving DecidableEq
inductive Sk where
  | all | lo | hi | both | rev
  deriving DecidableEq

abbrev LINE : Nat := 16777216
abbrev wideB : Nat := 2 ^ 8000
def mulOk (i j : Int) : Bool := decide (i.natAbs < 2 ^ 64) || decide (j.natAbs < 2 ^ 64) || (decide (i.natAbs < wideB) && decide (j.natAbs < wideB))
def binop : Op → D → D → Option R
  | .add, .int i, .int j => some (.v (.int (i + j)))
  | .sub, .int i, .int j => some (.v (.int (i - j)))
  | .mul, .int i, .int j => if mulOk i j then some (.v (.int (i * j))) else none
  | .div, .int i, .int j => if 0 < j ∧ j.natAbs < wideB then some (.v (.int (i / j))) else none
  | .mod, .int i, .int j => if 0 < j then some (.v (.int (i % j))) else none
  | .pow, .int i, .int j => if 0 ≤ j ∧ j ≤ 1000000 ∧ i.natAbs < 2 ^ 64 then some (.v (.int (i ^ j.toNat))) else none
  | .add, .str x, .str y => if x.length + y.length ≤ LINE then some (.v (.str (x ++ y))) else none
  | .add, .lst x, .lst y => if x.length + y.length ≤ LINE then some (.fl (x ++ y)) else none
  | .add, .tup x, .tup y => if x.length + y.length ≤ LINE then some (.v (.tup (x ++ y))) else none
  | .mul, .lst x, .int j => if j < 2 ^ 62 ∧ -(2 ^ 62) < j ∧ x.length * j.toNat ≤ LINE then some (.fl (List.replicate j.toNat x).flatten) else none
  | .mul, .tup x, .int j => if 2 ≤ j ∧ j ≤ 1000 ∧ x.length ≤ 1000 ∧ x.isEmpty = false then some (.v (.tup (List.replicate j.toNat x).flatten)) else none
  | _, _, _ => none
/-- deep enough for == : one of both lies within 190 -/
def eqOk (a b : D) : Bool := dat a && dat b && (flat 190 a || flat 190 b)
def flat0 : D → Bool
  | .non | .bl _ | .int _ | .str _ => true
  | _ => false
def memD (x : D) (xs : List D) : Bool := xs.any (eqD · x)
def isNon : D → Bool
  | .non => true
  | _ => false
def cmpop : Cm → D → D → Option Bool
  | .lt, .int i, .int j => some (decide (i < j))
  | .le, .int i, .int j => some (decide (i ≤ j))
  | .gt, .int i, .int j => some (decide (j < i))
  | .ge, .int i, .int j => some (decide (j ≤ i))
  | .eq, a, b => if eqOk a b then some (eqD a b) else none
  | .ne, a, b => if eqOk a b then some (!eqD a b) else none
  | .in_, a, .tup xs => if flat0 a && xs.all flat0 then some (memD a xs) else none
  | .in_, a, .lst xs => if flat0 a && xs.all flat0 then some (memD a xs) else none
  | .nin, a, .tup xs => if flat0 a && xs.all flat0 then some (!memD a xs) else none
  | .nin, a, .lst xs => if flat0 a && xs.all flat0 then some (!memD a xs) else none
  | .is_, a, .non => some (isNon a)
  | .isn, a, .non => some (!isNon a)
  | .is_, .bl a, .bl b => some (a == b)
  | .isn, .bl a, .bl b => some (!(a == b))
  | _, _, _ => none
/-- kinds of values -/
inductive Kd where
  | non | bl | int | str | tup | lst | dic
  deriving DecidableEq
def kdOf : D → Option Kd
  | .non => some .non
  | .bl _ => some .bl
  | .int _ => some .int
  | .str _ => some .str
  | .tup _ => some .tup
  | .lst _ => some .lst
  | .dic _ => some .dic
  | _ => none
/-- isinstance -/
def kdTy : Ty → Kd → Bool
  | .int, .int => true
  | .int, .bl => true
  | .bool, .bl => true
  | .str, .str => true
  | .tuple, .tup => true
  | .list, .lst => true
  | .dict, .dic => true
  | _, _ => false
def isTy (ts : List Ty) (d : D) : Option Bool := (kdOf d).map fun k => ts.any (kdTy · k)
/-- a place of a row, counted from behind if below 0 -/
def placeOf (n : Nat) (i : Int) : Option Nat :=
  if 0 ≤ i then (if i < n then some i.toNat else none)
  else if -(n : Int) ≤ i then some (i + n).toNat else none
def subD : D → D → Option D
  | .tup xs, .int i => (placeOf xs.length i).bind fun k => xs[k]?
  | .lst xs, .int i => (placeOf xs.length i).bind fun k => xs[k]?
  | _, _ => none
/-- an end of a slice -/
def cutOf (n : Nat) (i : Int) : Nat :=
  if i < 0 then (i + (n : Int)).toNat else min i.toNat n
def cutL {α : Type} (xs : List α) (lo hi : Nat) : List α := (xs.drop lo).take (hi - lo)
def slcL {α : Type} : Sk → List α → List Int → Option (List α)
  | .all, xs, [] => some xs
  | .rev, xs, [] => some xs.reverse
  | .lo, xs, [i] => some (cutL xs (cutOf xs.length i) xs.length)
  | .hi, xs, [j] => some (cutL xs 0 (cutOf xs.length j))
  | .both, xs, [i, j] => some (cutL xs (cutOf xs.length i) (cutOf xs.length j))
  | _, _, _ => none
def slcD (k : Sk) : D → List Int → Option R
  | .tup xs, es => (slcL k xs es).map fun ys => .v (.tup ys)
  | .lst xs, es => (slcL k xs es).map fun ys => .fl ys
  | .scr xs, es => (slcL k (xs.map .int) es).map fun ys => .fl ys
  | _, _ => none
/-- ints sorted -/
def insI (i : Int) : List Int → List Int
  | [] => [i]
  | j :: r => if i ≤ j then i :: j :: r else j :: insI i r
def sortI : List Int → List Int
  | [] => []
  | i :: r => insI i (sortI r)
def rangeL (a b : Int) : List D := (List.range (b - a).toNat).map fun k => .int (a + (k : Nat))
def stepsOf (a b s : Int) : Nat := if a < b then ((b - a - 1) / s + 1).toNat else 0
def rangeS (a b s : Int) : List D := (List.range (stepsOf a b s)).map fun k => .int (a + (k : Nat) * s)
def r62 (i : Int) : Bool := decide (-(2 ^ 62) ≤ i) && decide (i < 2 ^ 62)
def rowOf : D → Option (List D)
  | .tup xs => some xs
  | .lst xs => some xs
  | _ => none
def maxL : List Int → Option Int
  | [] => none
  | i :: r => some (r.foldl max i)
def minL : List Int → Option Int
  | [] => none
  | i :: r => some (r.foldl min i)
def biop : Bi → List D → Option R
  | .len, [d] => (rowOf d).map fun xs => .v (.int xs.length)
  | .abs, [.int i] => some (.v (.int (if i < 0 then -i else i)))
  | .int, [.int i] => some (.v (.int i))
  | .int, [.bl b] => some (.v (.int (if b then 1 else 0)))
  | .sum, [d] => (rowOf d).bind fun xs => (intsD xs).map fun is => .v (.int is.sum)
  | .all, [.lst xs] => (blsD xs).map fun bs => .v (.bl (bs.all id))
  | .any, [.lst xs] => (blsD xs).map fun bs => .v (.bl (bs.any id))
  | .max, [d] => (rowOf d).bind fun xs => (intsD xs).bind fun is => (maxL is).map fun i => .v (.int i)
  | .min, [d] => (rowOf d).bind fun xs => (intsD xs).bind fun is => (minL is).map fun i => .v (.int i)
  | .max2, [.int i, .int j] => some (.v (.int (max i j)))
  | .min2, [.int i, .int j] => some (.v (.int (min i j)))
  | .tuple, [d] => (rowOf d).map fun xs => .v (.tup xs)
  | .list, [d] => (rowOf d).map fun xs => .fl xs
  | .sorted, [d] => (rowOf d).bind fun xs => (intsD xs).map fun is => .fl ((sortI is).map .int)
  | .lrange1, [.int n] => if n ≤ LINE ∧ -(2 ^ 62) ≤ n then some (.fl (rangeL 0 n)) else none
  | .lrange2, [.int m, .int n] => if n - m ≤ LINE ∧ r62 m ∧ r62 n then some (.fl (rangeL m n)) else none
  | _, _ => none
def idxD (x : D) : List D → Option Nat
  | [] => none
  | y :: r => if eqD y x then some 0 else (idxD x r).map (· + 1)
def mtop : Mt → D → List D → Option R
  | .count, .lst xs, [x] => if flat0 x && xs.all flat0 then some (.v (.int (xs.countP (eqD · x)))) else none
  | .index, .lst xs, [x] => if flat0 x && xs.all flat0 then (idxD x xs).map fun k => .v (.int k) else none
  | _, _, _ => none
/-- what a walk goes through -/
def items : Ik → List D → Option (List D)
  | .of, [d] => rowOf d
  | .rng, [.int n] => if r62 n then some (rangeL 0 n) else none
  | .rng2, [.int m, .int n] => if r62 m && r62 n then some (rangeL m n) else none
  | .rng3, [.int m, .int n, .int s] => if r62 m && r62 n && decide (0 < s) && decide (s < 1073741824) then some (rangeS m n s) else none
  | .enum, [d] => (rowOf d).map fun xs => xs.zipIdx.map fun p => .tup [.int (p.2 : Nat), p.1]
  | .zip, [.tup xs, .tup ys] => some ((xs.zip ys).map fun p => .tup [p.1, p.2])
  | .zip, [.lst xs, .lst ys] => some ((xs.zip ys).map fun p => .tup [p.1, p.2])
  | _, _ => none

/-! ### the language -/
inductive Pat where
  | nm (i : Nat)
  | tp (ps : List Pat)
inductive E where
  | var (i : Nat) | con (d : D) | glo (d : D) | fnv (f : Nat)
  | bin (o : Op) (a b : E) | neg (a : E) | not (a : E)
  | and (a b : E) | or (a b : E) | ite (t a b : E)
  | cmp (o : Cm) (a b : E) | chain (o o' : Cm) (a b c : E)
  | tup (es : List E) | lst (es : List E) | emp
  | call (f : Nat) (es : List E) | calli (f i : Nat) (es : List E) | callv (i : Nat) (es : List E) | word (f : Nat) (e : E)
  | bi (b : Bi) (es : List E) | isi (a : E) (t : List Ty) | isx (i : Nat) (c : Nat)
  | mt (m : Mt) (a : E) (es : List E) | pop (i : Nat) (es : List E)
  | sub (a i : E) | slc (k : Sk) (a : E) (es : List E)
  | lc (k : Ik) (es : List E) (p : Pat) (cs : List E) (e : E)
  | tabin (t : List (Str × D)) (neg : Bool) (e : E) | tabget (t : List (Str × D)) (e : E)
inductive S where
  | asg (p : Pat) (e : E) | asgs (ps : List Pat) (es : List E)
  | aug (i : Nat) (o : Op) (e : E)
  | set (i : Nat) (x e : E)
  | app (i : Nat) (e : E) | ext (i : Nat) (e : E)
  | expr (e : E) | ret (e : E) | retN
  | ife (t : E) (a b : List S)
  | forS (k : Ik) (es : List E) (p : Pat) (b : List S)
  | whileS (t : E) (b : List S)
  | raise (c : Nat)
  | raise1 (c : Nat) (e : E)
  | tryw (i : Nat) (c : Nat) (h : List S)
  | pass | brk | cont | stuck
/-- a def: parameters, slots, the parameter that is the caller's list, whether it takes a thunk, its body -/
structure FD where
  np : Nat
  ns : Nat
  io : Bool
  body : List S

/-! ### what it does -/
/-- what the rest of the text does: the defs, which parameter is the caller's list, the defs that take a thunk, the classes' order, the turns that a while may make -/
structure Th where
  fn : Nat → List D → Option (Rt × D)
  io : Nat → Bool
  wd : Nat → Option Ex → Option D
  sub : Nat → Nat → Bool
  wf : Nat

def look (ρ : Env) : R → Option D
  | .v d => some d
  | .fl xs => some (.lst xs)
  | .br i => match ρ[i]? with
    | some (.ol xs) => some (.lst xs)
    | some (.ln xs) => some (.lst xs)
    | some (.v d) => some d
    | _ => none
def looks (ρ : Env) : List R → Option (List D)
  | [] => some []
  | r :: rs => (look ρ r).bind fun d => (looks ρ rs).map (d :: ·)
/-- the slot's list stays as it is from now on -/
def frzS (i : Nat) (ρ : Env) : Option Env := match ρ[i]? with
  | some (.ol xs) => some (ρ.set i (.v (.lst xs)))
  | some (.v _) => some ρ
  | _ => none
def frzAll : List Nat → Env → Option Env
  | [], ρ => some ρ
  | i :: is, ρ => (frzS i ρ).bind (frzAll is)
def frz (r : R) (ρ : Env) : Rs D := match r with
  | .v d => .ok d ρ
  | .fl xs => .ok (.lst xs) ρ
  | .br i => match look ρ (.br i), frzS i ρ with
    | some d, some ρ' => .ok d ρ'
    | _, _ => .no
def brs : List R → List Nat
  | [] => []
  | .br i :: rs => i :: brs rs
  | _ :: rs => brs rs
def wrS (i : Nat) (c : D) (ρ : Env) : Option Env := match ρ[i]?, c with
  | some (.ol _), .lst xs => some (ρ.set i (.ol xs))
  | some (.ln _), .lst xs => some (ρ.set i (.ln xs))
  | _, _ => none
def noRt : Rt → Bool
  | .v d => noL d
  | .fl xs => noLs xs
  | .ex _ => true
def rtR : Rt → Env → Rs R
  | .v d, ρ => .ok (.v d) ρ
  | .fl xs, ρ => .ok (.fl xs) ρ
  | .ex e, ρ => .ex e ρ
/-- behind a call -/
def behind (rt : Rt) (bs : List Nat) (ρ : Env) : Rs R := if noRt rt || bs.isEmpty then rtR rt ρ else match frzAll bs ρ with
    | some ρ' => rtR rt ρ'
    | none => .no
def callR (T : Th) (f : Nat) (rs : List R) (ρ : Env) : Rs R := match T.io f, looks ρ rs with
  | false, some ds => (match T.fn f ds with
    | some (rt, _) => behind rt (brs rs) ρ
    | none => .no)
  | _, _ => .no
def slotL (i : Nat) (ρ : Env) : Option (List D) := match ρ[i]? with
  | some (.ol xs) => some xs
  | some (.ln xs) => some xs
  | _ => none
def slotO (i : Nat) (ρ : Env) : Option (List D) := match ρ[i]? with
  | some (.ol xs) => some xs
  | _ => none
/-- what is taken out of a row -/
def popL (xs : List D) : List Int → Option (Nat × D)
  | [] => xs[xs.length - 1]?.map fun x => (xs.length - 1, x)
  | [k] => if r62 k then (placeOf xs.length k).bind fun j => xs[j]?.map fun x => (j, x) else none
  | _ => none
/-- a call that hands on a list of one's own -/
def calliR (T : Th) (f i : Nat) (rs : List R) (ρ : Env) : Rs R := match T.io f, looks ρ rs, frzAll (brs rs) ρ, slotL i ρ with
  | true, some ds, some ρ', some xs => if (slotL i ρ').isSome then (match T.fn f (.lst xs :: ds) with
    | some (rt, cc) => (match wrS i cc (if noRt rt then ρ else ρ') with
      | some ρ1 => rtR rt ρ1
      | none => .no)
    | none => .no) else .no
  | _, _, _, _ => .no
def tabGet (s : Str) : List (Str × D) → Option D
  | [] => none
  | (k, v) :: r => if k = s then some v else tabGet s r
def setSlot (i : Nat) (s : Sl) (ρ : Env) : Option Env := match ρ[i]? with
  | some .no => some (ρ.set i s)
  | some (.v _) => some (ρ.set i s)
  | some (.ol _) => some (ρ.set i s)
  | _ => none
mutual
def asgD : Pat → D → Env → Option Env
  | .nm i, d, ρ => setSlot i (.v d) ρ
  | .tp ps, .tup ds, ρ => asgDs ps ds ρ
  | .tp ps, .lst ds, ρ => asgDs ps ds ρ
  | .tp _, _, _ => none
def asgDs : List Pat → List D → Env → Option Env
  | [], [], ρ => some ρ
  | p :: ps, d :: ds, ρ => (asgD p d ρ).bind (asgDs ps ds)
  | _, _, _ => none
end
def asgR (p : Pat) (r : R) (ρ : Env) : Option Env := match p, r with
  | .nm i, .fl xs => setSlot i (.ol xs) ρ
  | .tp ps, .fl xs => asgDs ps xs ρ
  | p, .v d => asgD p d ρ
  | .nm i, .br j => (look ρ (.br j)).bind fun d => (frzS j ρ).bind (setSlot i (.v d))
  | _, _ => none
/-- what is borrowed stays -/
def stay (ρ : Env) : List R → Option (List R)
  | [] => some []
  | .br i :: rs => (look ρ (.br i)).bind fun d => (stay ρ rs).map (.v d :: ·)
  | r :: rs => (stay ρ rs).map (r :: ·)
def asgRs : List Pat → List R → Env → Option Env
  | [], [], ρ => some ρ
  | p :: ps, r :: rs, ρ => (asgR p r ρ).bind (asgRs ps rs)
  | _, _, _ => none
mutual
def patSlots : Pat → List Nat
  | .nm i => [i]
  | .tp ps => patSlotss ps
def patSlotss : List Pat → List Nat
  | [] => []
  | p :: ps => patSlots p ++ patSlotss ps
end
/-- the slots of a comprehension's own names are free for it -/
def isFree (ρ : Env) (i : Nat) : Bool := match ρ[i]? with
  | some .no => true
  | some (.v _) => true
  | _ => false
def wipeE (ρ : Env) : List Nat → Env
  | [] => ρ
  | v :: vs => (wipeE ρ vs).set v .no
/-- the slots vs as they were in ρ0 -/
def restore (ρ0 : Env) : List Nat → Env → Env
  | [], ρ => ρ
  | v :: vs, ρ => restore ρ0 vs (ρ.set v (ρ0.getD v .no))
/-- the turns of a comprehension; vs: its own slots -/
def lcL (vs : List Nat) (turn : D → Env → Rs (Option D)) : List D → Env → Rs (List D)
  | [], ρ => .ok [] ρ
  | d :: ds, ρ => match turn d ρ with
    | .ok o ρ1 => match lcL vs turn ds (wipeE ρ1 vs) with
      | .ok ys ρ2 => .ok (match o with | some y => y :: ys | none => ys) ρ2
      | _ => .no
    | _ => .no
def asTruth (r : R) (ρ : Env) : Rs Bool := Rs.opt ρ ((look ρ r).bind truth)
/-- an expression's two readings: its value, its truth -/
structure Den where
  v : Env → Rs R
  t : Env → Rs Bool
def Den.of (v : Env → Rs R) : Den := ⟨v, fun ρ => (v ρ).bind asTruth⟩
mutual
def den (T : Th) : E → Den
  | .var i => .of fun ρ => match ρ[i]? with
    | some (.v d) => .ok (.v d) ρ
    | some (.ol _) => .ok (.br i) ρ
    | some (.ln _) => .ok (.br i) ρ
    | _ => .no
  | .con d => .of fun ρ => .ok (.v d) ρ
  | .glo d => .of fun ρ => .ok (.v d) ρ
  | .fnv f => .of fun ρ => .ok (.v (.fn f)) ρ
  | .bin o a b => .of fun ρ => ((den T a).v ρ).bind fun x ρ1 => ((den T b).v ρ1).bind fun y ρ2 => Rs.opt ρ2 ((look ρ2 x).bind fun d => (look ρ2 y).bind fun e => binop o d e)
  | .neg a => .of fun ρ => ((den T a).v ρ).bind fun x ρ1 => Rs.opt ρ1 (match look ρ1 x with | some (.int i) => some (.v (.int (-i))) | _ => none)
  | .not a => ⟨fun ρ => ((den T a).v ρ).bind fun x ρ1 => (asTruth x ρ1).bind fun b ρ2 => .ok (.v (.bl (!b))) ρ2, fun ρ => ((den T a).t ρ).bind fun b ρ1 => .ok (!b) ρ1⟩
  | .and a b => ⟨fun ρ => ((den T a).v ρ).bind fun x ρ1 => match look ρ1 x with
      | some (.bl true) => (den T b).v ρ1
      | some (.bl false) => .ok (.v (.bl false)) ρ1
      | _ => .no,
    fun ρ => ((den T a).t ρ).bind fun c ρ1 => match c with
      | true => (den T b).t ρ1
      | false => .ok false ρ1⟩
  | .or a b => ⟨fun ρ => ((den T a).v ρ).bind fun x ρ1 => match look ρ1 x with
      | some (.bl true) => .ok (.v (.bl true)) ρ1
      | some (.bl false) => (den T b).v ρ1
      | _ => .no,
    fun ρ => ((den T a).t ρ).bind fun c ρ1 => match c with
      | true => .ok true ρ1
      | false => (den T b).t ρ1⟩
  | .ite t a b => ⟨fun ρ => ((den T t).t ρ).bind fun c ρ1 => match c with
      | true => (den T a).v ρ1
      | false => (den T b).v ρ1,
    fun ρ => ((den T t).t ρ).bind fun c ρ1 => match c with
      | true => (den T a).t ρ1
      | false => (den T b).t ρ1⟩
  | .cmp o a b => .of fun ρ => ((den T a).v ρ).bind fun x ρ1 => ((den T b).v ρ1).bind fun y ρ2 => Rs.opt ρ2 ((look ρ2 x).bind fun d => (look ρ2 y).bind fun e => (cmpop o d e).map fun c => .v (.bl c))
  | .chain o o' a b c => .of fun ρ => ((den T a).v ρ).bind fun x ρ1 => ((den T b).v ρ1).bind fun y ρ2 => match (look ρ2 x).bind (fun d => (look ρ2 y).bind fun e => cmpop o d e) with
    | some true => ((den T c).v ρ2).bind fun z ρ3 => Rs.opt ρ3 ((look ρ3 y).bind fun d => (look ρ3 z).bind fun e => (cmpop o' d e).map fun c => .v (.bl c))
    | some false => .ok (.v (.bl false)) ρ2
    | none => .no
  | .tup es => .of fun ρ => (evf T es ρ).bind fun ds ρ1 => if ds.length ≤ LINE then .ok (.v (.tup ds)) ρ1 else .no
  | .lst es => .of fun ρ => (evf T es ρ).bind fun ds ρ1 => if ds.length ≤ LINE then .ok (.fl ds) ρ1 else .no
  | .emp => .of fun ρ => .ok (.v (.dic 0)) ρ
  | .call f es => .of fun ρ => (evs T es ρ).bind fun rs ρ1 => callR T f rs ρ1
  | .calli f i es => .of fun ρ => match slotL i ρ with
    | some _ => (evs T es ρ).bind fun rs ρ1 => calliR T f i rs ρ1
    | none => .no
  | .callv i es => .of fun ρ => match ρ[i]? with
    | some (.v (.fn f)) => (evs T es ρ).bind fun rs ρ1 => callR T f rs ρ1
    | _ => .no
  | .word f e => .of fun ρ => match (den T e).v ρ with
    | .ok _ ρ1 => (match T.wd f none with | some d => .ok (.v d) ρ1 | none => .no)
    | .ex x ρ1 => (match T.wd f (some x) with | some d => .ok (.v d) ρ1 | none => .no)
    | .no => .no
  | .bi b es => .of fun ρ => (evs T es ρ).bind fun rs ρ1 => Rs.opt ρ1 ((looks ρ1 rs).bind (biop b))
  | .isi a t => .of fun ρ => ((den T a).v ρ).bind fun x ρ1 => Rs.opt ρ1 ((look ρ1 x).bind fun d => (isTy t d).map fun b => .v (.bl b))
  | .isx i c => .of fun ρ => match ρ[i]? with
    | some (.ex e) => .ok (.v (.bl (T.sub e.cls c))) ρ
    | _ => .no
  | .mt m a es => .of fun ρ => ((den T a).v ρ).bind fun x ρ1 => match look ρ1 x with
    | some (.lst _) => (evs T es ρ1).bind fun rs ρ2 => Rs.opt ρ2 ((looks ρ2 rs).bind fun ds => (look ρ2 x).bind fun d => mtop m d ds)
    | _ => .no
  | .pop i es => .of fun ρ => match ρ[i]? with
    | some (.ol _) => (evi T es ρ).bind fun is ρ1 => match slotO i ρ1 with
      | some xs => (match popL xs is with
        | some (j, x) => .ok (.v x) (ρ1.set i (.ol (xs.eraseIdx j)))
        | none => .no)
      | none => .no
    | _ => .no
  | .sub a i => .of fun ρ => ((den T a).v ρ).bind fun x ρ1 => ((den T i).v ρ1).bind fun y ρ2 => Rs.opt ρ2 ((look ρ2 x).bind fun d => (look ρ2 y).bind fun e => (subD d e).map .v)
  | .slc k a es => .of fun ρ => ((den T a).v ρ).bind fun x ρ1 => (evi T es ρ1).bind fun is ρ2 => Rs.opt ρ2 ((look ρ2 x).bind fun d => slcD k d is)
  | .lc k es p cs e => .of fun ρ => (evf T es ρ).bind fun ds ρ1 => match items k ds with
    | some xs => if (patSlots p).all (isFree ρ1) && decide (xs.length ≤ LINE) then
        (match lcL (patSlots p) (fun d ρ2 => match asgD p d ρ2 with
          | some ρ3 => (evC T cs ρ3).bind fun b ρ4 => match b with
            | true => ((den T e).v ρ4).bind fun r ρ5 => (frz r ρ5).bind fun y ρ6 => .ok (some y) ρ6
            | false => .ok none ρ4
          | none => .no) xs (wipeE ρ1 (patSlots p)) with
        | .ok ys ρ9 => .ok (.fl ys) (restore ρ1 (patSlots p) ρ9)
        | _ => .no)
      else .no
    | none => .no
  | .tabin t n e => .of fun ρ => ((den T e).v ρ).bind fun x ρ1 => Rs.opt ρ1 (match look ρ1 x with | some (.str s) => some (.v (.bl ((tabGet s t).isSome != n))) | _ => none)
  | .tabget t e => .of fun ρ => ((den T e).v ρ).bind fun x ρ1 => Rs.opt ρ1 (match look ρ1 x with | some (.str s) => (tabGet s t).map .v | _ => none)
termination_by structural e => e
/-- a clause's tests -/
def evC (T : Th) : List E → Env → Rs Bool
  | [], ρ => .ok true ρ
  | e :: es, ρ => ((den T e).t ρ).bind fun b ρ1 => match b with
    | true => evC T es ρ1
    | false => .ok false ρ1
termination_by structural es => es
def evs (T : Th) : List E → Env → Rs (List R)
  | [], ρ => .ok [] ρ
  | e :: es, ρ => ((den T e).v ρ).bind fun x ρ1 => (evs T es ρ1).bind fun xs ρ2 => .ok (x :: xs) ρ2
termination_by structural es => es
/-- ints -/
def evi (T : Th) : List E → Env → Rs (List Int)
  | [], ρ => .ok [] ρ
  | e :: es, ρ => ((den T e).v ρ).bind fun x ρ1 => match look ρ1 x with
    | some (.int i) => (evi T es ρ1).bind fun is ρ2 => .ok (i :: is) ρ2
    | _ => .no
termination_by structural es => es
/-- each stays -/
def evf (T : Th) : List E → Env → Rs (List D)
  | [], ρ => .ok [] ρ
  | e :: es, ρ => ((den T e).v ρ).bind fun x ρ1 => (frz x ρ1).bind fun d ρ2 => (evf T es ρ2).bind fun ds ρ3 => .ok (d :: ds) ρ3
termination_by structural es => es
end
def ev (T : Th) (e : E) : Env → Rs R := (den T e).v
def evT (T : Th) (e : E) : Env → Rs Bool := (den T e).t

/-! ### statements -/
inductive Out where
  | nx (ρ : Env) | rt (r : Rt) (ρ : Env) | bk (ρ : Env) | ct (ρ : Env) | ex (e : Ex) (ρ : Env) | no
/-- behind an expression -/
def Out.of {α : Type} (m : Rs α) (k : α → Env → Out) : Out := match m with
  | .ok a ρ => k a ρ
  | .ex e ρ => .ex e ρ
  | .no => .no
def Out.opt (o : Option Env) : Out := match o with
  | some ρ => .nx ρ
  | none => .no
/-- behind a statement -/
def Out.seq (o : Out) (k : Env → Out) : Out := match o with
  | .nx ρ => k ρ
  | o => o
def forL (asg : D → Env → Option Env) (body : Env → Out) : List D → Env → Out
  | [], ρ => .nx ρ
  | d :: ds, ρ => match asg d ρ with
    | none => .no
    | some ρ1 => match body ρ1 with
      | .nx ρ2 => forL asg body ds ρ2
      | .ct ρ2 => forL asg body ds ρ2
      | .bk ρ2 => .nx ρ2
      | o => o
def whileL (t : Env → Rs Bool) (body : Env → Out) : Nat → Env → Out
  | 0, _ => .no
  | n + 1, ρ => match t ρ with
    | .ok true ρ1 => (match body ρ1 with
      | .nx ρ2 => whileL t body n ρ2
      | .ct ρ2 => whileL t body n ρ2
      | .bk ρ2 => .nx ρ2
      | o => o)
    | .ok false ρ1 => .nx ρ1
    | .ex e ρ1 => .ex e ρ1
    | .no => .no
def retR (r : R) (ρ : Env) : Out := match r with
  | .v d => .rt (.v d) ρ
  | .fl xs => .rt (.fl xs) ρ
  | .br i => match ρ[i]? with
    | some (.ol xs) => .rt (.fl xs) (ρ.set i .no)
    | some (.v d) => .rt (.v d) ρ
    | _ => .no
/-- a slot's own list, changed: d is what comes in -/
def chg (i : Nat) (d : D) (f : List D → Option (List D)) (ρ : Env) : Option Env := match ρ[i]? with
  | some (.ol xs) => (f xs).map fun ys => ρ.set i (.ol ys)
  | some (.ln xs) => if noL d then (f xs).map fun ys => ρ.set i (.ln ys) else none
  | _ => none
/-- the handler's slot is empty behind it -/
def clr (i : Nat) : Out → Out
  | .nx ρ => .nx (ρ.set i .no)
  | .rt r ρ => .rt r (ρ.set i .no)
  | _ => .no
mutual
def exec (T : Th) : S → Env → Out
  | .asg p e, ρ => .of (ev T e ρ) fun r ρ1 => .opt (asgR p r ρ1)
  | .asgs ps es, ρ => .of (evs T es ρ) fun rs ρ1 => .opt ((stay ρ1 rs).bind fun rs' => (frzAll (brs rs) ρ1).bind (asgRs ps rs'))
  | .aug i o e, ρ => match ρ[i]? with
    | some (.v (.int a)) => .of (ev T e ρ) fun r ρ1 => match look ρ1 r with
      | some (.int b) => (match (if o = .add ∨ o = .sub then binop o (.int a) (.int b) else none) with
        | some (.v d) => .opt (setSlot i (.v d) ρ1)
        | _ => .no)
      | _ => .no
    | _ => .no
  | .set i x e, ρ => .of (ev T e ρ) fun r ρ1 => .of (frz r ρ1) fun d ρ2 => match slotL i ρ2 with
    | some _ => .of (ev T x ρ2) fun y ρ3 => match look ρ3 y with
      | some (.int k) => .opt (chg i d (fun xs => (placeOf xs.length k).map fun j => xs.set j d) ρ3)
      | _ => .no
    | none => .no
  | .app i e, ρ => match slotL i ρ with
    | some _ => .of (ev T e ρ) fun r ρ1 => .of (frz r ρ1) fun d ρ2 => .opt (chg i d (fun xs => if xs.length < LINE then some (xs ++ [d]) else none) ρ2)
    | none => .no
  | .ext i e, ρ => match slotL i ρ with
    | some _ => .of (ev T e ρ) fun r ρ1 => .of (frz r ρ1) fun d ρ2 => match d with
      | .lst ys => .opt (chg i (.lst ys) (fun xs => if xs.length + ys.length ≤ LINE then some (xs ++ ys) else none) ρ2)
      | _ => .no
    | none => .no
  | .expr e, ρ => .of (ev T e ρ) fun _ ρ1 => .nx ρ1
  | .ret e, ρ => .of (ev T e ρ) retR
  | .retN, ρ => .rt (.v .non) ρ
  | .ife t a b, ρ => .of (evT T t ρ) fun c ρ1 => match c with
    | true => execs T a ρ1
    | false => execs T b ρ1
  | .forS k es p b, ρ => .of (evf T es ρ) fun ds ρ1 => match items k ds with
    | some xs => forL (asgD p) (execs T b) xs ρ1
    | none => .no
  | .whileS t b, ρ => whileL (evT T t) (execs T b) T.wf ρ
  | .raise c, ρ => .ex ⟨c, none⟩ ρ
  | .raise1 c e, ρ => .of (ev T e ρ) fun r ρ1 => .of (frz r ρ1) fun d ρ2 => .ex ⟨c, some d⟩ ρ2
  | .tryw i c h, ρ => match (List.head? ρ : Option Sl) with
    | some (.th none) => .nx (ρ.set 0 .no)
    | some (.th (some e)) => if T.sub e.cls c then clr i (execs T h ((List.replicate ρ.length Sl.no).set i (.ex e))) else .no
    | _ => .no
  | .pass, ρ => .nx ρ
  | .brk, ρ => .bk ρ
  | .cont, ρ => .ct ρ
  | .stuck, _ => .no
termination_by structural s => s
def execs (T : Th) : List S → Env → Out
  | [], ρ => .nx ρ
  | s :: ss, ρ => (exec T s ρ).seq (execs T ss)
termination_by structural ss => ss
end
/-! ### defs -/
def start0 (f : FD) (ds : List D) : Env := (match f.io, ds with
  | true, .lst xs :: r => Sl.ln xs :: r.map Sl.v
  | true, _ => []
  | false, ds => ds.map Sl.v) ++ List.replicate (f.ns - f.np) Sl.no
def fin (f : FD) (ρ : Env) : Option D := match f.io with
  | false => some .non
  | true => match (List.head? ρ : Option Sl) with
    | some (.ln xs) => some (.lst xs)
    | _ => none
/-- a def's run -/
def runF (T : Th) (f : FD) (ds : List D) : Option (Rt × D) := if ds.length = f.np then
    (match execs T f.body (start0 f ds) with
    | .nx ρ => (fin f ρ).map fun c => (.v .non, c)
    | .rt r ρ => (fin f ρ).map fun c => (r, c)
    | .ex e ρ => (fin f ρ).map fun c => (.ex e, c)
    | _ => none)
  else none
/-- a def that takes a thunk: its run, the thunk's end given -/
def runW (T : Th) (f : FD) (o : Option Ex) : Option D := match execs T f.body (Sl.th o :: List.replicate (f.ns - 1) Sl.no) with
  | .rt (.v d) _ => if noL d then some d else none
  | _ => none
/-- a text: its defs, the defs that take a thunk, the classes' order -/
structure Tx where
  fs : List FD
  sub : Nat → Nat → Bool
def WF : Nat := 1000000000
mutual
/-- a def's run, k calls deep at most -/
def call (X : Tx) : Nat → Nat → List D → Option (Rt × D)
  | 0, _, _ => none
  | k + 1, f, ds => match X.fs[f]? with
    | some fd => runF ⟨call X k, fun g => ((X.fs[g]?).map (·.io)).getD false, wcall X k, X.sub, WF⟩ fd ds
    | none => none
termination_by structural k => k
def wcall (X : Tx) : Nat → Nat → Option Ex → Option D
  | 0, _, _ => none
  | k + 1, f, o => match X.fs[f]? with
    | some fd => runW ⟨call X k, fun g => ((X.fs[g]?).map (·.io)).getD false, wcall X k, X.sub, WF⟩ fd o
    | none => none
termination_by structural k => k
end
def th (X : Tx) (k : Nat) : Th := ⟨call X k, fun g => ((X.fs[g]?).map (·.io)).getD false, wcall X k, X.sub, WF⟩
end VL
end
section
set_option maxHeartbeats 4000000
/-! V2: how trees lie in the heap. -/
namespace VL
open PySem PySem.Spec PyProof.Rows
open L2
abbrev SS := L2.St

/-- F's things stand in F', tables aside -/
def Le (F F' : Hp) : Prop := ∀ b u, F b = some u → (∀ ps, u ≠ .tbl ps) → F' b = some u
theorem Le.refl (F : Hp) : Le F F := fun _ _ h _ => h
theorem Le.trans {F F1 F2 : Hp} (a : Le F F1) (b : Le F1 F2) : Le F F2 := fun x u h n => b x u (a x u h n) n
/-- H without L -/
def Vw (H : Hp) (L : List Addr) : Hp := fun b => if b ∈ L then none else H b
theorem Vw.some_iff {H : Hp} {L : List Addr} {b : Addr} {u : HO} : Vw H L b = some u ↔ b ∉ L ∧ H b = some u := by
  unfold Vw
  by_cases h : b ∈ L
  · simp [h]
  · simp [h]
theorem Vw.le (H : Hp) (L : List Addr) : Le (Vw H L) H := fun _ _ h _ => (Vw.some_iff.mp h).2
theorem Vw.sub {H : Hp} {L L' : List Addr} (h : ∀ b ∈ L', b ∈ L) : Le (Vw H L) (Vw H L') := fun b u e _ => by
  obtain ⟨h1, h2⟩ := Vw.some_iff.mp e
  exact Vw.some_iff.mpr ⟨fun z => h1 (h b z), h2⟩
theorem sqT_mono {K : PySem.W.Frag} {F F' : Hp} {a : Addr} {xs : List V} (l : Le F F') (h : SqT K F a xs) : SqT K F' a xs := by
  rcases h with (h | ⟨o, h⟩) | h
  · exact .inl (.inl (l _ _ h (fun _ z => nomatch z)))
  · exact .inl (.inr ⟨o, l _ _ h (fun _ z => nomatch z)⟩)
  · exact .inr h
theorem sqL_mono {K : PySem.W.Frag} {F F' : Hp} {a : Addr} {xs : List V} (l : Le F F') (h : SqL K F a xs) : SqL K F' a xs := by
  rcases h with (h | ⟨o, h⟩) | h
  · exact .inl (.inl (l _ _ h (fun _ z => nomatch z)))
  · exact .inl (.inr ⟨o, l _ _ h (fun _ z => nomatch z)⟩)
  · exact .inr h

/-- the fixed things: the written part, the defs' and the classes' addresses, the tables of code objects -/
structure Cf where
  K : PySem.W.Frag
  A : Nat → Addr
  C : Nat → Addr
  T : List (Addr × Str)
/-- a frame's own: what special slots hold, the caller's list -/
structure Lc where
  Z : Sl → Option V → Prop
  pl : Addr
  x0 : List D
  v0 : List V
/-- each thing of the row is without list, or stands as it stood -/
def Kp (x0 : List D) (v0 : List V) (xs : List D) (vs : List V) : Prop := ∀ (k : Nat) (d : D) (v : V), xs[k]? = some d → vs[k]? = some v → noL d = true ∨ (x0[k]? = some d ∧ v0[k]? = some v)
mutual
/-- the tree d lies at v -/
inductive Rp (c : Cf) (F : Hp) : D → V → Prop
  | non : Rp c F .non .non
  | bl (b : Bool) : Rp c F (.bl b) (.bl b)
  | int (i : Int) : Rp c F (.int i) (.int i)
  | str {s : Str} : PyData.strOk s = true → Rp c F (.str s) (.str s)
  | tup {a : Addr} {vs : List V} {ds : List D} : SqT c.K F a vs → Rps c F ds vs → Rp c F (.tup ds) (.ref a)
  | lst {a : Addr} {vs : List V} {ds : List D} : F a = some (.lst vs) → Rps c F ds vs → Rp c F (.lst ds) (.ref a)
  | dic {a : Addr} : F a = some (.dK []) → Rp c F (.dic 0) (.ref a)
  | fn (n : Nat) : Rp c F (.fn n) (.ref (c.A n))
  | scr {a : Addr} {xs : List Int} : SqL c.K F a (xs.map V.int) → Rp c F (.scr xs) (.ref a)
inductive Rps (c : Cf) (F : Hp) : List D → List V → Prop
  | nil : Rps c F [] []
  | cons {d : D} {v : V} {ds : List D} {vs : List V} : Rp c F d v → Rps c F ds vs → Rps c F (d :: ds) (v :: vs)
end
section
variable {c : Cf} {F F' : Hp}
mutual
theorem Rp.mono (l : Le F F') : ∀ {d : D} {v : V}, Rp c F d v → Rp c F' d v
  | _, _, .non => .non
  | _, _, .bl b => .bl b
  | _, _, .int i => .int i
  | _, _, .str h => .str h
  | _, _, .tup h r => .tup (sqT_mono l h) (Rps.mono l r)
  | _, _, .lst h r => .lst (l _ _ h (fun _ z => nomatch z)) (Rps.mono l r)
  | _, _, .dic h => .dic (l _ _ h (fun _ z => nomatch z))
  | _, _, .fn n => .fn n
  | _, _, .scr h => .scr (sqL_mono l h)
theorem Rps.mono (l : Le F F') : ∀ {ds : List D} {vs : List V}, Rps c F ds vs → Rps c F' ds vs
  | _, _, .nil => .nil
  | _, _, .cons r t => .cons (Rp.mono l r) (Rps.mono l t)
end
/-- only tuples are leant on where no list is within -/
def LeT (F F' : Hp) : Prop := ∀ b xs, Rd F b (.tup xs) → Rd F' b (.tup xs)
theorem sqT_monoT {K : PySem.W.Frag} {a : Addr} {xs : List V} (l : LeT F F') (h : SqT K F a xs) : SqT K F' a xs := by
  rcases h with h | h
  · exact .inl (l _ _ h)
  · exact .inr h
mutual
theorem Rp.monoT (l : LeT F F') : ∀ {d : D} {v : V}, noL d = true → Rp c F d v → Rp c F' d v
  | _, _, _, .non => .non
  | _, _, _, .bl b => .bl b
  | _, _, _, .int i => .int i
  | _, _, _, .str h => .str h
  | _, _, n, .tup h r => .tup (sqT_monoT l h) (Rps.monoT l (by rw [noL] at n; exact n) r)
  | _, _, n, .lst h r => by rw [noL] at n; cases n
  | _, _, n, .dic h => by rw [noL] at n; cases n
  | _, _, _, .fn n => .fn n
  | _, _, n, .scr h => by rw [noL] at n; cases n
theorem Rps.monoT (l : LeT F F') : ∀ {ds : List D} {vs : List V}, noLs ds = true → Rps c F ds vs → Rps c F' ds vs
  | _, _, _, .nil => .nil
  | _, _, n, .cons r t => by
    rw [noLs, Bool.and_eq_true] at n
    exact .cons (Rp.monoT l n.1 r) (Rps.monoT l n.2 t)
end
theorem Rps.length : ∀ {ds : List D} {vs : List V}, Rps c F ds vs → ds.length = vs.length
  | _, _, .nil => rfl
  | _, _, .cons _ t => congrArg (· + 1) (Rps.length t)
theorem Rps.get : ∀ {ds : List D} {vs : List V} {i : Nat} {d : D}, Rps c F ds vs → ds[i]? = some d → ∃ v, vs[i]? = some v ∧ Rp c F d v
  | _, _, _, _, .nil, e => by simp at e
  | _, _, 0, _, .cons r _, e => by simp at e; subst e; exact ⟨_, rfl, r⟩
  | _, _, i + 1, _, .cons _ t, e => by
    obtain ⟨v, h1, h2⟩ := Rps.get (i := i) t (by simpa using e)
    exact ⟨v, by simpa using h1, h2⟩
theorem Rps.get' : ∀ {ds : List D} {vs : List V} {i : Nat} {v : V}, Rps c F ds vs → vs[i]? = some v → ∃ d, ds[i]? = some d ∧ Rp c F d v
  | _, _, _, _, .nil, e => by simp at e
  | _, _, 0, _, .cons r _, e => by simp at e; subst e; exact ⟨_, rfl, r⟩
  | _, _, i + 1, _, .cons _ t, e => by
    obtain ⟨v, h1, h2⟩ := Rps.get' (i := i) t (by simpa using e)
    exact ⟨v, by simpa using h1, h2⟩
theorem Rps.append : ∀ {ds es : List D} {vs ws : List V}, Rps c F ds vs → Rps c F es ws → Rps c F (ds ++ es) (vs ++ ws)
  | _, _, _, _, .nil, h => h
  | _, _, _, _, .cons r t, h => .cons r (Rps.append t h)
theorem Rps.take : ∀ {ds : List D} {vs : List V} (n : Nat), Rps c F ds vs → Rps c F (ds.take n) (vs.take n)
  | _, _, 0, _ => .nil
  | _, _, _ + 1, .nil => .nil
  | _, _, n + 1, .cons r t => .cons r (Rps.take n t)
theorem Rps.drop : ∀ {ds : List D} {vs : List V} (n : Nat), Rps c F ds vs → Rps c F (ds.drop n) (vs.drop n)
  | _, _, 0, h => h
  | _, _, _ + 1, .nil => .nil
  | _, _, n + 1, .cons r t => Rps.drop n t
theorem Rps.reverse : ∀ {ds : List D} {vs : List V}, Rps c F ds vs → Rps c F ds.reverse vs.reverse
  | _, _, .nil => .nil
  | _, _, .cons r t => by
    rw [List.reverse_cons, List.reverse_cons]
    exact Rps.append (Rps.reverse t) (.cons r .nil)
theorem Rps.set : ∀ {ds : List D} {vs : List V} (i : Nat) {d : D} {v : V}, Rp c F d v → Rps c F ds vs → Rps c F (ds.set i d) (vs.set i v)
  | _, _, _, _, _, _, .nil => .nil
  | _, _, 0, _, _, h, .cons r t => .cons h t
  | _, _, i + 1, _, _, h, .cons r t => .cons r (Rps.set i h t)
theorem Rps.eraseIdx : ∀ {ds : List D} {vs : List V} (i : Nat), Rps c F ds vs → Rps c F (ds.eraseIdx i) (vs.eraseIdx i)
  | _, _, _, .nil => .nil
  | _, _, 0, .cons r t => t
  | _, _, i + 1, .cons r t => .cons r (Rps.eraseIdx i t)
theorem Rps.flatRep {ds : List D} {vs : List V} (h : Rps c F ds vs) : ∀ n : Nat, Rps c F (List.replicate n ds).flatten (List.replicate n vs).flatten
  | 0 => .nil
  | n + 1 => by
    rw [List.replicate_succ, List.replicate_succ, List.flatten_cons, List.flatten_cons]
    exact Rps.append h (Rps.flatRep h n)
theorem Rps.ints : ∀ {ds : List D} {vs : List V} {is : List Int}, Rps c F ds vs → intsD ds = some is → vs = is.map V.int ∧ ds = is.map D.int
  | _, _, _, .nil, e => by cases e; exact ⟨rfl, rfl⟩
  | _, _, is, .cons (d := d) (ds := ds) r t, e => by
    cases d with
    | int i =>
      rw [intsD] at e
      cases q : intsD ds with
      | none => rw [q] at e; cases e
      | some js =>
        rw [q] at e
        cases e
        obtain ⟨h1, h2⟩ := Rps.ints t q
        cases r
        exact ⟨by rw [h1]; rfl, by rw [h2]; rfl⟩
    | _ => cases e
theorem Rps.bls : ∀ {ds : List D} {vs : List V} {is : List Bool}, Rps c F ds vs → blsD ds = some is → vs = is.map V.bl
  | _, _, _, .nil, e => by cases e; rfl
  | _, _, is, .cons (d := d) (ds := ds) r t, e => by
    cases d with
    | bl i =>
      rw [blsD] at e
      cases q : blsD ds with
      | none => rw [q] at e; cases e
      | some js =>
        rw [q] at e
        cases e
        rw [Rps.bls t q]
        cases r
        rfl
    | _ => cases e
theorem Rps.ofInts : ∀ is : List Int, Rps c F (is.map D.int) (is.map V.int)
  | [] => .nil
  | i :: is => .cons (.int i) (Rps.ofInts is)
end

/-! ### the slots -/
/-- what a list of its own may be -/
def isOff : HO → Prop
  | .lst _ => True
  | _ => False
/-- one slot, its value, the addresses of its own lists -/
inductive En (c : Cf) (lc : Lc) (F H : Hp) : Sl → Option V → List Addr → Prop
  | no (x : Option V) : En c lc F H .no x []
  | v {d : D} {v : V} : Rp c F d v → En c lc F H (.v d) (some v) []
  | ol {p : Addr} {xs : List D} {vs : List V} : H p = some (.lst vs) → Rps c F xs vs → En c lc F H (.ol xs) (some (.ref p)) [p]
  | ln {xs : List D} {vs : List V} : H lc.pl = some (.lst vs) → Rps c F xs vs → Kp lc.x0 lc.v0 xs vs → En c lc F H (.ln xs) (some (.ref lc.pl)) [lc.pl]
  | th {o : Option Ex} {x : Option V} : lc.Z (.th o) x → En c lc F H (.th o) x []
  | ex {e : Ex} {x : Option V} : lc.Z (.ex e) x → En c lc F H (.ex e) x []
/-- slots, their values; O: the addresses of their own lists -/
inductive EnvR (c : Cf) (lc : Lc) (F H : Hp) : Env → SS → List Addr → Prop
  | nil : EnvR c lc F H [] [] []
  | cons {s : Sl} {x : Option V} {Oi : List Addr} {ρ : Env} {σ : SS} {O : List Addr} : En c lc F H s x Oi → EnvR c lc F H ρ σ O → EnvR c lc F H (s :: ρ) (x :: σ) (Oi ++ O)
/-- all that is known of a state: O the frame's own lists, Oc what is off limits -/
structure Ok (c : Cf) (lc : Lc) (ρ : Env) (σ : SS) (H : Hp) (O Oc : List Addr) : Prop where
  env : EnvR c lc (Vw H (O ++ Oc)) H ρ σ O
  nd : (O ++ Oc).Nodup
  off : ∀ b ∈ Oc, ∃ u, H b = some u ∧ isOff u
  tabs : LamX.Tabs c.T H
/-- from H to H': all but O is kept; what is new may be one's own -/
structure Step (H : Hp) (O : List Addr) (H' : Hp) (O' : List Addr) : Prop where
  keep : ∀ b u, H b = some u → b ∉ O → (∀ ps, u ≠ .tbl ps) → H' b = some u
  tbl : ∀ b ps, H b = some (.tbl ps) → ∃ ps', H' b = some (.tbl ps')
  own : ∀ b ∈ O', b ∈ O ∨ H b = none
  there : ∀ b ∈ O, H b ≠ none → H' b ≠ none
theorem Step.refl (H : Hp) (O : List Addr) : Step H O H O := ⟨fun _ _ h _ _ => h, fun _ ps h => ⟨ps, h⟩, fun _ h => .inl h, fun _ _ h => h⟩
theorem Step.some {H H' : Hp} {O O' : List Addr} (s : Step H O H' O') {b : Addr} (h : H b ≠ none) : H' b ≠ none := by
  by_cases hb : b ∈ O
  · exact s.there b hb h
  · cases e : H b with
    | none => exact absurd e h
    | some u =>
      by_cases ht : ∃ ps, u = .tbl ps
      · obtain ⟨ps, rfl⟩ := ht
        obtain ⟨ps', e'⟩ := s.tbl b ps e
        rw [e']; simp
      · rw [s.keep b u e hb fun ps z => ht ⟨ps, z⟩]; simp
theorem Step.trans {H H1 H2 : Hp} {O O1 O2 : List Addr} (a : Step H O H1 O1) (b : Step H1 O1 H2 O2) : Step H O H2 O2 where
  keep := fun x u h n t => b.keep x u (a.keep x u h n t) (fun z => (a.own x z).elim n fun z => by rw [z] at h; cases h) t
  tbl := fun x ps h => by
    obtain ⟨p1, e1⟩ := a.tbl x ps h
    exact b.tbl x p1 e1
  own := fun x h => by
    rcases b.own x h with z | z
    · exact a.own x z
    · by_cases e : H x = none
      · exact .inr e
      · exact absurd z (a.some e)
  there := fun x h n => b.some (a.some n)
/-- the view grows -/
theorem Step.vw {H H' : Hp} {O O' L L' : List Addr} (s : Step H O H' O') (hL : ∀ b ∈ L', b ∈ L ∨ H b = none) (hO : ∀ b ∈ O, b ∈ L) : Le (Vw H L) (Vw H' L') := fun b u e t => by
  obtain ⟨h1, h2⟩ := Vw.some_iff.mp e
  refine Vw.some_iff.mpr ⟨fun z => (hL b z).elim h1 fun z => (by rw [z] at h2; cases h2), s.keep b u h2 (fun z => h1 (hO b z)) t⟩
theorem Step.vwO {H H' : Hp} {O O' Oc : List Addr} (s : Step H O H' O') : Le (Vw H (O ++ Oc)) (Vw H' (O' ++ Oc)) :=
  s.vw (fun b hb => by
    rcases List.mem_append.mp hb with h | h
    · rcases s.own b h with z | z
      · exact .inl (List.mem_append_left _ z)
      · exact .inr z
    · exact .inl (List.mem_append_right _ h)) fun b hb => List.mem_append_left _ hb
/-- a step by an object that is new -/
theorem Step.new {H : Hp} {O : List Addr} {p : Addr} {o : HO} (hp : H p = none) : Step H O (upd H p o) O where
  keep := fun b u h _ _ => by rw [upd_ne (ne_of_none h hp)]; exact h
  tbl := fun b ps h => ⟨ps, by rw [upd_ne (ne_of_none h hp)]; exact h⟩
  own := fun b h => .inl h
  there := fun b _ h => by
    by_cases e : b = p
    · rw [e, upd_same]; simp
    · rw [upd_ne e]; exact h
section
variable {c : Cf} {lc : Lc} {F F' H H' : Hp} {ρ : Env} {σ : SS} {O O' Oc : List Addr}
theorem En.mono (l : Le F F') {s : Sl} {x : Option V} {Oi : List Addr} (hO : ∀ b ∈ Oi, H' b = H b) (h : En c lc F H s x Oi) : En c lc F' H' s x Oi := by
  cases h with
  | no => exact .no _
  | v r => exact .v (r.mono l)
  | ol e r => exact .ol ((hO _ List.mem_cons_self).trans e) (r.mono l)
  | ln e r q => exact .ln ((hO _ List.mem_cons_self).trans e) (r.mono l) q
  | th z => exact .th z
  | ex z => exact .ex z
theorem EnvR.mono (l : Le F F') (hO : ∀ b ∈ O, H' b = H b) {ρ : Env} {σ : SS} (h : EnvR c lc F H ρ σ O) : EnvR c lc F' H' ρ σ O := by
  induction h with
  | nil => exact .nil
  | cons e _ ih => exact .cons (e.mono l fun b hb => hO b (List.mem_append_left _ hb)) (ih fun b hb => hO b (List.mem_append_right _ hb))
theorem EnvR.lenEq : EnvR c lc F H ρ σ O → ρ.length = σ.length := by
  intro h
  induction h with
  | nil => rfl
  | cons _ _ ih => exact congrArg (· + 1) ih
theorem En.ofO {s : Sl} {x : Option V} {Oi : List Addr} (h : En c lc F H s x Oi) : ∀ b ∈ Oi, ∃ vs, H b = some (.lst vs) := by
  cases h with
  | ol e r =>
    intro b hb
    obtain rfl := List.mem_singleton.mp hb
    exact ⟨_, e⟩
  | ln e r q =>
    intro b hb
    obtain rfl := List.mem_singleton.mp hb
    exact ⟨_, e⟩
  | _ => intro b hb; cases hb
theorem EnvR.ofO : EnvR c lc F H ρ σ O → ∀ b ∈ O, ∃ vs, H b = some (.lst vs) := by
  intro h
  induction h with
  | nil => intro b hb; cases hb
  | cons e _ ih =>
    intro b hb
    rcases List.mem_append.mp hb with z | z
    · exact e.ofO b z
    · exact ih b z
/-- one slot by itself -/
theorem EnvR.split {i : Nat} {s : Sl} (h : EnvR c lc F H ρ σ O) (hi : ρ[i]? = some s) :
    ∃ x Oi O', σ[i]? = some x ∧ En c lc F H s x Oi ∧ O.Perm (Oi ++ O') ∧
      ∀ (F' H' : Hp), Le F F' → (∀ b ∈ O', H' b = H b) → ∀ s' x' Oj, En c lc F' H' s' x' Oj → ∃ O2, EnvR c lc F' H' (ρ.set i s') (σ.set i x') O2 ∧ O2.Perm (Oj ++ O') := by
  induction h generalizing i with
  | nil => simp at hi
  | @cons s0 x0 Oi0 ρ0 σ0 O0 e t ih =>
    cases i with
    | zero =>
      simp at hi
      subst hi
      exact ⟨x0, Oi0, O0, rfl, e, .refl _, fun F' H' l hO s' x' Oj e' => ⟨Oj ++ O0, .cons e' (t.mono l hO), .refl _⟩⟩
    | succ i =>
      obtain ⟨x, Oi, O', h1, h2, h3, h4⟩ := ih (i := i) (by simpa using hi)
      refine ⟨x, Oi, Oi0 ++ O', by simpa using h1, h2, ?_, fun F' H' l hO s' x' Oj e' => ?_⟩
      · refine (List.Perm.append_left Oi0 h3).trans ?_
        rw [← List.append_assoc, ← List.append_assoc]
        exact List.Perm.append_right O' List.perm_append_comm
      · obtain ⟨O2, k1, k2⟩ := h4 F' H' l (fun b hb => hO b (List.mem_append_right _ hb)) s' x' Oj e'
        refine ⟨Oi0 ++ O2, .cons (e.mono l fun b hb => hO b (List.mem_append_left _ hb)) k1, ?_⟩
        refine (List.Perm.append_left Oi0 k2).trans ?_
        rw [← List.append_assoc, ← List.append_assoc]
        exact List.Perm.append_right O' List.perm_append_comm
/-- views hang on what is in the list alone -/
theorem Vw.perm {H : Hp} {L L' : List Addr} (h : L.Perm L') : Vw H L = Vw H L' := by
  funext b
  unfold Vw
  by_cases hb : b ∈ L
  · rw [if_pos hb, if_pos (h.mem_iff.mp hb)]
  · rw [if_neg hb, if_neg fun z => hb (h.mem_iff.mpr z)]
theorem Ok.len (k : Ok c lc ρ σ H O Oc) : ρ.length = σ.length := k.env.lenEq
/-- what is off limits may shrink -/
theorem Ok.sub {Oc' : List Addr} (k : Ok c lc ρ σ H O Oc) (h : Oc'.Sublist Oc) : Ok c lc ρ σ H O Oc' where
  env := k.env.mono (Vw.sub fun b hb => by
    rcases List.mem_append.mp hb with z | z
    · exact List.mem_append_left _ z
    · exact List.mem_append_right _ (h.subset z)) fun _ _ => rfl
  nd := k.nd.sublist (List.Sublist.append (List.Sublist.refl O) h)
  off := fun b hb => k.off b (h.subset hb)
  tabs := k.tabs
theorem Ok.tail {p : Addr} (k : Ok c lc ρ σ H O (p :: Oc)) : Ok c lc ρ σ H O Oc := k.sub (List.sublist_cons_self _ _)
/-- a new object -/
theorem Ok.new {p : Addr} {o : HO} (k : Ok c lc ρ σ H O Oc) (hp : H p = none) : Ok c lc ρ σ (upd H p o) O Oc where
  env := k.env.mono (Step.new (O := O) hp).vwO fun b hb => by
    obtain ⟨vs, e⟩ := k.env.ofO b hb
    rw [upd_ne (ne_of_none e hp)]
  nd := k.nd
  off := fun b hb => by
    obtain ⟨u, e, z⟩ := k.off b hb
    exact ⟨u, by rw [upd_ne (ne_of_none e hp)]; exact e, z⟩
  tabs := k.tabs.ext fun b o e => by rw [upd_ne (ne_of_none e hp)]; exact e
theorem Ok.newOff {p : Addr} {xs : List V} (k : Ok c lc ρ σ H O Oc) (hp : H p = none) : Ok c lc ρ σ (upd H p (.lst xs)) O (p :: Oc) := by
  have k2 := k.new (o := .lst xs) hp
  have np : p ∉ O ++ Oc := fun z => by
    rcases List.mem_append.mp z with z | z
    · obtain ⟨vs, e⟩ := k.env.ofO p z
      rw [hp] at e; cases e
    · obtain ⟨u, e, _⟩ := k.off p z
      rw [hp] at e; cases e
  have np1 : p ∉ O := fun z => np (List.mem_append_left _ z)
  refine ⟨k.env.mono ?_ ?_, ?_, ?_, k2.tabs⟩
  · intro b u e t
    obtain ⟨h1, h2⟩ := Vw.some_iff.mp e
    have hb : b ≠ p := ne_of_none h2 hp
    refine Vw.some_iff.mpr ⟨fun z => ?_, by rw [upd_ne hb]; exact h2⟩
    rcases List.mem_append.mp z with z | z
    · exact h1 (List.mem_append_left _ z)
    · rcases List.mem_cons.mp z with z | z
      · exact hb z
      · exact h1 (List.mem_append_right _ z)
  · intro b hb
    obtain ⟨vs, e⟩ := k.env.ofO b hb
    rw [upd_ne (ne_of_none e hp)]
  · have e : (O ++ p :: Oc).Perm (p :: (O ++ Oc)) := List.perm_middle
    exact e.nodup_iff.mpr (List.nodup_cons.mpr ⟨np, k.nd⟩)
  · intro b hb
    rcases List.mem_cons.mp hb with rfl | hb
    · exact ⟨_, upd_same, trivial⟩
    · exact k2.off b hb
end
end VL
end
section
set_option maxHeartbeats 4000000
/-! V3: what results mean; judgements. -/
namespace VL
open PySem PySem.Spec PyProof.Rows L2

/-! ### contents -/
/-- what lies at v: a tree within F, or a list at H of such -/
def RC (c : Cf) (F H : Hp) (d : D) (v : V) : Prop := Rp c F d v ∨ ∃ ds vs a, d = .lst ds ∧ v = .ref a ∧ H a = some (.lst vs) ∧ Rps c F ds vs
inductive RCs (c : Cf) (F H : Hp) : List D → List V → Prop
  | nil : RCs c F H [] []
  | cons {d : D} {v : V} {ds : List D} {vs : List V} : RC c F H d v → RCs c F H ds vs → RCs c F H (d :: ds) (v :: vs)
section
variable {c : Cf} {F H : Hp} {d : D} {v : V}
theorem RC.rp (h : RC c F H d v) (n : ∀ ds, d ≠ .lst ds) : Rp c F d v := by
  rcases h with h | ⟨ds, _, _, e, _⟩
  · exact h
  · exact absurd e (n ds)
theorem RC.int {i : Int} (h : RC c F H (.int i) v) : v = .int i := by
  cases h.rp fun _ z => nomatch z
  rfl
theorem RC.bl {i : Bool} (h : RC c F H (.bl i) v) : v = .bl i := by
  cases h.rp fun _ z => nomatch z
  rfl
theorem RC.non (h : RC c F H .non v) : v = .non := by
  cases h.rp fun _ z => nomatch z
  rfl
theorem RC.str {s : Str} (h : RC c F H (.str s) v) : v = .str s ∧ PyData.strOk s = true := by
  cases h.rp fun _ z => nomatch z with
  | str q => exact ⟨rfl, q⟩
theorem RC.fn {n : Nat} (h : RC c F H (.fn n) v) : v = .ref (c.A n) := by
  cases h.rp fun _ z => nomatch z
  rfl
theorem RC.tup {ds : List D} (h : RC c F H (.tup ds) v) : ∃ a vs, v = .ref a ∧ SqT c.K F a vs ∧ Rps c F ds vs := by
  cases h.rp fun _ z => nomatch z with
  | tup q r => exact ⟨_, _, rfl, q, r⟩
theorem RC.lst {ds : List D} (l : Le F H) (h : RC c F H (.lst ds) v) : ∃ a vs, v = .ref a ∧ H a = some (.lst vs) ∧ Rps c F ds vs := by
  rcases h with h | ⟨ds', vs, a, e, e2, e3, e4⟩
  · cases h with
    | lst q r => exact ⟨_, _, rfl, l _ _ q (fun _ z => nomatch z), r⟩
  · cases e
    exact ⟨a, vs, e2, e3, e4⟩
end

/-! ### results -/
/-- a new list is pending till it is stored -/
def pend : R → V → List Addr
  | .fl _, .ref p => [p]
  | _, _ => []
def RR (c : Cf) (σ : SS) (H : Hp) (O Oc : List Addr) (r : R) (v : V) : Prop := match r with
  | .v d => Rp c (Vw H (O ++ Oc)) d v
  | .fl xs => ∃ p vs, v = .ref p ∧ p ∈ Oc ∧ H p = some (.lst vs) ∧ Rps c (Vw H (O ++ Oc)) xs vs
  | .br i => σ[i]? = some (some v)
structure PR (c : Cf) (lc : Lc) (ρ : Env) (σ : SS) (H : Hp) (O Oc : List Addr) (r : R) (v : V) : Prop where
  ok : Ok c lc ρ σ H O (pend r v ++ Oc)
  rr : RR c σ H O (pend r v ++ Oc) r v
section
variable {c : Cf} {lc : Lc} {ρ : Env} {σ : SS} {H H' : Hp} {O O' Oc Oc' : List Addr}
/-- slots by kind -/
theorem Ok.atV {i : Nat} {d : D} (k : Ok c lc ρ σ H O Oc) (h : ρ[i]? = some (.v d)) : ∃ v, σ[i]? = some (some v) ∧ Rp c (Vw H (O ++ Oc)) d v := by
  obtain ⟨x, Oi, O', h1, h2, _⟩ := k.env.split h
  cases h2 with
  | v r => exact ⟨_, h1, r⟩
theorem Ok.atO {i : Nat} {xs : List D} (k : Ok c lc ρ σ H O Oc) (h : ρ[i]? = some (.ol xs)) : ∃ p vs, σ[i]? = some (some (.ref p)) ∧ p ∈ O ∧ H p = some (.lst vs) ∧ Rps c (Vw H (O ++ Oc)) xs vs := by
  obtain ⟨x, Oi, O', h1, h2, h3, _⟩ := k.env.split h
  cases h2 with
  | ol e r => exact ⟨_, _, h1, h3.mem_iff.mpr (List.mem_append_left _ List.mem_cons_self), e, r⟩
theorem Ok.atLK {i : Nat} {xs : List D} (k : Ok c lc ρ σ H O Oc) (h : ρ[i]? = some (.ln xs)) : ∃ vs, σ[i]? = some (some (.ref lc.pl)) ∧ lc.pl ∈ O ∧ H lc.pl = some (.lst vs) ∧ Rps c (Vw H (O ++ Oc)) xs vs ∧ Kp lc.x0 lc.v0 xs vs := by
  obtain ⟨x, Oi, O', h1, h2, h3, _⟩ := k.env.split h
  cases h2 with
  | ln e r q => exact ⟨_, h1, h3.mem_iff.mpr (List.mem_append_left _ List.mem_cons_self), e, r, q⟩
theorem Ok.atL {i : Nat} {xs : List D} (k : Ok c lc ρ σ H O Oc) (h : ρ[i]? = some (.ln xs)) : ∃ vs, σ[i]? = some (some (.ref lc.pl)) ∧ lc.pl ∈ O ∧ H lc.pl = some (.lst vs) ∧ Rps c (Vw H (O ++ Oc)) xs vs := by
  obtain ⟨vs, h1, h2, h3, h4, _⟩ := k.atLK h
  exact ⟨vs, h1, h2, h3, h4⟩
/-- a result's content -/
theorem Ok.look (k : Ok c lc ρ σ H O Oc) {r : R} {v : V} {d : D} (q : RR c σ H O Oc r v) (h : look ρ r = some d) : RC c (Vw H (O ++ Oc)) H d v := by
  cases r with
  | v d' => cases h; exact .inl q
  | fl xs =>
    cases h
    obtain ⟨p, vs, e1, _, e2, e3⟩ := q
    exact .inr ⟨xs, vs, p, rfl, e1, e2, e3⟩
  | br i =>
    have q' : σ[i]? = some (some v) := q
    have h : (match ρ[i]? with | some (.ol xs) => some (.lst xs) | some (.ln xs) => some (.lst xs) | some (.v d) => some d | _ => none) = some d := h
    cases e : ρ[i]? with
    | none => rw [e] at h; cases h
    | some s =>
      rw [e] at h
      cases s with
      | ol xs =>
        cases h
        obtain ⟨p, vs, h1, _, h2, h3⟩ := k.atO e
        rw [q'] at h1
        cases h1
        exact .inr ⟨xs, vs, p, rfl, rfl, h2, h3⟩
      | ln xs =>
        cases h
        obtain ⟨vs, h1, _, h2, h3⟩ := k.atL e
        rw [q'] at h1
        cases h1
        exact .inr ⟨xs, vs, _, rfl, rfl, h2, h3⟩
      | v d' =>
        cases h
        obtain ⟨v', h1, h2⟩ := k.atV e
        rw [q'] at h1
        cases h1
        exact .inl h2
      | _ => cases h
theorem Ok.dis (k : Ok c lc ρ σ H O Oc) : ∀ b ∈ Oc, b ∉ O := fun b hb ho => by
  have h := (List.nodup_append.mp k.nd).2.2
  exact h b ho b hb rfl
/-- a result, later -/
theorem RR.later {r : R} {v : V} (q : RR c σ H O Oc r v) (s : Step H O H' O') (dis : ∀ b ∈ Oc, b ∉ O) (hp : ∀ b ∈ Oc, b ∈ Oc') (hL : ∀ b ∈ Oc', b ∈ Oc ∨ H b = none) : RR c σ H' O' Oc' r v := by
  have l : Le (Vw H (O ++ Oc)) (Vw H' (O' ++ Oc')) := s.vw (fun b hb => by
    rcases List.mem_append.mp hb with z | z
    · rcases s.own b z with y | y
      · exact .inl (List.mem_append_left _ y)
      · exact .inr y
    · rcases hL b z with y | y
      · exact .inl (List.mem_append_right _ y)
      · exact .inr y) fun b hb => List.mem_append_left _ hb
  cases r with
  | v d => exact Rp.mono l q
  | fl xs =>
    obtain ⟨p, vs, e1, e2, e3, e4⟩ := q
    exact ⟨p, vs, e1, hp p e2, s.keep _ _ e3 (dis p e2) (fun _ z => nomatch z), Rps.mono l e4⟩
  | br i => exact q
end

/-! ### what an exception is -/
def XR (c : Cf) (e : Ex) (cls : Value) (d : Option Addr) : Prop := cls = .ref (c.C e.cls) ∧ e.arg = none ∧ d = none

/-! ### a reading's end -/
section
variable {α β γ : Type}
/-- from the state at hand: what m gives is met, Q is wanted of it -/
def Go (c : Cf) (lc : Lc) (W : WX) (σ : SS) (H : Hp) (O Oc : List Addr) (m : Rs α) (P : α → Env → β → Hp → List Addr → Prop) (Q : β → Hp → Prop) : Prop := match m with
  | .ok a ρ' => ∀ v H' O', Step H O H' O' → P a ρ' v H' O' → Q v H'
  | .ex e ρ' => ∀ cls d H' O', Step H O H' O' → Ok c lc ρ' σ H' O' Oc → XR c e cls d → W cls d σ H'
  | .no => False
variable {c : Cf} {lc : Lc} {W : WX} {ρ : Env} {σ : SS} {H H' H1 : Hp} {O O' O1 Oc ps : List Addr} {m : Rs α} {k : α → Env → Rs γ} {P : γ → Env → β → Hp → List Addr → Prop} {Q : β → Hp → Prop}
theorem Go.step {P : α → Env → β → Hp → List Addr → Prop} (h : Go c lc W σ H O Oc m P Q) (s : Step H O H1 O1) : Go c lc W σ H1 O1 Oc m P Q := by
  cases m with
  | ok a ρ' => exact fun v H' O' s' p => h v H' O' (s.trans s') p
  | ex e ρ' => exact fun cls d H' O' s' k x => h cls d H' O' (s.trans s') k x
  | no => exact h
/-- the first of two -/
theorem Go.bind {δ : Type} {P1 : α → Env → δ → Hp → List Addr → Prop} (ps : List Addr) (h : Go c lc W σ H O Oc (m.bind k) P Q) :
    Go c lc W σ H O (ps ++ Oc) m P1 fun v H1 => ∃ a ρ1 O1, Step H O H1 O1 ∧ P1 a ρ1 v H1 O1 ∧ Go c lc W σ H1 O1 Oc (k a ρ1) P Q := by
  cases m with
  | ok a ρ' => exact fun v H' O' s p => ⟨a, ρ', O', s, p, Go.step (show Go c lc W σ H O Oc (k a ρ') P Q from h) s⟩
  | ex e ρ' => exact fun cls d H' O' s q x => h cls d H' O' s (q.sub (List.sublist_append_right _ _)) x
  | no => exact h
end
/-- an expression's value -/
def PV (c : Cf) (lc : Lc) (σ : SS) (Oc : List Addr) (H0 : Hp) : R → Env → V → Hp → List Addr → Prop := fun r ρ v H O => PR c lc ρ σ H O Oc r v ∧ ∀ b ∈ pend r v, H0 b = none
/-- a test's -/
def PB (c : Cf) (lc : Lc) (σ : SS) (Oc : List Addr) : Bool → Env → Bool → Hp → List Addr → Prop := fun b ρ b' H O => b' = b ∧ Ok c lc ρ σ H O Oc
/-- arguments -/
def offs : List Addr → List R → List V → List Addr
  | Oc, r :: rs, v :: vs => offs (pend r v ++ Oc) rs vs
  | Oc, _, _ => Oc
def RRs (c : Cf) (σ : SS) (H : Hp) (O Oc : List Addr) : List R → List V → Prop
  | [], [] => True
  | r :: rs, v :: vs => RR c σ H O Oc r v ∧ RRs c σ H O Oc rs vs
  | _, _ => False
def PL (c : Cf) (lc : Lc) (σ : SS) (Oc : List Addr) (H0 : Hp) : List R → Env → List V → Hp → List Addr → Prop := fun rs ρ vs H O => Ok c lc ρ σ H O (offs Oc rs vs) ∧ RRs c σ H O (offs Oc rs vs) rs vs ∧ ∀ b ∈ offs Oc rs vs, b ∈ Oc ∨ H0 b = none
/-- arguments that stay -/
def PF (c : Cf) (lc : Lc) (σ : SS) (Oc : List Addr) : List D → Env → List V → Hp → List Addr → Prop := fun ds ρ vs H O => Ok c lc ρ σ H O Oc ∧ Rps c (Vw H (O ++ Oc)) ds vs
def rE (c : Cf) (lc : Lc) (W : WX) (f : Env → Rs R) : TE := fun σ H Q => ∃ ρ O Oc, Ok c lc ρ σ H O Oc ∧ Go c lc W σ H O Oc (f ρ) (PV c lc σ Oc H) Q
def rT (c : Cf) (lc : Lc) (W : WX) (f : Env → Rs Bool) : TT := fun σ H Q => ∃ ρ O Oc, Ok c lc ρ σ H O Oc ∧ Go c lc W σ H O Oc (f ρ) (PB c lc σ Oc) Q
def rA (c : Cf) (lc : Lc) (W : WX) (f : Env → Rs (List R)) : TA := fun σ H Q => ∃ ρ O Oc, Ok c lc ρ σ H O Oc ∧ Go c lc W σ H O Oc (f ρ) (PL c lc σ Oc H) Q
def rF (c : Cf) (lc : Lc) (W : WX) (f : Env → Rs (List D)) : TA := fun σ H Q => ∃ ρ O Oc, Ok c lc ρ σ H O Oc ∧ Go c lc W σ H O Oc (f ρ) (PF c lc σ Oc) Q

/-- weaker readings -/
theorem PE.imp {X : Cx} {e : Expr} {t t' : TE} (h : PE X e t) (i : ∀ σ H Q, t' σ H Q → t σ H Q) : PE X e t' := ⟨fun pins s σ H Q I q => h.run pins s σ H Q I (i σ H Q q)⟩
theorem PT.imp {X : Cx} {e : Expr} {t t' : TT} (h : PT X e t) (i : ∀ σ H Q, t' σ H Q → t σ H Q) : PT X e t' := ⟨fun pins s σ H Q I q => h.run pins s σ H Q I (i σ H Q q)⟩
theorem PW.imp {X : Cx} {e : Expr} {t t' : TT} (h : PW X e t) (i : ∀ σ H Q, t' σ H Q → t σ H Q) : PW X e t' := ⟨fun w pins s σ H Q I q => h.run w pins s σ H Q I (i σ H Q q)⟩
theorem PA.imp {X : Cx} {e : List Expr} {t t' : TA} (h : PA X e t) (i : ∀ σ H Q, t' σ H Q → t σ H Q) : PA X e t' := ⟨fun pos pins s σ H Q I q => h.run pos pins s σ H Q I (i σ H Q q)⟩
theorem PS.imp {X : Cx} {e : Stmt} {t t' : TS} (h : PS X e t) (i : ∀ D σ H, t' D σ H → t D σ H) : PS X e t' := ⟨fun pins s σ H Q I q => h.run pins s σ H Q I (i Q σ H q)⟩
theorem PSs.imp {X : Cx} {e : List Stmt} {t t' : TS} (h : PSs X e t) (i : ∀ D σ H, t' D σ H → t D σ H) : PSs X e t' := ⟨fun pins s σ H Q I q => h.run pins s σ H Q I (i Q σ H q)⟩

/-! ### results of operations -/
/-- what an operation on contents within F, H gives: a tree that stands or is new, or a new list -/
def Res (c : Cf) (F H : Hp) (r : R) (v : V) (H' : Hp) : Prop := match r with
  | .v d => (H' = H ∧ Rp c F d v) ∨ ∃ p ds vs, d = .tup ds ∧ v = .ref p ∧ H p = none ∧ H' = upd H p (.tup vs) ∧ Rps c F ds vs
  | .fl xs => ∃ p vs, v = .ref p ∧ H p = none ∧ H' = upd H p (.lst vs) ∧ Rps c F xs vs
  | .br _ => False
section
variable {c : Cf} {lc : Lc} {ρ : Env} {σ : SS} {H H' : Hp} {O Oc Oc' : List Addr}
theorem Ok.res (k : Ok c lc ρ σ H O Oc) (hs : Oc'.Sublist Oc) {r : R} {v : V} (q : Res c (Vw H (O ++ Oc)) H r v H') : Step H O H' O ∧ PR c lc ρ σ H' O Oc' r v := by
  have lv : Le (Vw H (O ++ Oc)) (Vw H (O ++ Oc')) := Vw.sub fun b hb => by
    rcases List.mem_append.mp hb with z | z
    · exact List.mem_append_left _ z
    · exact List.mem_append_right _ (hs.subset z)
  cases r with
  | br i => exact q.elim
  | v d =>
    rcases q with ⟨rfl, q⟩ | ⟨p, ds, vs, rfl, rfl, hp, rfl, q⟩
    · exact ⟨Step.refl _ _, k.sub hs, Rp.mono lv q⟩
    · have st : Step H O (upd H p (.tup vs)) O := Step.new hp
      have np : p ∉ O ++ Oc' := fun z => by
        rcases List.mem_append.mp z with z | z
        · obtain ⟨_, e⟩ := k.env.ofO p z
          rw [hp] at e; cases e
        · obtain ⟨_, e, _⟩ := k.off p (hs.subset z)
          rw [hp] at e; cases e
      exact ⟨st, (k.sub hs).new hp, .tup (.inl (.inl (Vw.some_iff.mpr ⟨np, upd_same⟩))) (Rps.mono (lv.trans st.vwO) q)⟩
  | fl xs =>
    obtain ⟨p, vs, rfl, hp, rfl, q⟩ := q
    have k2 := (k.sub hs).newOff (xs := vs) hp
    refine ⟨Step.new hp, k2, p, vs, rfl, List.mem_cons_self, upd_same, ?_⟩
    refine Rps.mono (lv.trans fun b u e t => ?_) q
    obtain ⟨h1, h2⟩ := Vw.some_iff.mp e
    have hb : b ≠ p := ne_of_none h2 hp
    refine Vw.some_iff.mpr ⟨fun z => ?_, by rw [upd_ne hb]; exact h2⟩
    rcases List.mem_append.mp z with z | z
    · exact h1 (List.mem_append_left _ z)
    · rcases List.mem_cons.mp z with z | z
      · exact hb z
      · exact h1 (List.mem_append_right _ z)
/-- an operation at the end -/
theorem Go.res {W : WX} {Q : V → Hp → Prop} {r : R} {H0 : Hp} (k : Ok c lc ρ σ H O Oc) (hs : Oc'.Sublist Oc) (hn : ∀ b, H b = none → H0 b = none) (h : Go c lc W σ H O Oc' (Rs.ok r ρ) (PV c lc σ Oc' H0) Q) {v : V} (q : Res c (Vw H (O ++ Oc)) H r v H') : Q v H' := by
  obtain ⟨s, p⟩ := k.res hs q
  refine h v H' O s ⟨p, fun b hb => ?_⟩
  cases r with
  | v d => cases hb
  | br i => cases hb
  | fl xs =>
    obtain ⟨p, vs, rfl, hp, _⟩ := q
    obtain rfl := List.mem_singleton.mp hb
    exact hn _ hp
theorem Step.none {O O' : List Addr} (s : Step H O H' O') {b : Addr} (h : H' b = none) : H b = none := by
  cases e : H b with
  | none => rfl
  | some u => exact absurd h (s.some (by rw [e]; simp))
theorem Go.imp {α β : Type} {W : WX} {O Oc : List Addr} {m : Rs α} {P : α → Env → β → Hp → List Addr → Prop} {Q Q' : β → Hp → Prop} (h : Go c lc W σ H O Oc m P Q) (i : ∀ v H', Q v H' → Q' v H') : Go c lc W σ H O Oc m P Q' := by
  cases m with
  | ok a ρ' => exact fun v H' O' s p => i _ _ (h v H' O' s p)
  | ex e ρ' => exact h
  | no => exact h
end
end VL
end
section
set_option maxHeartbeats 4000000
/-! V4: operations on values. -/
namespace VL
open PySem PySem.Spec PyProof.Rows L2

def rOp (c : Cf) (g : D → D → Option R) : R2 := fun x y H Q => ∃ F d e r, Le F H ∧ RC c F H d x ∧ RC c F H e y ∧ g d e = some r ∧ ∀ v H', Res c F H r v H' → Q v H'
theorem LINE_eq : (sizeLine : Nat) = LINE := sizeLine_eq
theorem binop_add {d e : D} {r : R} (h : binop .add d e = some r) : (∃ i j, d = .int i ∧ e = .int j ∧ r = .v (.int (i + j))) ∨ (∃ x y, d = .str x ∧ e = .str y ∧ x.length + y.length ≤ LINE ∧ r = .v (.str (x ++ y))) ∨
    (∃ x y, d = .lst x ∧ e = .lst y ∧ x.length + y.length ≤ LINE ∧ r = .fl (x ++ y)) ∨ (∃ x y, d = .tup x ∧ e = .tup y ∧ x.length + y.length ≤ LINE ∧ r = .v (.tup (x ++ y))) := by
  cases d <;> cases e <;> simp_all [binop]
theorem binop_sub {d e : D} {r : R} (h : binop .sub d e = some r) : ∃ i j, d = .int i ∧ e = .int j ∧ r = .v (.int (i - j)) := by
  cases d <;> cases e <;> simp_all [binop]
theorem binop_div {d e : D} {r : R} (h : binop .div d e = some r) : ∃ i j, d = .int i ∧ e = .int j ∧ (0 < j ∧ j.natAbs < wideB) ∧ r = .v (.int (i / j)) := by
  cases d <;> cases e <;> first
    | (simp [binop] at h; done)
    | (rename_i i j
       by_cases q : 0 < j ∧ j.natAbs < wideB
       · rw [show binop .div (.int i) (.int j) = some (.v (.int (i / j))) from if_pos q] at h
         exact ⟨i, j, rfl, rfl, q, (Option.some.inj h).symm⟩
       · rw [show binop .div (.int i) (.int j) = none from if_neg q] at h
         cases h)
theorem binop_mod {d e : D} {r : R} (h : binop .mod d e = some r) : ∃ i j, d = .int i ∧ e = .int j ∧ 0 < j ∧ r = .v (.int (i % j)) := by
  cases d <;> cases e <;> first
    | (simp [binop] at h; done)
    | (rename_i i j
       by_cases q : 0 < j
       · rw [show binop .mod (.int i) (.int j) = some (.v (.int (i % j))) from if_pos q] at h
         exact ⟨i, j, rfl, rfl, q, (Option.some.inj h).symm⟩
       · rw [show binop .mod (.int i) (.int j) = none from if_neg q] at h
         cases h)
theorem binop_pow {d e : D} {r : R} (h : binop .pow d e = some r) : ∃ i j, d = .int i ∧ e = .int j ∧ (0 ≤ j ∧ j ≤ 1000000 ∧ i.natAbs < 2 ^ 64) ∧ r = .v (.int (i ^ j.toNat)) := by
  cases d <;> cases e <;> first
    | (simp [binop] at h; done)
    | (rename_i i j
       by_cases q : 0 ≤ j ∧ j ≤ 1000000 ∧ i.natAbs < 2 ^ 64
       · rw [show binop .pow (.int i) (.int j) = some (.v (.int (i ^ j.toNat))) from if_pos q] at h
         exact ⟨i, j, rfl, rfl, q, (Option.some.inj h).symm⟩
       · rw [show binop .pow (.int i) (.int j) = none from if_neg q] at h
         cases h)
theorem binop_mul {d e : D} {r : R} (h : binop .mul d e = some r) : (∃ i j, d = .int i ∧ e = .int j ∧ mulOk i j = true ∧ r = .v (.int (i * j))) ∨
    (∃ x j, d = .lst x ∧ e = .int j ∧ (j < 2 ^ 62 ∧ -(2 ^ 62) < j ∧ x.length * j.toNat ≤ LINE) ∧ r = .fl (List.replicate j.toNat x).flatten) ∨
    (∃ x j, d = .tup x ∧ e = .int j ∧ (2 ≤ j ∧ j ≤ 1000 ∧ x.length ≤ 1000 ∧ x.isEmpty = false) ∧ r = .v (.tup (List.replicate j.toNat x).flatten)) := by
  cases d <;> cases e <;> first
    | (simp [binop] at h; done)
    | skip
  · rename_i i j
    by_cases q : mulOk i j = true
    · rw [show binop .mul (.int i) (.int j) = some (.v (.int (i * j))) from if_pos q] at h
      exact .inl ⟨i, j, rfl, rfl, q, (Option.some.inj h).symm⟩
    · rw [show binop .mul (.int i) (.int j) = none from if_neg q] at h
      cases h
  · rename_i x j
    by_cases q : 2 ≤ j ∧ j ≤ 1000 ∧ x.length ≤ 1000 ∧ x.isEmpty = false
    · rw [show binop .mul (.tup x) (.int j) = some (.v (.tup (List.replicate j.toNat x).flatten)) from if_pos q] at h
      exact .inr (.inr ⟨x, j, rfl, rfl, q, (Option.some.inj h).symm⟩)
    · rw [show binop .mul (.tup x) (.int j) = none from if_neg q] at h
      cases h
  · rename_i x j
    by_cases q : j < 2 ^ 62 ∧ -(2 ^ 62) < j ∧ x.length * j.toNat ≤ LINE
    · rw [show binop .mul (.lst x) (.int j) = some (.fl (List.replicate j.toNat x).flatten) from if_pos q] at h
      exact .inr (.inl ⟨x, j, rfl, rfl, q, (Option.some.inj h).symm⟩)
    · rw [show binop .mul (.lst x) (.int j) = none from if_neg q] at h
      cases h
section
variable {X : Cx} {c : Cf}
theorem sqTX (hK : X.K = c.K) {F H : Hp} (l : Le F H) {a : Addr} {xs : List V} (h : SqT c.K F a xs) : SqT X.K H a xs := by rw [hK]; exact sqT_mono l h
theorem opr_add (hK : X.K = c.K) : OpR X (binaryOp .Add) (rOp c (binop .add)) := by
  intro pins s σ H x y v u Q I rx ry ⟨F, d, e, r, l, hx, hy, hb, q⟩
  rcases binop_add hb with ⟨i, j, rfl, rfl, rfl⟩ | ⟨i, j, rfl, rfl, hz, rfl⟩ | ⟨i, j, rfl, rfl, hz, rfl⟩ | ⟨i, j, rfl, rfl, hz, rfl⟩
  · exact op_add pins s σ H x y v u Q I rx ry ⟨i, j, hx.int, hy.int, q _ _ (.inl ⟨rfl, .int _⟩)⟩
  · have a1 := hx.str
    have a2 := hy.str
    refine op_add_str pins s σ H x y v u Q I rx ry ⟨i, j, a1.1, a2.1, hz, q _ _ (.inl ⟨rfl, .str ?_⟩)⟩
    have b1 : i.cps.all (fun z => decide (z < 0x110000)) = true := a1.2
    have b2 : j.cps.all (fun z => decide (z < 0x110000)) = true := a2.2
    show (i.cps ++ j.cps).all (fun z => decide (z < 0x110000)) = true
    rw [Array.all_append, b1, b2]
    rfl
  · obtain ⟨a, vs, rfl, h1, h2⟩ := hx.lst l
    obtain ⟨b, ws, rfl, h3, h4⟩ := hy.lst l
    refine op_cat pins s σ H _ _ v u Q I rx ry ⟨a, b, vs, ws, rfl, rfl, h1, h3, ?_, fun p hp => q _ _ ⟨p, _, rfl, hp, rfl, h2.append h4⟩⟩
    rw [← h2.length, ← h4.length]; exact hz
  · obtain ⟨a, vs, rfl, h1, h2⟩ := hx.tup
    obtain ⟨b, ws, rfl, h3, h4⟩ := hy.tup
    refine op_catA pins s σ H _ _ v u Q I rx ry ⟨a, b, vs, ws, rfl, rfl, sqTX hK l h1, sqTX hK l h3, by rw [← h2.length, ← h4.length]; exact hz, fun z => ?_, fun _ z => ?_, fun _ _ p hp => q _ _ (.inr ⟨p, _, _, rfl, rfl, hp, rfl, h2.append h4⟩)⟩
    · have e : i = [] := List.length_eq_zero_iff.mp (by rw [h2.length, z]; rfl)
      subst e
      exact q _ _ (.inl ⟨rfl, .tup h3 h4⟩)
    · have e : j = [] := List.length_eq_zero_iff.mp (by rw [h4.length, z]; rfl)
      subst e
      rw [List.append_nil] at q
      exact q _ _ (.inl ⟨rfl, .tup h1 h2⟩)
theorem opr_sub (hK : X.K = c.K) : OpR X (binaryOp .Sub) (rOp c (binop .sub)) := by
  intro pins s σ H x y v u Q I rx ry ⟨F, d, e, r, l, hx, hy, hb, q⟩
  obtain ⟨i, j, rfl, rfl, rfl⟩ := binop_sub hb
  exact op_sub pins s σ H x y v u Q I rx ry ⟨i, j, hx.int, hy.int, q _ _ (.inl ⟨rfl, .int _⟩)⟩
theorem mulOk_ok {i j : Int} (h : mulOk i j = true) : IntMulOk i j := by
  unfold mulOk at h
  rw [Bool.or_eq_true, Bool.or_eq_true, Bool.and_eq_true, decide_eq_true_eq, decide_eq_true_eq, decide_eq_true_eq, decide_eq_true_eq] at h
  rcases h with (h | h) | ⟨h1, h2⟩
  · exact CMul.ok (.inl ⟨by omega, by omega⟩)
  · exact CMul.ok (.inr ⟨by omega, by omega⟩)
  · exact CMulW.ok (wide_mul h1 h2 (by decide) (by decide) (by decide))
theorem opr_mul (hK : X.K = c.K) : OpR X (binaryOp .Mult) (rOp c (binop .mul)) := by
  intro pins s σ H x y v u Q I rx ry ⟨F, d, e, r, l, hx, hy, hb, q⟩
  rcases binop_mul hb with ⟨i, j, rfl, rfl, hm, rfl⟩ | ⟨xs, j, rfl, rfl, ⟨h1, h2, h3⟩, rfl⟩ | ⟨xs, j, rfl, rfl, ⟨h1, h2, h3, h4⟩, rfl⟩
  · have e1 := hx.int
    have e2 := hy.int
    subst e1; subst e2
    obtain ⟨t, rfl⟩ := rx
    obtain ⟨t', rfl⟩ := ry
    exact mul_int ⟨.int (i * j), H, I.tok _, ⟨_, rfl⟩, q _ _ (.inl ⟨rfl, .int _⟩)⟩ (mulOk_ok hm)
  · obtain ⟨a, vs, rfl, k1, k2⟩ := hx.lst l
    refine op_rep pins s σ H _ _ v u Q I rx ry ⟨a, j, vs, rfl, hy.int, k1, by omega, by omega, by rw [← k2.length]; exact h3, fun p hp => q _ _ ⟨p, _, rfl, hp, rfl, k2.flatRep _⟩⟩
  · obtain ⟨a, vs, rfl, k1, k2⟩ := hx.tup
    refine op_repT pins s σ H _ _ v u Q I rx ry ⟨a, j, vs, rfl, hy.int, sqTX hK l k1, fun z => ?_, h1, h2, by rw [← k2.length]; exact h3, fun p hp => q _ _ (.inr ⟨p, _, _, rfl, rfl, hp, rfl, k2.flatRep _⟩)⟩
    have e : xs = [] := List.length_eq_zero_iff.mp (by rw [k2.length, z]; rfl)
    rw [e] at h4
    cases h4
theorem opr_div (hK : X.K = c.K) : OpR X (binaryOp .FloorDiv) (rOp c (binop .div)) := by
  intro pins s σ H x y v u Q I rx ry ⟨F, d, e, r, l, hx, hy, hb, q⟩
  obtain ⟨i, j, rfl, rfl, ⟨h1, h2⟩, rfl⟩ := binop_div hb
  exact op_fdivW pins s σ H x y v u Q I rx ry ⟨i, j, hx.int, hy.int, wide_div h1 h2 (by decide) (by decide), q _ _ (.inl ⟨rfl, .int _⟩)⟩
theorem opr_mod (hK : X.K = c.K) : OpR X (binaryOp .Mod) (rOp c (binop .mod)) := by
  intro pins s σ H x y v u Q I rx ry ⟨F, d, e, r, l, hx, hy, hb, q⟩
  obtain ⟨i, j, rfl, rfl, h1, rfl⟩ := binop_mod hb
  exact op_mod pins s σ H x y v u Q I rx ry ⟨i, j, hx.int, hy.int, h1, q _ _ (.inl ⟨rfl, .int _⟩)⟩
theorem opr_pow (hK : X.K = c.K) : OpR X (binaryOp .Pow) (rOp c (binop .pow)) := by
  intro pins s σ H x y v u Q I rx ry ⟨F, d, e, r, l, hx, hy, hb, q⟩
  obtain ⟨i, j, rfl, rfl, h1, rfl⟩ := binop_pow hb
  exact op_pow pins s σ H x y v u Q I rx ry ⟨i, j, hx.int, hy.int, h1, q _ _ (.inl ⟨rfl, .int _⟩)⟩

/-! ### comparisons -/
def rCm (c : Cf) (g : D → D → Option Bool) : R2 := fun x y H Q => ∃ F d e b, Le F H ∧ RC c F H d x ∧ RC c F H e y ∧ g d e = some b ∧ Q (.bl b) H
end
/-! trees as the library's data -/
mutual
def toP : D → PyData
  | .non => .none
  | .bl b => .bool b
  | .int i => .int i
  | .str s => .str s
  | .tup xs => .tuple (toPs xs)
  | .lst xs => .list (toPs xs)
  | _ => .none
def toPs : List D → List PyData
  | [] => []
  | x :: xs => toP x :: toPs xs
end
section
variable {c : Cf} {F : Hp}
mutual
theorem Rp.dp : ∀ {d : D} {v : V}, dat d = true → Rp c F d v → Dp c.K F v (toP d)
  | _, _, _, .non => .non
  | _, _, _, .bl b => .bl b
  | _, _, _, .int i => .int i
  | _, _, _, .str _ => .str _
  | _, _, n, .tup h r => .tup h (Rps.dp (by rw [dat] at n; exact n) r)
  | _, _, n, .lst h r => .lst (SqL.of h) (Rps.dp (by rw [dat] at n; exact n) r)
  | _, _, n, .dic h => by rw [dat] at n; cases n
  | _, _, n, .fn _ => by rw [dat] at n; cases n
  | _, _, n, .scr _ => by rw [dat] at n; cases n
theorem Rps.dp : ∀ {ds : List D} {vs : List V}, dats ds = true → Rps c F ds vs → DpAll c.K F vs (toPs ds)
  | _, _, _, .nil => .nil
  | _, _, n, .cons r t => by
    rw [dats, Bool.and_eq_true] at n
    exact .cons (Rp.dp n.1 r) (Rps.dp n.2 t)
end
mutual
theorem Rp.lay : ∀ {d : D} {v : V}, dat d = true → Rp c F d v → (toP d).canLay0 = true
  | _, _, _, .non => by simp [toP, PyData.canLay0]
  | _, _, _, .bl b => by simp [toP, PyData.canLay0]
  | _, _, _, .int i => by simp [toP, PyData.canLay0]
  | _, _, _, .str h => by rw [toP, PyData.canLay0]; exact h
  | _, _, n, .tup h r => by rw [toP, PyData.canLay0]; exact Rps.lay (by rw [dat] at n; exact n) r
  | _, _, n, .lst h r => by rw [toP, PyData.canLay0]; exact Rps.lay (by rw [dat] at n; exact n) r
  | _, _, n, .dic h => by rw [dat] at n; cases n
  | _, _, n, .fn _ => by rw [dat] at n; cases n
  | _, _, n, .scr _ => by rw [dat] at n; cases n
theorem Rps.lay : ∀ {ds : List D} {vs : List V}, dats ds = true → Rps c F ds vs → PyData.canLayAll0 (toPs ds) = true
  | _, _, _, .nil => by simp [toPs, PyData.canLayAll0]
  | _, _, n, .cons r t => by
    rw [dats, Bool.and_eq_true] at n
    rw [toPs, PyData.canLayAll0, Rp.lay n.1 r, Rps.lay n.2 t]
    rfl
end
end
mutual
theorem eqv_toP : ∀ d e : D, dat d = true → dat e = true → PyData.eqv (toP d) (toP e) = eqD d e
  | .non, e, _, h => by cases e <;> simp_all [toP, PyData.eqv, eqD, dat]
  | .bl _, e, _, h => by cases e <;> simp_all [toP, PyData.eqv, eqD, dat]
  | .int _, e, _, h => by cases e <;> simp_all [toP, PyData.eqv, eqD, dat]
  | .str _, e, _, h => by cases e <;> simp_all [toP, PyData.eqv, eqD, dat]
  | .tup xs, .tup ys, h1, h2 => by
    rw [dat] at h1 h2
    rw [toP, toP, PyData.eqv, eqD]
    exact eqvs_toP xs ys h1 h2
  | .lst xs, .lst ys, h1, h2 => by
    rw [dat] at h1 h2
    rw [toP, toP, PyData.eqv, eqD]
    exact eqvs_toP xs ys h1 h2
  | .tup xs, .non, _, _ => by simp [toP, PyData.eqv, eqD]
  | .tup xs, .bl _, _, _ => by simp [toP, PyData.eqv, eqD]
  | .tup xs, .int _, _, _ => by simp [toP, PyData.eqv, eqD]
  | .tup xs, .str _, _, _ => by simp [toP, PyData.eqv, eqD]
  | .tup xs, .lst _, _, _ => by simp [toP, PyData.eqv, eqD]
  | .lst xs, .non, _, _ => by simp [toP, PyData.eqv, eqD]
  | .lst xs, .bl _, _, _ => by simp [toP, PyData.eqv, eqD]
  | .lst xs, .int _, _, _ => by simp [toP, PyData.eqv, eqD]
  | .lst xs, .str _, _, _ => by simp [toP, PyData.eqv, eqD]
  | .lst xs, .tup _, _, _ => by simp [toP, PyData.eqv, eqD]
  | .tup _, .dic _, _, h => by rw [dat] at h; cases h
  | .tup _, .fn _, _, h => by rw [dat] at h; cases h
  | .tup _, .scr _, _, h => by rw [dat] at h; cases h
  | .lst _, .dic _, _, h => by rw [dat] at h; cases h
  | .lst _, .fn _, _, h => by rw [dat] at h; cases h
  | .lst _, .scr _, _, h => by rw [dat] at h; cases h
  | .dic _, _, h, _ => by rw [dat] at h; cases h
  | .fn _, _, h, _ => by rw [dat] at h; cases h
  | .scr _, _, h, _ => by rw [dat] at h; cases h
theorem eqvs_toP : ∀ ds es : List D, dats ds = true → dats es = true → PyData.eqvAll (toPs ds) (toPs es) = eqDs ds es
  | [], [], _, _ => by simp [toPs, PyData.eqvAll, eqDs]
  | [], _ :: _, _, _ => by simp [toPs, PyData.eqvAll, eqDs]
  | _ :: _, [], _, _ => by simp [toPs, PyData.eqvAll, eqDs]
  | x :: xs, y :: ys, h1, h2 => by
    rw [dats, Bool.and_eq_true] at h1 h2
    rw [toPs, toPs, PyData.eqvAll, eqDs, eqv_toP x y h1.1 h2.1, eqvs_toP xs ys h1.2 h2.2]
end
mutual
theorem flat_depth : ∀ (n : Nat) (d : D), flat n d = true → (toP d).depth ≤ n
  | 0, d, h => by cases d <;> simp_all [flat, toP, PyData.depth]
  | n + 1, .tup xs, h => by
    rw [flat] at h
    rw [toP, PyData.depth]
    have := flats_depth n xs h
    omega
  | n + 1, .lst xs, h => by
    rw [flat] at h
    rw [toP, PyData.depth]
    have := flats_depth n xs h
    omega
  | n + 1, .non, _ => by simp [toP, PyData.depth]
  | n + 1, .bl _, _ => by simp [toP, PyData.depth]
  | n + 1, .int _, _ => by simp [toP, PyData.depth]
  | n + 1, .str _, _ => by simp [toP, PyData.depth]
  | n + 1, .dic _, h => by simp [flat] at h
  | n + 1, .fn _, h => by simp [flat] at h
  | n + 1, .scr _, h => by simp [flat] at h
theorem flats_depth : ∀ (n : Nat) (ds : List D), flats n ds = true → PyData.depthAll (toPs ds) ≤ n
  | n, [], _ => by simp [toPs, PyData.depthAll]
  | n, d :: ds, h => by
    rw [flats, Bool.and_eq_true] at h
    rw [toPs, PyData.depthAll]
    have h1 := flat_depth n d h.1
    have h2 := flats_depth n ds h.2
    omega
end
theorem RC.toH {c : Cf} {F H : Hp} {d : D} {v : V} (l : Le F H) (h : RC c F H d v) : Rp c H d v := by
  rcases h with h | ⟨ds, vs, a, rfl, rfl, e, r⟩
  · exact h.mono l
  · exact .lst e (r.mono l)
theorem flatV_of {c : Cf} {F : Hp} {d : D} {v : V} (h : flat0 d = true) (r : Rp c F d v) : flatV v = true := by
  cases r <;> first | rfl | (simp [flat0] at h)
theorem eqV_of {c : Cf} {F G : Hp} {d e : D} {v w : V} (h : flat0 d = true) (h' : flat0 e = true) (r : Rp c F d v) (r' : Rp c G e w) : eqV v w = eqD d e := by
  cases r <;> cases r' <;> first
    | (simp [flat0] at h; done)
    | (simp [flat0] at h'; done)
    | simp [eqV, eqD]
theorem flatVs_of {c : Cf} {F : Hp} : ∀ {ds : List D} {vs : List V}, ds.all flat0 = true → Rps c F ds vs → vs.all flatV = true
  | _, _, _, .nil => rfl
  | _, _, h, .cons r t => by
    rw [List.all_cons, Bool.and_eq_true] at h
    rw [List.all_cons, flatV_of h.1 r, flatVs_of h.2 t]
    rfl
theorem inV_of {c : Cf} {F G : Hp} {e : D} {w : V} (h' : flat0 e = true) (r' : Rp c G e w) : ∀ {ds : List D} {vs : List V}, ds.all flat0 = true → Rps c F ds vs → inV w vs = memD e ds
  | _, _, _, .nil => rfl
  | _, _, h, .cons r t => by
    rw [List.all_cons, Bool.and_eq_true] at h
    have ih := inV_of h' r' h.2 t
    unfold inV memD at ih ⊢
    rw [List.any_cons, List.any_cons, eqV_of h.1 h' r r', ih]
theorem cm_ints {o : Cm} {d e : D} {b : Bool} (ho : o = .lt ∨ o = .le ∨ o = .gt ∨ o = .ge) (h : cmpop o d e = some b) : ∃ i j, d = .int i ∧ e = .int j := by
  rcases ho with rfl | rfl | rfl | rfl <;> (cases d <;> cases e <;> simp_all [cmpop])
theorem cm_eq {d e : D} {b : Bool} (h : cmpop .eq d e = some b) : eqOk d e = true ∧ b = eqD d e := by
  unfold cmpop at h
  by_cases q : eqOk d e = true
  · simp [q] at h; exact ⟨q, h.symm⟩
  · simp [q] at h
theorem cm_ne {d e : D} {b : Bool} (h : cmpop .ne d e = some b) : eqOk d e = true ∧ b = !eqD d e := by
  have h : (if eqOk d e = true then some (!eqD d e) else none) = some b := h
  by_cases q : eqOk d e = true
  · rw [if_pos q] at h; exact ⟨q, (Option.some.inj h).symm⟩
  · rw [if_neg q] at h; cases h
theorem cm_in {d e : D} {b : Bool} (h : cmpop .in_ d e = some b) : ∃ xs, (e = .tup xs ∨ e = .lst xs) ∧ flat0 d = true ∧ xs.all flat0 = true ∧ b = memD d xs := by
  cases e with
  | tup xs =>
    by_cases q : (flat0 d && xs.all flat0) = true
    · rw [show cmpop .in_ d (.tup xs) = some (memD d xs) from if_pos q] at h
      rw [Bool.and_eq_true] at q
      exact ⟨xs, .inl rfl, q.1, q.2, (Option.some.inj h).symm⟩
    · rw [show cmpop .in_ d (.tup xs) = none from if_neg q] at h; cases h
  | lst xs =>
    by_cases q : (flat0 d && xs.all flat0) = true
    · rw [show cmpop .in_ d (.lst xs) = some (memD d xs) from if_pos q] at h
      rw [Bool.and_eq_true] at q
      exact ⟨xs, .inr rfl, q.1, q.2, (Option.some.inj h).symm⟩
    · rw [show cmpop .in_ d (.lst xs) = none from if_neg q] at h; cases h
  | _ => simp [cmpop] at h
theorem cm_nin {d e : D} {b : Bool} (h : cmpop .nin d e = some b) : ∃ xs, (e = .tup xs ∨ e = .lst xs) ∧ flat0 d = true ∧ xs.all flat0 = true ∧ b = !memD d xs := by
  cases e with
  | tup xs =>
    by_cases q : (flat0 d && xs.all flat0) = true
    · rw [show cmpop .nin d (.tup xs) = some (!memD d xs) from if_pos q] at h
      rw [Bool.and_eq_true] at q
      exact ⟨xs, .inl rfl, q.1, q.2, (Option.some.inj h).symm⟩
    · rw [show cmpop .nin d (.tup xs) = none from if_neg q] at h; cases h
  | lst xs =>
    by_cases q : (flat0 d && xs.all flat0) = true
    · rw [show cmpop .nin d (.lst xs) = some (!memD d xs) from if_pos q] at h
      rw [Bool.and_eq_true] at q
      exact ⟨xs, .inr rfl, q.1, q.2, (Option.some.inj h).symm⟩
    · rw [show cmpop .nin d (.lst xs) = none from if_neg q] at h; cases h
  | _ => simp [cmpop] at h
theorem cm_is {d e : D} {b : Bool} (h : cmpop .is_ d e = some b) : (e = .non ∧ b = isNon d) ∨ ∃ x y, d = .bl x ∧ e = .bl y ∧ b = (x == y) := by
  cases e with
  | non => exact .inl ⟨rfl, by cases d <;> exact (Option.some.inj h).symm⟩
  | bl y => cases d with
    | bl x => exact .inr ⟨x, y, rfl, rfl, (Option.some.inj h).symm⟩
    | _ => simp [cmpop] at h
  | _ => cases d <;> simp [cmpop] at h
theorem cm_isn {d e : D} {b : Bool} (h : cmpop .isn d e = some b) : (e = .non ∧ b = !isNon d) ∨ ∃ x y, d = .bl x ∧ e = .bl y ∧ b = !(x == y) := by
  cases e with
  | non => exact .inl ⟨rfl, by cases d <;> exact (Option.some.inj h).symm⟩
  | bl y => cases d with
    | bl x => exact .inr ⟨x, y, rfl, rfl, (Option.some.inj h).symm⟩
    | _ => simp [cmpop] at h
  | _ => cases d <;> simp [cmpop] at h
section
variable {X : Cx} {c : Cf}
/-- the operator of a comparison -/
def cmOf : Cm → CmpOp
  | .lt => .Lt | .le => .LtE | .gt => .Gt | .ge => .GtE | .eq => .Eq | .ne => .NotEq | .in_ => .In | .nin => .NotIn | .is_ => .Is | .isn => .IsNot
theorem eq_rds {F H : Hp} {pins : List (Addr × Obj)} {s : Shared} {σ : SS} {d : D} {x : V} {v : Value} (hK : X.K = c.K) (I : Inv X pins σ H s) (l : Le F H) (h : RC c F H d x) (n : dat d = true) (r : RelV x v) : ∃ as, Reads s.heap v (toP d) as :=
  Dp.reads I (toP d) x v (by rw [hK]; exact (h.toH l).dp n) r
theorem rC_dp {A : Around} {d e : D} (h : eqOk d e = true) (hu : A.units + 190 < cLine) : dat d = true ∧ dat e = true ∧ A.units + min (toP d).depth (toP e).depth < cLine := by
  unfold eqOk at h
  rw [Bool.and_eq_true, Bool.and_eq_true, Bool.or_eq_true] at h
  refine ⟨h.1.1, h.1.2, ?_⟩
  rcases h.2 with q | q
  · have := flat_depth _ _ q; omega
  · have := flat_depth _ _ q; omega
theorem opr_cm (hK : X.K = c.K) (hu : X.A.units + 190 < cLine) : ∀ o : Cm, OpR X (compareOp (cmOf o)) (rCm c (cmpop o))
  | .lt => by
    intro pins s σ H x y v u Q I rx ry ⟨F, d, e, b, l, hx, hy, hb, q⟩
    obtain ⟨i, j, rfl, rfl⟩ := cm_ints (by simp) hb
    cases hb
    exact op_lt pins s σ H x y v u Q I rx ry ⟨i, j, hx.int, hy.int, q⟩
  | .le => by
    intro pins s σ H x y v u Q I rx ry ⟨F, d, e, b, l, hx, hy, hb, q⟩
    obtain ⟨i, j, rfl, rfl⟩ := cm_ints (by simp) hb
    cases hb
    exact op_le pins s σ H x y v u Q I rx ry ⟨i, j, hx.int, hy.int, q⟩
  | .gt => by
    intro pins s σ H x y v u Q I rx ry ⟨F, d, e, b, l, hx, hy, hb, q⟩
    obtain ⟨i, j, rfl, rfl⟩ := cm_ints (by simp) hb
    cases hb
    exact op_gt pins s σ H x y v u Q I rx ry ⟨i, j, hx.int, hy.int, q⟩
  | .ge => by
    intro pins s σ H x y v u Q I rx ry ⟨F, d, e, b, l, hx, hy, hb, q⟩
    obtain ⟨i, j, rfl, rfl⟩ := cm_ints (by simp) hb
    cases hb
    exact op_ge pins s σ H x y v u Q I rx ry ⟨i, j, hx.int, hy.int, q⟩
  | .eq => by
    intro pins s σ H x y v u Q I rx ry ⟨F, d, e, b, l, hx, hy, hb, q⟩
    obtain ⟨k, rfl⟩ := cm_eq hb
    obtain ⟨n1, n2, hr⟩ := rC_dp k hu
    obtain ⟨as, r1⟩ := eq_rds hK I l hx n1 rx
    obtain ⟨bs, r2⟩ := eq_rds hK I l hy n2 ry
    exact SeqAt.compareEq_reads r1 r2 ((hx.toH l).lay n1) ((hy.toH l).lay n2) hr ⟨.bl _, H, I, rfl, by rw [eqv_toP d e n1 n2]; exact q⟩
  | .ne => by
    intro pins s σ H x y v u Q I rx ry ⟨F, d, e, b, l, hx, hy, hb, q⟩
    obtain ⟨k, rfl⟩ := cm_ne hb
    obtain ⟨n1, n2, hr⟩ := rC_dp k hu
    obtain ⟨as, r1⟩ := eq_rds hK I l hx n1 rx
    obtain ⟨bs, r2⟩ := eq_rds hK I l hy n2 ry
    exact SeqAt.compareNe_reads r1 r2 ((hx.toH l).lay n1) ((hy.toH l).lay n2) hr ⟨.bl _, H, I, rfl, by rw [eqv_toP d e n1 n2]; exact q⟩
  | .in_ => by
    intro pins s σ H x y v u Q I rx ry ⟨F, d, e, b, l, hx, hy, hb, q⟩
    obtain ⟨xs, ht, f1, f2, rfl⟩ := cm_in hb
    rcases ht with rfl | rfl
    · obtain ⟨a, vs, rfl, h1, h2⟩ := hy.tup
      refine op_in_seq pins s σ H x _ v u Q I rx ry ⟨a, vs, rfl, .inr (sqTX hK l h1), flatV_of f1 (hx.toH l), flatVs_of f2 h2, ?_⟩
      rw [if_neg Bool.false_ne_true, inV_of f1 (hx.toH l) f2 h2]; exact q
    · obtain ⟨a, vs, rfl, h1, h2⟩ := hy.lst l
      refine op_in_seq pins s σ H x _ v u Q I rx ry ⟨a, vs, rfl, .inl (SqL.of h1), flatV_of f1 (hx.toH l), flatVs_of f2 h2, ?_⟩
      rw [if_neg Bool.false_ne_true, inV_of f1 (hx.toH l) f2 h2]; exact q
  | .nin => by
    intro pins s σ H x y v u Q I rx ry ⟨F, d, e, b, l, hx, hy, hb, q⟩
    obtain ⟨xs, ht, f1, f2, rfl⟩ := cm_nin hb
    rcases ht with rfl | rfl
    · obtain ⟨a, vs, rfl, h1, h2⟩ := hy.tup
      refine op_notIn_seq pins s σ H x _ v u Q I rx ry ⟨a, vs, rfl, .inr (sqTX hK l h1), flatV_of f1 (hx.toH l), flatVs_of f2 h2, ?_⟩
      rw [if_pos rfl, inV_of f1 (hx.toH l) f2 h2]; exact q
    · obtain ⟨a, vs, rfl, h1, h2⟩ := hy.lst l
      refine op_notIn_seq pins s σ H x _ v u Q I rx ry ⟨a, vs, rfl, .inl (SqL.of h1), flatV_of f1 (hx.toH l), flatVs_of f2 h2, ?_⟩
      rw [if_pos rfl, inV_of f1 (hx.toH l) f2 h2]; exact q
  | .is_ => by
    intro pins s σ H x y v u Q I rx ry ⟨F, d, e, b, l, hx, hy, hb, q⟩
    rcases cm_is hb with ⟨rfl, rfl⟩ | ⟨p, q', rfl, rfl, rfl⟩
    · refine op_isN pins s σ H x y v u Q I rx ry ⟨hy.non, ?_⟩
      have z : decide (x = V.non) = isNon d := by
        cases hx.toH l <;> simp [isNon]
      rw [z]; exact q
    · refine op_isBl pins s σ H x y v u Q I rx ry ⟨p, q', hx.bl, hy.bl, ?_⟩
      rw [show decide (p = q') = (p == q') by cases p <;> cases q' <;> rfl]; exact q
  | .isn => by
    intro pins s σ H x y v u Q I rx ry ⟨F, d, e, b, l, hx, hy, hb, q⟩
    rcases cm_isn hb with ⟨rfl, rfl⟩ | ⟨p, q', rfl, rfl, rfl⟩
    · refine op_notN pins s σ H x y v u Q I rx ry ⟨hy.non, ?_⟩
      have z : (!decide (x = V.non)) = (!isNon d) := by
        cases hx.toH l <;> simp [isNon]
      rw [z]; exact q
    · refine op_notBl pins s σ H x y v u Q I rx ry ⟨p, q', hx.bl, hy.bl, ?_⟩
      rw [show decide (p = q') = (p == q') by cases p <;> cases q' <;> rfl]; exact q
end
end VL
end
section
set_option maxHeartbeats 4000000
/-! V5: expressions. -/
namespace VL
open PySem PySem.Spec PyProof.Rows L2

/-! ### a def's promise -/
def lentO (io : Bool) (pl : Addr) : List Addr := if io then [pl] else []
/-- the arguments: the first may be the caller's own list -/
def ArgR (c : Cf) (H : Hp) (Oc : List Addr) (pl : Addr) (xs : List D) (vl : List V) : Bool → List D → List V → Prop
  | false, ds, vs => Rps c (Vw H Oc) ds vs
  | true, ds, vs => ∃ ds' vs', ds = .lst xs :: ds' ∧ vs = .ref pl :: vs' ∧ H pl = some (.lst vl) ∧ Rps c (Vw H (pl :: Oc)) xs vl ∧ Rps c (Vw H (pl :: Oc)) ds' vs'
def FinR (c : Cf) (H : Hp) (Oc : List Addr) (pl : Addr) (xs : List D) (vl : List V) : Bool → D → Prop
  | false, _ => True
  | true, d => ∃ ys wl, d = .lst ys ∧ H pl = some (.lst wl) ∧ Rps c (Vw H (pl :: Oc)) ys wl ∧ Kp xs vl ys wl
/-- behind a call -/
def EndR (c : Cf) (H : Hp) (L : List Addr) (Q : VK) (E : XK) (H' : Hp) : Rt → Prop
  | .v d => ∀ v, Rp c (Vw H' L) d v → Q v H'
  | .fl xs => ∀ p vs, H p = none → H' p = some (.lst vs) → Rps c (Vw H' (p :: L)) xs vs → Q (.ref p) H'
  | .ex e => ∀ cls d, XR c e cls d → E cls d H'
def spF (c : Cf) (T : Th) (f : Nat) : Sp := fun vs H Q E => ∃ ds pl Oc rt cc xs vl, ArgR c H Oc pl xs vl (T.io f) ds vs ∧ (lentO (T.io f) pl ++ Oc).Nodup ∧ (∀ b ∈ Oc, ∃ u, H b = some u ∧ isOff u) ∧ LamX.Tabs c.T H ∧
  T.fn f ds = some (rt, cc) ∧ ∀ H', Step H (lentO (T.io f) pl) H' (lentO (T.io f) pl) → LamX.Tabs c.T H' → FinR c H' Oc pl xs vl (T.io f) cc → EndR c H (lentO (T.io f) pl ++ Oc) Q E H' rt

/-! ### the context -/
/-- the names of the text: constants, defs, classes, tables, built-in names that stand -/
structure Nm where
  cons : List (Str × D)
  fns : List (Str × Nat)
  cls : List (Str × Nat)
  tabs : List (Str × List (Str × D))
  free : List Str
  /-- no exception is held: loops, sums .. may stand -/
  calm : Bool
  /-- the classes without an own __init__ -/
  own : List Nat
  /-- the defs that take a thunk -/
  wds : List (Str × Nat)
  /-- a lambda may stand here -/
  lam : Bool
/-- a table of the text at d -/
def TabOk (c : Cf) (X : Cx) (d : Addr) (t : List (Str × D)) : Prop := (∃ es n, KDict X.K X.w d es n) ∧ ∀ z : Str, ∃ r, PySem.W.nsIn X.K d z = some r ∧ match tabGet z t with
  | none => r = none
  | some dv => ∃ u v, r = some u ∧ RelV v u ∧ Rp c (fun _ => none) dv v
/-- what the bases of a plain own class are -/
abbrev bmV : List Value := [.type "ValueError", .type "Exception", .type "BaseException", .type "object"]
/-- the classes of the text: number 0 is ValueError -/
structure ClsF (C : Nat → Addr) (K : PySem.W.Frag) (mg : Str → Option Value) (cls : List (Str × Nat)) (own : List Nat) (sub : Nat → Nat → Bool) : Prop where
  gm : ∀ p ∈ cls, mg p.1 = some (.ref (C p.2))
  kp : ∀ p ∈ cls, PySem.W.keepIn K (.ref (C p.2)) = true
  exc : ∀ p ∈ cls, ExcC K (C p.2)
  ty : ∀ p ∈ cls, PySem.W.typeIn K (.ref (C p.2)) = some (.type "type")
  kit : ∀ p ∈ cls, ∀ q ∈ cls, PySem.W.kitOne K (.ref (C p.2)) (.ref (C q.2)) = some (sub p.2 q.2)
  exm : ∀ p ∈ cls, ∀ q ∈ cls, PySem.W.exmOne K (.ref (C p.2)) (.ref (C q.2)) = some (sub p.2 q.2)
  kitV : ∀ p ∈ cls, PySem.W.kitOne K (.ref (C p.2)) (.type "ValueError") = some (sub p.2 0)
  known : ∀ a b, sub a b = true → ∃ p ∈ cls, p.2 = a
  own : ∀ p ∈ cls, p.2 ∈ own → PySem.W.excIn K (C p.2) bmV "ValueError.__new__" = true
abbrev TlT := XK → Hp → VK → Prop
/-- what is off limits may stand -/
structure OffOk (c : Cf) (H : Hp) (Oc : List Addr) : Prop where
  nd : Oc.Nodup
  off : ∀ b ∈ Oc, ∃ u, H b = some u ∧ isOff u
  tabs : LamX.Tabs c.T H
/-- behind the thunk: d may be handed back -/
def Rst (c : Cf) (d : D) (Q : VK) (H' : Hp) : Prop := ∃ Oc, OffOk c H' Oc ∧ ∀ v H'', Step H' [] H'' [] → LamX.Tabs c.T H'' → Rp c (Vw H'' Oc) d v → Q v H''
/-- what a def makes of a thunk -/
def TTw (c : Cf) (T : Th) (f : Nat) : TlT → Hp → VK → Prop := fun tl H Q => ∃ o d, T.wd f o = some d ∧ ∀ (E : XK) (Q' : VK), (∀ cls dd H', (∃ e, o = some e ∧ XR c e cls dd ∧ Rst c d Q H') → E cls dd H') → (∀ v H', o = none → Rst c d Q H' → Q' v H') → tl E H Q'
abbrev lamQ (X : Cx) : Str := X.env.qual ++ "<lambda>"
/-- a def that takes a thunk, as the state knows it -/
structure WdAt (X : Cx) (x a : Str) (g : Addr) (Ng : List Str) (bg : List Stmt) (sg : Scope) (cdv : Value) (TT : TlT → Hp → VK → Prop) : Prop where
  gm : X.mg x = some (.ref g)
  kp : PySem.W.keepIn X.K (.ref g) = true
  lk : ∃ oc od pg dV kV doc pm ct an osl, X.K.lookup g = some ⟨oc, od, .func (PySem.W.fnOf x x pg bg sg dV kV doc pm an cdv ct), osl⟩ ∧ Binds X.K (PySem.W.fnOf x x pg bg sg dV kV doc pm an cdv ct) [a] []
  cd : PySem.W.codeIn X.K cdv x = true
  S : FnScope Ng [a] sg
  n0 : Ng[0]? = some a
  va : Vis sg a
  d1 : (a == ("__debug__" : Str)) = false
  d2 : (a == ("__classdict__" : Str)) = false
  gives : LamX.GivesTo X Ng x sg g cdv bg a (lamQ X) TT
structure Cok (c : Cf) (T : Th) (nm : Nm) (k : Nat) (N : List Str) (sc : Scope) (X : Cx) (W : WX) (lc : Lc) : Prop where
  hK : X.K = c.K
  hN : X.N = N
  nd : N.Nodup
  hsc : X.env.scope = sc
  room : nm.calm = true → Room (3 * k) X.A
  room2 : nm.lam = true → Room (3 * k + 2) X.A
  lam : nm.lam = true → ∃ c0 P, X.env.code = .ref c0 ∧ LamX.TabB X.base X.mg c0 P ∧ (P, lamQ X) ∈ c.T ∧ ∀ p ∈ c.T, p.1 = P → p.2 = lamQ X
  wd : ∀ p ∈ nm.wds, ∃ a g Ng bg sg cdv, ∀ Y : Cx, Y.prog = X.prog → Y.w = X.w → Y.K = X.K → Y.mg = X.mg → Y.base = X.base → Room (3 * k + 2) Y.A → WdAt Y p.1 a g Ng bg sg cdv (TTw c T p.2)
  un : X.A.units + 190 < cLine
  calm : nm.calm = true → X.calm = true
  tk : Takes X W
  con : ∀ p ∈ nm.cons, ∃ u v, X.mg p.1 = some u ∧ RelV v u ∧ Rp c (fun _ => none) p.2 v
  fnm : ∀ p ∈ nm.fns, X.mg p.1 = some (.ref (c.A p.2))
  free : ∀ x ∈ nm.free, X.mg x = none
  tab : ∀ p ∈ nm.tabs, ∃ d, X.mg p.1 = some (.ref d) ∧ TabOk c X d p.2
  kp : ∀ n, PySem.W.keepIn X.K (.ref (c.A n)) = true
  cl : ClsF c.C X.K X.mg nm.cls nm.own T.sub
  zex : nm.calm = false → ∀ e x, lc.Z (.ex e) x → ∃ a, x = some (V.ref a) ∧ (∃ p ∈ nm.cls, p.2 = e.cls) ∧ CallR X (.builtin "isinstance") (rIsE X.K (c.C e.cls) a)
  call : ∀ f ds r, T.fn f ds = some r → ∃ fd ps, FnOk X.prog X.w X.K X.mg X.base (L2.CX X.prog X.w) (3 * k) (c.A f) fd ps (spF c T f) ∧ Binds X.K fd ps []
variable {nm : Nm} {N : List Str} {sc : Scope}
def JE (nm : Nm) (N : List Str) (sc : Scope) (e : Expr) (E : E) : Prop := ∀ (c : Cf) (T : Th) (k : Nat) (X : Cx) (W : WX) (lc : Lc), Cok c T nm k N sc X W lc → PE X e (rE c lc W (den T E).v)
def JT (nm : Nm) (N : List Str) (sc : Scope) (e : Expr) (E : E) : Prop := ∀ (c : Cf) (T : Th) (k : Nat) (X : Cx) (W : WX) (lc : Lc), Cok c T nm k N sc X W lc → PT X e (rT c lc W (den T E).t)
def notStar : Expr → Bool
  | .Starred _ _ => false
  | .Set _ _ _ => false
  | _ => true
structure J (nm : Nm) (N : List Str) (sc : Scope) (e : Expr) (E : E) : Prop where
  je : JE nm N sc e E
  jt : JT nm N sc e E
  js : notStar e = true
structure JA (nm : Nm) (N : List Str) (sc : Scope) (es : List Expr) (Es : List E) : Prop where
  a : ∀ (c : Cf) (T : Th) (k : Nat) (X : Cx) (W : WX) (lc : Lc), Cok c T nm k N sc X W lc → PA X es (rA c lc W (evs T Es))
  f : ∀ (c : Cf) (T : Th) (k : Nat) (X : Cx) (W : WX) (lc : Lc), Cok c T nm k N sc X W lc → PA X es (rF c lc W (evf T Es))
  s : es.all notStar = true
theorem starE_cons {e : Expr} {es : List Expr} {env : PySem.Env} (h : notStar e = true) : starEach (e :: es) env = (false, eval e env) :: starEach es env := by
  cases e <;> first | rfl | (cases h)
theorem star_any {pos : Pos} {env : PySem.Env} : ∀ {es : List Expr}, es.all notStar = true → (backTo pos (starEach es env)).any (·.1) = false
  | [], _ => rfl
  | e :: es, h => by
    rw [List.all_cons, Bool.and_eq_true] at h
    rw [starE_cons h.1]
    show (false || (backTo pos (starEach es env)).any (·.1)) = false
    rw [star_any h.2]
    rfl
/-! ### truth -/
theorem truV_of {c : Cf} {K : PySem.W.Frag} (hK : K = c.K) {F H : Hp} {d : D} {v : V} {b : Bool} (l : Le F H) (h : RC c F H d v) (t : truth d = some b) : TruV K v H b := by
  subst hK
  cases d with
  | non => rw [h.non]; cases t; rfl
  | bl i => rw [h.bl]; cases t; rfl
  | int i => rw [h.int]; cases t; rfl
  | tup xs =>
    obtain ⟨a, vs, rfl, h1, h2⟩ := h.tup
    cases t
    refine .inr (.inl ⟨vs, sqT_mono l h1, ?_⟩)
    cases h2 <;> rfl
  | lst xs =>
    obtain ⟨a, vs, rfl, h1, h2⟩ := h.lst l
    cases t
    refine .inl ⟨vs, SqL.of h1, ?_⟩
    cases h2 <;> rfl
  | _ => cases t
theorem pend_sub {c : Cf} {lc : Lc} {ρ : Env} {σ : SS} {H : Hp} {O Oc : List Addr} {r : R} {v : V} (k : Ok c lc ρ σ H O (pend r v ++ Oc)) : Ok c lc ρ σ H O Oc := k.sub (List.sublist_append_right _ _)
/-- by its truth -/
theorem jt_of {e : Expr} {E : E} (h : JE nm N sc e E) (hd : ∀ T, (den T E).t = fun ρ => ((den T E).v ρ).bind asTruth) (he : ∀ env whole, isTrue e env whole = (do let v ← whole; standAt e.pos; holding [v] (truthy v))) : JT nm N sc e E := by
  intro c T k X W lc C
  refine PT.imp (pt_truth (h c T k X W lc C) (he _)) fun σ H Q ⟨ρ, O, Oc, ok, g⟩ => ⟨ρ, O, Oc, ok, ?_⟩
  rw [hd] at g
  refine (Go.bind [] g).imp fun v H1 ⟨r, ρ1, O1, st, ⟨pr, _⟩, g1⟩ => ?_
  have pr : PR c lc ρ1 σ H1 O1 ([] ++ Oc) r v := pr
  unfold asTruth at g1
  cases hl : look ρ1 r with
  | none => rw [hl] at g1; exact g1.elim
  | some d =>
    rw [hl] at g1
    cases ht : truth d with
    | none => rw [show (some d).bind truth = none from ht] at g1; exact g1.elim
    | some b =>
      rw [show (some d).bind truth = some b from ht] at g1
      exact ⟨b, truV_of C.hK (Vw.le _ _) (pr.ok.look pr.rr hl) ht, g1 b H1 O1 (Step.refl _ _) ⟨rfl, pend_sub pr.ok⟩⟩
/-! ### names and constants -/
theorem go_v {c : Cf} {lc : Lc} {W : WX} {ρ : Env} {σ : SS} {H H0 : Hp} {O Oc : List Addr} {d : D} {v : V} {Q : VK} (g : Go c lc W σ H O Oc (Rs.ok (R.v d) ρ) (PV c lc σ Oc H0) Q) (k : Ok c lc ρ σ H O Oc) (r : Rp c (Vw H (O ++ Oc)) d v) : Q v H :=
  g v H O (Step.refl _ _) ⟨⟨k, r⟩, fun b hb => by cases hb⟩
theorem je_var {i : Nat} {x : Str} {pos : Pos} (hN : N[i]? = some x) (hv : Vis sc x) (hd : (x == ("__debug__" : Str)) = false) (hcd : (x == ("__classdict__" : Str)) = false) : JE nm N sc (.Name x pos) (.var i) := by
  intro c T k X W lc C
  refine PE.imp (pe_var (by rw [C.hN]; exact hN) (by rw [C.hsc]; exact hv) hd hcd) fun σ H Q ⟨ρ, O, Oc, ok, g⟩ => ?_
  rw [den] at g
  simp only [Den.of] at g
  cases e : ρ[i]? with
  | none => rw [e] at g; exact g.elim
  | some s =>
    rw [e] at g
    cases s with
    | v d =>
      obtain ⟨v, h1, h2⟩ := ok.atV e
      exact ⟨v, h1, go_v g ok h2⟩
    | ol xs =>
      obtain ⟨p, vs, h1, _, _, _⟩ := ok.atO e
      exact ⟨_, h1, g _ H O (Step.refl _ _) ⟨⟨ok, h1⟩, fun b hb => by cases hb⟩⟩
    | ln xs =>
      obtain ⟨vs, h1, _, _, _⟩ := ok.atL e
      exact ⟨_, h1, g _ H O (Step.refl _ _) ⟨⟨ok, h1⟩, fun b hb => by cases hb⟩⟩
    | _ => exact g.elim
theorem j_var {i : Nat} {x : Str} {pos : Pos} (hN : N[i]? = some x) (hv : Vis sc x) (hd : (x == ("__debug__" : Str)) = false) (hcd : (x == ("__classdict__" : Str)) = false) : J nm N sc (.Name x pos) (.var i) :=
  ⟨je_var hN hv hd hcd, jt_of (je_var hN hv hd hcd) (fun _ => by rw [den] <;> rfl) fun _ _ => rfl, rfl⟩
theorem je_con {e : Expr} {d : D} (h : ∀ X, PE X e (tC (match d with | .bl b => .bl b | .int i => .int i | .str s => .str s | _ => .non))) (hd : match d with | .non => True | .bl _ => True | .int _ => True | .str s => PyData.strOk s = true | _ => False) : JE nm N sc e (.con d) := by
  intro c T k X W lc C
  refine PE.imp (h X) fun σ H Q ⟨ρ, O, Oc, ok, g⟩ => ?_
  rw [den] at g
  cases d with
  | non => exact go_v g ok .non
  | bl b => exact go_v g ok (.bl b)
  | int b => exact go_v g ok (.int b)
  | str b => exact go_v g ok (.str hd)
  | _ => exact hd.elim
theorem j_none {j pos} : J nm N sc (.Constant .none j pos) (.con .non) :=
  have h : JE nm N sc (.Constant .none j pos) (.con .non) := je_con (fun _ => pe_non) trivial
  ⟨h, jt_of h (fun _ => by rw [den] <;> rfl) fun _ _ => rfl, rfl⟩
theorem j_bl {b j pos} : J nm N sc (.Constant (.bool b) j pos) (.con (.bl b)) :=
  have h : JE nm N sc (.Constant (.bool b) j pos) (.con (.bl b)) := je_con (fun _ => pe_bl) trivial
  ⟨h, jt_of h (fun _ => by rw [den] <;> rfl) fun _ _ => rfl, rfl⟩
theorem j_int {b j pos} : J nm N sc (.Constant (.int b) j pos) (.con (.int b)) :=
  have h : JE nm N sc (.Constant (.int b) j pos) (.con (.int b)) := je_con (fun _ => pe_int) trivial
  ⟨h, jt_of h (fun _ => by rw [den] <;> rfl) fun _ _ => rfl, rfl⟩
theorem j_str {b j pos} (hs : PyData.strOk b = true) : J nm N sc (.Constant (.str b) j pos) (.con (.str b)) :=
  have h : JE nm N sc (.Constant (.str b) j pos) (.con (.str b)) := je_con (fun _ => pe_str) hs
  ⟨h, jt_of h (fun _ => by rw [den] <;> rfl) fun _ _ => rfl, rfl⟩
theorem le_empty (F : Hp) : Le (fun _ => none) F := fun _ _ h _ => by cases h
theorem j_glo {x : Str} {d : D} {pos : Pos} (hm : (x, d) ∈ nm.cons) (hg : sc.names.lookup x = some .globalImplicit) (hd : (x == ("__debug__" : Str)) = false) : J nm N sc (.Name x pos) (.glo d) := by
  have h : JE nm N sc (.Name x pos) (.glo d) := by
    intro c T k X W lc C
    obtain ⟨u, v, h1, h2, h3⟩ := C.con _ hm
    refine PE.imp (pe_glob (show X.env.scope.names.lookup x = _ by rw [C.hsc]; exact hg) h1 h2 hd) fun σ H Q ⟨ρ, O, Oc, ok, g⟩ => ?_
    rw [den] at g
    exact go_v g ok (h3.mono (le_empty _))
  exact ⟨h, jt_of h (fun _ => by rw [den] <;> rfl) fun _ _ => rfl, rfl⟩
theorem j_fnv {x : Str} {f : Nat} {pos : Pos} (hm : (x, f) ∈ nm.fns) (hg : sc.names.lookup x = some .globalImplicit) (hd : (x == ("__debug__" : Str)) = false) : J nm N sc (.Name x pos) (.fnv f) := by
  have h : JE nm N sc (.Name x pos) (.fnv f) := by
    intro c T k X W lc C
    refine PE.imp (pe_glob (v := .ref (c.A f)) (show X.env.scope.names.lookup x = _ by rw [C.hsc]; exact hg) (C.fnm _ hm) rfl hd) fun σ H Q ⟨ρ, O, Oc, ok, g⟩ => ?_
    rw [den] at g
    exact go_v g ok (.fn f)
  exact ⟨h, jt_of h (fun _ => by rw [den] <;> rfl) fun _ _ => rfl, rfl⟩
/-- a last part's end -/
theorem pv_start {c : Cf} {lc : Lc} {W : WX} {σ : SS} {H H0 : Hp} {O O0 Oc : List Addr} {m : Rs R} {Q : VK} (st : Step H0 O0 H O) (g : Go c lc W σ H O Oc m (PV c lc σ Oc H0) Q) : Go c lc W σ H O Oc m (PV c lc σ Oc H) Q := by
  cases m with
  | ok a ρ' => exact fun v H' O' s p => g v H' O' s ⟨p.1, fun b hb => st.none (p.2 b hb)⟩
  | ex e ρ' => exact g
  | no => exact g
/-! ### two operands -/
section
variable {β γ : Type} {c : Cf} {lc : Lc} {W : WX} {ρ : Env} {σ : SS} {H H0 : Hp} {O Oc : List Addr} {Q : β → Hp → Prop} {T : Th}
/-- two values behind one another -/
theorem go2 {fa fb : Env → Rs R} {kk : R → R → Env → Rs γ} {PQ : γ → Env → β → Hp → List Addr → Prop}
    (g : Go c lc W σ H O Oc ((fa ρ).bind fun x ρ1 => (fb ρ1).bind fun y ρ2 => kk x y ρ2) PQ Q) (ok : Ok c lc ρ σ H O Oc) {R2' : V → V → Hp → Prop}
    (hk : ∀ x y v w ρ2 H2 O2, Step H O H2 O2 → Ok c lc ρ2 σ H2 O2 (pend y w ++ (pend x v ++ Oc)) → RR c σ H2 O2 (pend y w ++ (pend x v ++ Oc)) x v → RR c σ H2 O2 (pend y w ++ (pend x v ++ Oc)) y w → (∀ b ∈ pend y w ++ pend x v, H b = none) →
      Go c lc W σ H2 O2 Oc (kk x y ρ2) PQ Q → R2' v w H2) :
    rE c lc W fa σ H fun v H1 => rE c lc W fb σ H1 fun w H2 => R2' v w H2 := by
  refine ⟨ρ, O, Oc, ok, (Go.bind [] g).imp fun v H1 ⟨x, ρ1, O1, st1, ⟨pr1, n1⟩, g1⟩ => ?_⟩
  have pr1 : PR c lc ρ1 σ H1 O1 Oc x v := pr1
  refine ⟨ρ1, O1, pend x v ++ Oc, pr1.ok, (Go.bind (pend x v) g1).imp fun w H2 ⟨y, ρ2, O2, st2, ⟨pr2, n2⟩, g2⟩ => ?_⟩
  refine hk x y v w ρ2 H2 O2 (st1.trans st2) pr2.ok (pr1.rr.later st2 pr1.ok.dis (fun b hb => List.mem_append_right _ hb) fun b hb => ?_) pr2.rr (fun b hb => ?_) g2
  · rcases List.mem_append.mp hb with z | z
    · exact .inr (n2 b z)
    · exact .inl z
  · rcases List.mem_append.mp hb with z | z
    · exact st1.none (n2 b z)
    · exact n1 b z
end
theorem subl2 {a b c : List Addr} : c.Sublist (a ++ (b ++ c)) := (List.sublist_append_right b c).trans (List.sublist_append_right a (b ++ c))
theorem j_bin {e1 e2 : Expr} {E1 E2 : E} {o : Op} {o' : Operator} {pos : Pos} (ho : ∀ (X : Cx) (c : Cf), X.K = c.K → OpR X (binaryOp o') (rOp c (binop o))) (h1 : J nm N sc e1 E1) (h2 : J nm N sc e2 E2) : J nm N sc (.BinOp e1 o' e2 pos) (.bin o E1 E2) := by
  have h : JE nm N sc (.BinOp e1 o' e2 pos) (.bin o E1 E2) := by
    intro c T k X W lc C
    refine PE.imp (pe_op (ho X c C.hK) (h1.je c T k X W lc C) (h2.je c T k X W lc C)) fun σ H Q ⟨ρ, O, Oc, ok, g⟩ => ?_
    rw [den] at g
    simp only [Den.of] at g
    refine go2 (R2' := fun v w H2 => rOp c (binop o) v w H2 Q) g ok fun x y v w ρ2 H2 O2 st ok2 r1 r2 n g2 => ?_
    cases l1 : look ρ2 x with
    | none => rw [l1] at g2; exact g2.elim
    | some d =>
      cases l2 : look ρ2 y with
      | none => rw [l1, l2] at g2; exact g2.elim
      | some e =>
        rw [l1, l2] at g2
        cases hb : binop o d e with
        | none => rw [show ((some d).bind fun d => (some e).bind fun e => binop o d e) = none from hb] at g2; exact g2.elim
        | some r =>
          rw [show ((some d).bind fun d => (some e).bind fun e => binop o d e) = some r from hb] at g2
          exact ⟨_, d, e, r, Vw.le _ _, ok2.look r1 l1, ok2.look r2 l2, hb, fun v' H' q => Go.res ok2 subl2 (fun b hb => st.none hb) g2 q⟩
  exact ⟨h, jt_of h (fun _ => by rw [den] <;> rfl) fun _ _ => rfl, rfl⟩
theorem noMark {e : Expr} (h : notStar e = true) (op : CmpOp) : behindInMarks op e = false := by
  cases e <;> first | rfl | (cases h)
theorem j_neg {e1 : Expr} {E1 : E} {pos : Pos} (h1 : J nm N sc e1 E1) : J nm N sc (.UnaryOp .USub e1 pos) (.neg E1) := by
  have h : JE nm N sc (.UnaryOp .USub e1 pos) (.neg E1) := by
    intro c T k X W lc C
    refine PE.imp (pe_un un_neg (h1.je c T k X W lc C)) fun σ H Q ⟨ρ, O, Oc, ok, g⟩ => ?_
    rw [den] at g
    simp only [Den.of] at g
    refine ⟨ρ, O, Oc, ok, (Go.bind [] g).imp fun v H1 ⟨x, ρ1, O1, st, ⟨pr, _⟩, g1⟩ => ?_⟩
    have pr : PR c lc ρ1 σ H1 O1 Oc x v := pr
    cases l1 : look ρ1 x with
    | none => rw [l1] at g1; exact g1.elim
    | some d =>
      rw [l1] at g1
      cases d with
      | int i => exact ⟨i, (pr.ok.look pr.rr l1).int, go_v g1 (pend_sub pr.ok) (.int _)⟩
      | _ => exact g1.elim
  exact ⟨h, jt_of h (fun _ => by rw [den] <;> rfl) fun _ _ => rfl, rfl⟩
theorem j_not {e1 : Expr} {E1 : E} {pos : Pos} (h1 : J nm N sc e1 E1) : J nm N sc (.UnaryOp .Not e1 pos) (.not E1) := by
  refine ⟨?_, ?_, rfl⟩
  · intro c T k X W lc C
    refine PE.imp (pe_notT (h1.je c T k X W lc C)) fun σ H Q ⟨ρ, O, Oc, ok, g⟩ => ?_
    rw [den] at g
    refine ⟨ρ, O, Oc, ok, (Go.bind [] g).imp fun v H1 ⟨x, ρ1, O1, st, ⟨pr, _⟩, g1⟩ => ?_⟩
    have pr : PR c lc ρ1 σ H1 O1 Oc x v := pr
    unfold asTruth at g1
    cases l1 : look ρ1 x with
    | none => rw [l1] at g1; exact g1.elim
    | some d =>
      rw [l1] at g1
      cases ht : truth d with
      | none => rw [show (some d).bind truth = none from ht] at g1; exact g1.elim
      | some b =>
        rw [show (some d).bind truth = some b from ht] at g1
        exact ⟨b, truV_of C.hK (Vw.le _ _) (pr.ok.look pr.rr l1) ht, go_v g1 (pend_sub pr.ok) (.bl _)⟩
  · intro c T k X W lc C
    refine PT.imp (pt_not (h1.jt c T k X W lc C)) fun σ H Q ⟨ρ, O, Oc, ok, g⟩ => ?_
    rw [den] at g
    refine ⟨ρ, O, Oc, ok, (Go.bind [] g).imp fun b H1 ⟨b', ρ1, O1, st, ⟨e, ok1⟩, g1⟩ => ?_⟩
    subst e
    exact g1 _ H1 O1 (Step.refl _ _) ⟨rfl, ok1⟩
/-! ### and, or -/
structure JB (nm : Nm) (N : List Str) (sc : Scope) (op : PySem.BoolOp) (es : List Expr) (E : E) : Prop where
  je : ∀ pos, JE nm N sc (.BoolOp op es pos) E
  jw : ∀ (pos : Pos) (c : Cf) (T : Th) (k : Nat) (X : Cx) (W : WX) (lc : Lc), Cok c T nm k N sc X W lc → PW X (.BoolOp op es pos) (rT c lc W (den T E).t)
theorem JB.j {op : PySem.BoolOp} {es : List Expr} {E : E} {pos : Pos} (h : JB nm N sc op es E) : J nm N sc (.BoolOp op es pos) E :=
  ⟨h.je pos, fun c T k X W lc C => (h.jw pos c T k X W lc C).pt, rfl⟩
theorem jb_one {op : PySem.BoolOp} {e1 : Expr} {E1 : E} (h1 : J nm N sc e1 E1) : JB nm N sc op [e1] E1 := by
  refine ⟨fun pos c T k X W lc C => pe_one (h1.je c T k X W lc C), fun pos c T k X W lc C => ?_⟩
  cases op with
  | And => exact pw_and1 (h1.jt c T k X W lc C)
  | Or => exact pw_or1 (h1.jt c T k X W lc C)
theorem jb_and {e1 e2 : Expr} {es : List Expr} {E1 E2 : E} (h1 : J nm N sc e1 E1) (h2 : JB nm N sc .And (e2 :: es) E2) : JB nm N sc .And (e1 :: e2 :: es) (.and E1 E2) := by
  refine ⟨fun pos c T k X W lc C => ?_, fun pos c T k X W lc C => ?_⟩
  · refine PE.imp (pe_and (h1.je c T k X W lc C) (h2.je pos c T k X W lc C)) fun σ H Q ⟨ρ, O, Oc, ok, g⟩ => ?_
    rw [den] at g
    refine ⟨ρ, O, Oc, ok, (Go.bind [] g).imp fun v H1 ⟨x, ρ1, O1, st, ⟨pr, _⟩, g1⟩ => ?_⟩
    have pr : PR c lc ρ1 σ H1 O1 Oc x v := pr
    cases l1 : look ρ1 x with
    | none => rw [l1] at g1; exact g1.elim
    | some d =>
      rw [l1] at g1
      cases d with
      | bl b =>
        refine ⟨b, (pr.ok.look pr.rr l1).bl, ?_⟩
        cases b with
        | true => exact ⟨ρ1, O1, Oc, pend_sub pr.ok, pv_start st g1⟩
        | false => exact go_v g1 (pend_sub pr.ok) (.bl _)
      | _ => exact g1.elim
  · refine PW.imp (pw_and (h1.jt c T k X W lc C) (h2.jw pos c T k X W lc C)) fun σ H Q ⟨ρ, O, Oc, ok, g⟩ => ?_
    rw [den] at g
    refine ⟨ρ, O, Oc, ok, (Go.bind [] g).imp fun b H1 ⟨b', ρ1, O1, st, ⟨e, ok1⟩, g1⟩ => ?_⟩
    subst e
    cases b with
    | true => exact ⟨ρ1, O1, Oc, ok1, g1⟩
    | false => exact g1 _ H1 O1 (Step.refl _ _) ⟨rfl, ok1⟩
theorem jb_or {e1 e2 : Expr} {es : List Expr} {E1 E2 : E} (h1 : J nm N sc e1 E1) (h2 : JB nm N sc .Or (e2 :: es) E2) : JB nm N sc .Or (e1 :: e2 :: es) (.or E1 E2) := by
  refine ⟨fun pos c T k X W lc C => ?_, fun pos c T k X W lc C => ?_⟩
  · refine PE.imp (pe_or (h1.je c T k X W lc C) (h2.je pos c T k X W lc C)) fun σ H Q ⟨ρ, O, Oc, ok, g⟩ => ?_
    rw [den] at g
    refine ⟨ρ, O, Oc, ok, (Go.bind [] g).imp fun v H1 ⟨x, ρ1, O1, st, ⟨pr, _⟩, g1⟩ => ?_⟩
    have pr : PR c lc ρ1 σ H1 O1 Oc x v := pr
    cases l1 : look ρ1 x with
    | none => rw [l1] at g1; exact g1.elim
    | some d =>
      rw [l1] at g1
      cases d with
      | bl b =>
        refine ⟨b, (pr.ok.look pr.rr l1).bl, ?_⟩
        cases b with
        | false => exact ⟨ρ1, O1, Oc, pend_sub pr.ok, pv_start st g1⟩
        | true => exact go_v g1 (pend_sub pr.ok) (.bl _)
      | _ => exact g1.elim
  · refine PW.imp (pw_or (h1.jt c T k X W lc C) (h2.jw pos c T k X W lc C)) fun σ H Q ⟨ρ, O, Oc, ok, g⟩ => ?_
    rw [den] at g
    refine ⟨ρ, O, Oc, ok, (Go.bind [] g).imp fun b H1 ⟨b', ρ1, O1, st, ⟨e, ok1⟩, g1⟩ => ?_⟩
    subst e
    cases b with
    | false => exact ⟨ρ1, O1, Oc, ok1, g1⟩
    | true => exact g1 _ H1 O1 (Step.refl _ _) ⟨rfl, ok1⟩
theorem pt_ifExp {X : Cx} {e a b : Expr} {t ta tb : TT} {pos : Pos} (hc : PT X e t) (ha : PT X a ta) (hb : PT X b tb) : PT X (.IfExp e a b pos) (fun σ H Q => t σ H fun c H1 => if c = true then ta σ H1 Q else tb σ H1 Q) := by
  refine ⟨fun pins s σ H Q I h => ?_⟩
  show wpAny _ X.A (do if ← isTrue e X.env (eval e X.env) then isTrue a X.env (eval a X.env) else isTrue b X.env (eval b X.env)) _ _ s
  refine wpAny_bind (thn (hc.run pins s σ H _ I h) fun c s1 ⟨H1, I1, q⟩ => ?_)
  cases c with
  | true => exact ha.run pins s1 σ H1 Q I1 q
  | false => exact hb.run pins s1 σ H1 Q I1 q
theorem j_ite {e1 e2 e3 : Expr} {E1 E2 E3 : E} {pos : Pos} (h1 : J nm N sc e1 E1) (h2 : J nm N sc e2 E2) (h3 : J nm N sc e3 E3) : J nm N sc (.IfExp e1 e2 e3 pos) (.ite E1 E2 E3) := by
  refine ⟨?_, ?_, rfl⟩
  · intro c T k X W lc C
    refine PE.imp (pe_ifExp (h1.jt c T k X W lc C) (h2.je c T k X W lc C) (h3.je c T k X W lc C)) fun σ H Q ⟨ρ, O, Oc, ok, g⟩ => ?_
    rw [den] at g
    refine ⟨ρ, O, Oc, ok, (Go.bind [] g).imp fun b H1 ⟨b', ρ1, O1, st, ⟨e, ok1⟩, g1⟩ => ?_⟩
    subst e
    cases b with
    | true => exact ⟨ρ1, O1, Oc, ok1, pv_start st g1⟩
    | false => exact ⟨ρ1, O1, Oc, ok1, pv_start st g1⟩
  · intro c T k X W lc C
    refine PT.imp (pt_ifExp (h1.jt c T k X W lc C) (h2.jt c T k X W lc C) (h3.jt c T k X W lc C)) fun σ H Q ⟨ρ, O, Oc, ok, g⟩ => ?_
    rw [den] at g
    refine ⟨ρ, O, Oc, ok, (Go.bind [] g).imp fun b H1 ⟨b', ρ1, O1, st, ⟨e, ok1⟩, g1⟩ => ?_⟩
    subst e
    cases b with
    | true => exact ⟨ρ1, O1, Oc, ok1, g1⟩
    | false => exact ⟨ρ1, O1, Oc, ok1, g1⟩
/-! ### comparisons -/
theorem j_cmp {e1 e2 : Expr} {E1 E2 : E} (o : Cm) {pos : Pos} (h1 : J nm N sc e1 E1) (h2 : J nm N sc e2 E2) : J nm N sc (.Compare e1 [cmOf o] [e2] pos) (.cmp o E1 E2) := by
  have key : ∀ (c : Cf) (T : Th) (k : Nat) (X : Cx) (W : WX) (lc : Lc), Cok c T nm k N sc X W lc → ∀ (σ : SS) (H : Hp) (Q : VK), rE c lc W (den T (.cmp o E1 E2)).v σ H Q → tOp (rCm c (cmpop o)) (rE c lc W (den T E1).v) (rE c lc W (den T E2).v) σ H Q := by
    intro c T k X W lc C σ H Q ⟨ρ, O, Oc, ok, g⟩
    rw [den] at g
    simp only [Den.of] at g
    refine go2 (R2' := fun v w H2 => rCm c (cmpop o) v w H2 Q) g ok fun x y v w ρ2 H2 O2 st ok2 r1 r2 n g2 => ?_
    cases l1 : look ρ2 x with
    | none => rw [l1] at g2; exact g2.elim
    | some d =>
      cases l2 : look ρ2 y with
      | none => rw [l1, l2] at g2; exact g2.elim
      | some e =>
        rw [l1, l2] at g2
        cases hb : cmpop o d e with
        | none => rw [show ((some d).bind fun d => (some e).bind fun e => (cmpop o d e).map fun c => R.v (.bl c)) = none from by show (cmpop o d e).map _ = none; rw [hb]; rfl] at g2; exact g2.elim
        | some b =>
          rw [show ((some d).bind fun d => (some e).bind fun e => (cmpop o d e).map fun c => R.v (.bl c)) = some (.v (.bl b)) from by show (cmpop o d e).map _ = _; rw [hb]; rfl] at g2
          exact ⟨_, d, e, b, Vw.le _ _, ok2.look r1 l1, ok2.look r2 l2, hb, go_v g2 (ok2.sub subl2) (.bl b)⟩
  refine ⟨?_, ?_, rfl⟩
  · intro c T k X W lc C
    exact PE.imp (pe_cmpR (opr_cm C.hK C.un o) (h1.je c T k X W lc C) (h2.je c T k X W lc C) (noMark h2.js _)) (key c T k X W lc C)
  · intro c T k X W lc C
    refine PT.imp (pt_cmpR (opr_cm C.hK C.un o) (h1.je c T k X W lc C) (h2.je c T k X W lc C) (noMark h2.js _)) fun σ H Q ⟨ρ, O, Oc, ok, g⟩ => ?_
    rw [den] at g
    simp only [Den.of, Rs.bind_assoc] at g
    refine go2 (R2' := fun v w H2 => rCm c (cmpop o) v w H2 fun x H' => ∃ k, x = .bl k ∧ Q k H') g ok fun x y v w ρ2 H2 O2 st ok2 r1 r2 n g2 => ?_
    cases l1 : look ρ2 x with
    | none => rw [l1] at g2; exact g2.elim
    | some d =>
      cases l2 : look ρ2 y with
      | none => rw [l1, l2] at g2; exact g2.elim
      | some e =>
        rw [l1, l2] at g2
        cases hb : cmpop o d e with
        | none => rw [show ((some d).bind fun d => (some e).bind fun e => (cmpop o d e).map fun c => R.v (.bl c)) = none from by show (cmpop o d e).map _ = none; rw [hb]; rfl] at g2; exact g2.elim
        | some b =>
          rw [show ((some d).bind fun d => (some e).bind fun e => (cmpop o d e).map fun c => R.v (.bl c)) = some (.v (.bl b)) from by show (cmpop o d e).map _ = _; rw [hb]; rfl] at g2
          exact ⟨_, d, e, b, Vw.le _ _, ok2.look r1 l1, ok2.look r2 l2, hb, b, rfl, g2 b H2 O2 (Step.refl _ _) ⟨rfl, ok2.sub subl2⟩⟩
/-- a op b op' c -/
theorem chain_k {c : Cf} {lc : Lc} {W : WX} {σ : SS} {H : Hp} {O Oc : List Addr} {γ β : Type} {T : Th} {E3 : E} {ρ2 : Env} {x y : R} {o o' : Cm} {PQ : γ → Env → β → Hp → List Addr → Prop} {Q : β → Hp → Prop} {fin : R → Env → Rs γ}
    (g : Go c lc W σ H O Oc ((match (look ρ2 x).bind (fun d => (look ρ2 y).bind fun e => cmpop o d e) with
      | some true => ((den T E3).v ρ2).bind fun z ρ3 => Rs.opt ρ3 ((look ρ3 y).bind fun d => (look ρ3 z).bind fun e => (cmpop o' d e).map fun c => R.v (.bl c))
      | some false => .ok (R.v (.bl false)) ρ2
      | none => Rs.no).bind fin) PQ Q) : ∃ d e b, look ρ2 x = some d ∧ look ρ2 y = some e ∧ cmpop o d e = some b ∧ if b = true then Go c lc W σ H O Oc (((den T E3).v ρ2).bind fun z ρ3 => (Rs.opt ρ3 ((look ρ3 y).bind fun d => (look ρ3 z).bind fun e => (cmpop o' d e).map fun c => R.v (.bl c))).bind fin) PQ Q else Go c lc W σ H O Oc (fin (R.v (.bl false)) ρ2) PQ Q := by
  cases l1 : look ρ2 x with
  | none => rw [l1] at g; exact g.elim
  | some d =>
    cases l2 : look ρ2 y with
    | none => rw [l1, l2] at g; exact g.elim
    | some e =>
      rw [l1, l2] at g
      cases hb : cmpop o d e with
      | none => rw [show ((some d).bind fun d => (some e).bind fun e => cmpop o d e) = none from hb] at g; exact g.elim
      | some b =>
        rw [show ((some d).bind fun d => (some e).bind fun e => cmpop o d e) = some b from hb] at g
        refine ⟨d, e, b, rfl, rfl, hb, ?_⟩
        cases b with
        | true =>
          rw [if_pos rfl]
          simp only [Rs.bind_assoc] at g
          exact g
        | false =>
          rw [if_neg Bool.false_ne_true]
          exact g
theorem look_bin {c : Cf} {lc : Lc} {W : WX} {σ : SS} {H : Hp} {O Oc : List Addr} {γ β : Type} {ρ3 : Env} {y z : R} {o' : Cm} {PQ : γ → Env → β → Hp → List Addr → Prop} {Q : β → Hp → Prop} {fin : R → Env → Rs γ}
    (g : Go c lc W σ H O Oc ((Rs.opt ρ3 ((look ρ3 y).bind fun d => (look ρ3 z).bind fun e => (cmpop o' d e).map fun c => R.v (.bl c))).bind fin) PQ Q) : ∃ d e b, look ρ3 y = some d ∧ look ρ3 z = some e ∧ cmpop o' d e = some b ∧ Go c lc W σ H O Oc (fin (R.v (.bl b)) ρ3) PQ Q := by
  cases l1 : look ρ3 y with
  | none => rw [l1] at g; exact g.elim
  | some d =>
    cases l2 : look ρ3 z with
    | none => rw [l1, l2] at g; exact g.elim
    | some e =>
      rw [l1, l2] at g
      cases hb : cmpop o' d e with
      | none => rw [show ((some d).bind fun d => (some e).bind fun e => (cmpop o' d e).map fun c => R.v (.bl c)) = none from by show (cmpop o' d e).map _ = none; rw [hb]; rfl] at g; exact g.elim
      | some b =>
        rw [show ((some d).bind fun d => (some e).bind fun e => (cmpop o' d e).map fun c => R.v (.bl c)) = some (.v (.bl b)) from by show (cmpop o' d e).map _ = _; rw [hb]; rfl] at g
        exact ⟨d, e, b, rfl, rfl, hb, g⟩
theorem Rs.bind_ok' {α : Type} (m : Rs α) : m.bind Rs.ok = m := by cases m <;> rfl
theorem j_chain {e1 e2 e3 : Expr} {E1 E2 E3 : E} (o o' : Cm) {pos : Pos} (h1 : J nm N sc e1 E1) (h2 : J nm N sc e2 E2) (h3 : J nm N sc e3 E3) : J nm N sc (.Compare e1 [cmOf o, cmOf o'] [e2, e3] pos) (.chain o o' E1 E2 E3) := by
  have key : ∀ (c : Cf) (T : Th) (k : Nat) (X : Cx) (W : WX) (lc : Lc), Cok c T nm k N sc X W lc → ∀ (σ : SS) (H : Hp) (γ β : Type) (fin : R → Env → Rs γ) (PQ : List Addr → Hp → γ → Env → β → Hp → List Addr → Prop) (Q' : β → Hp → Prop) (Q : VK),
      (∀ (b : Bool) ρ H1 O1 Oc1 Oc H0, Ok c lc ρ σ H1 O1 Oc1 → Oc.Sublist Oc1 → Go c lc W σ H1 O1 Oc (fin (R.v (.bl b)) ρ) (PQ Oc H0) Q' → Q (.bl b) H1) →
      (∃ ρ O Oc, Ok c lc ρ σ H O Oc ∧ Go c lc W σ H O Oc (((den T (.chain o o' E1 E2 E3)).v ρ).bind fin) (PQ Oc H) Q') →
      tChain (rCm c (cmpop o)) (rCm c (cmpop o')) (rE c lc W (den T E1).v) (rE c lc W (den T E2).v) (rE c lc W (den T E3).v) σ H Q := by
    intro c T k X W lc C σ H γ β fin PQ Q' Q hQ ⟨ρ, O, Oc, ok, g⟩
    rw [den] at g
    simp only [Den.of, Rs.bind_assoc] at g
    refine go2 (R2' := fun v w H2 => rCm c (cmpop o) v w H2 fun z H3 => ∃ k, z = .bl k ∧ if k = true then rE c lc W (den T E3).v σ H3 fun w' H4 => rCm c (cmpop o') w w' H4 Q else Q (.bl false) H3) g ok fun x y v w ρ2 H2 O2 st ok2 r1 r2 n g2 => ?_
    obtain ⟨d, e, b, l1, l2, hb, g3⟩ := chain_k g2
    refine ⟨_, d, e, b, Vw.le _ _, ok2.look r1 l1, ok2.look r2 l2, hb, b, rfl, ?_⟩
    cases b with
    | false =>
      rw [if_neg Bool.false_ne_true] at g3 ⊢
      exact hQ false ρ2 H2 O2 _ Oc H ok2 subl2 g3
    | true =>
      rw [if_pos rfl] at g3 ⊢
      have e0 : pend y w ++ (pend x v ++ Oc) = (pend y w ++ pend x v) ++ Oc := by rw [List.append_assoc]
      refine ⟨ρ2, O2, _, ok2, ?_⟩
      rw [e0] at ok2 r2 ⊢
      refine (Go.bind (pend y w ++ pend x v) g3).imp fun w' H4 ⟨z, ρ3, O3, st3, ⟨pr3, n3⟩, g4⟩ => ?_
      obtain ⟨d2, e2, b2, l3, l4, hb2, g5⟩ := look_bin g4
      have r2' := r2.later st3 ok2.dis (fun b hb => List.mem_append_right (pend z w') hb) fun b hb => by
        rcases List.mem_append.mp hb with q | q
        · exact .inr (n3 b q)
        · exact .inl q
      exact ⟨_, d2, e2, b2, Vw.le _ _, pr3.ok.look r2' l3, pr3.ok.look pr3.rr l4, hb2, hQ b2 ρ3 H4 O3 _ Oc H pr3.ok ((List.sublist_append_right _ _).trans (List.sublist_append_right _ _)) g5⟩
  have lm : ∀ X : Cx, lastMarks [cmOf o, cmOf o'] [e2, e3] = false := fun _ => noMark h3.js _
  refine ⟨?_, ?_, rfl⟩
  · intro c T k X W lc C
    refine PE.imp (pe_chain (opr_cm C.hK C.un o) (opr_cm C.hK C.un o') (h1.je c T k X W lc C) (h2.je c T k X W lc C) (h3.je c T k X W lc C) (lm X)) fun σ H Q ⟨ρ, O, Oc, ok, g⟩ => ?_
    refine key c T k X W lc C σ H R V Rs.ok (PV c lc σ) Q Q (fun b ρ H1 O1 Oc1 Oc H0 k1 hs g1 => go_v g1 (k1.sub hs) (.bl b)) ⟨ρ, O, Oc, ok, ?_⟩
    rw [Rs.bind_ok']
    exact g
  · intro c T k X W lc C
    refine PT.imp (pt_chain (opr_cm C.hK C.un o) (opr_cm C.hK C.un o') (h1.je c T k X W lc C) (h2.je c T k X W lc C) (h3.je c T k X W lc C) (lm X)) fun σ H Q ⟨ρ, O, Oc, ok, g⟩ => ?_
    refine key c T k X W lc C σ H Bool Bool asTruth (fun Oc _ => PB c lc σ Oc) Q (fun x H' => ∃ k, x = .bl k ∧ Q k H') (fun b ρ H1 O1 Oc1 Oc H0 k1 hs g1 => ⟨b, rfl, g1 b H1 O1 (Step.refl _ _) ⟨rfl, k1.sub hs⟩⟩) ⟨ρ, O, Oc, ok, ?_⟩
    have hd : (den T (.chain o o' E1 E2 E3)).t = fun ρ => ((den T (.chain o o' E1 E2 E3)).v ρ).bind asTruth := by rw [den] <;> rfl
    rw [hd] at g
    exact g
end VL
end
section
set_option maxHeartbeats 4000000
/-! V6: slots changed; rows; displays. -/
namespace VL
open PySem PySem.Spec PyProof.Rows L2
variable {nm : Nm} {N : List Str} {sc : Scope}
section
variable {c : Cf} {lc : Lc} {ρ ρ' : Env} {σ : SS} {H H' : Hp} {O Oc Oc' : List Addr}
/-- one slot, changed -/
theorem Ok.chg {i : Nat} {s : Sl} (k : Ok c lc ρ σ H O Oc) (hi : ρ[i]? = some s) :
    ∃ x Oi O', σ[i]? = some x ∧ En c lc (Vw H (O ++ Oc)) H s x Oi ∧ O.Perm (Oi ++ O') ∧
      ∀ (H' : Hp) (Oc' : List Addr) (s' : Sl) (x' : Option V) (Oj : List Addr), Le (Vw H (O ++ Oc)) (Vw H' ((Oj ++ O') ++ Oc')) → (∀ b ∈ O', H' b = H b) → En c lc (Vw H' ((Oj ++ O') ++ Oc')) H' s' x' Oj →
        ((Oj ++ O') ++ Oc').Nodup → (∀ b ∈ Oc', ∃ u, H' b = some u ∧ isOff u) → LamX.Tabs c.T H' → ∃ O2, O2.Perm (Oj ++ O') ∧ Ok c lc (ρ.set i s') (σ.set i x') H' O2 Oc' := by
  obtain ⟨x, Oi, O', h1, h2, h3, h4⟩ := k.env.split hi
  refine ⟨x, Oi, O', h1, h2, h3, fun H' Oc' s' x' Oj l hO e nd off tb => ?_⟩
  obtain ⟨O2, e2, p2⟩ := h4 _ H' l hO s' x' Oj e
  have pp : (O2 ++ Oc').Perm ((Oj ++ O') ++ Oc') := List.Perm.append_right Oc' p2
  refine ⟨O2, p2, ?_, pp.nodup_iff.mpr nd, off, tb⟩
  rw [Vw.perm pp]
  exact e2
theorem set_same {α : Type} : ∀ {l : List α} {i : Nat} {x : α}, l[i]? = some x → l.set i x = l
  | [], _, _, h => by simp at h
  | a :: l, 0, x, h => by simp at h; subst h; rfl
  | a :: l, i + 1, x, h => by
    rw [List.set_cons_succ, set_same (l := l) (by simpa using h)]
theorem Step.less {O2 : List Addr} (h : ∀ b ∈ O2, b ∈ O) : Step H O H O2 := ⟨fun _ _ e _ _ => e, fun _ ps e => ⟨ps, e⟩, fun b hb => .inl (h b hb), fun _ _ n => n⟩
theorem Ok.frzS {i : Nat} {v : V} {d : D} (k : Ok c lc ρ σ H O Oc) (hv : σ[i]? = some (some v)) (hl : VL.look ρ (.br i) = some d) (h : VL.frzS i ρ = some ρ') : ∃ O', (∀ b ∈ O', b ∈ O) ∧ Ok c lc ρ' σ H O' Oc ∧ Rp c (Vw H (O' ++ Oc)) d v := by
  unfold VL.frzS at h
  have hl : (match ρ[i]? with | some (.ol xs) => some (.lst xs) | some (.ln xs) => some (.lst xs) | some (.v d) => some d | _ => none) = some d := hl
  cases e : ρ[i]? with
  | none => rw [e] at h; cases h
  | some s =>
    rw [e] at h hl
    cases s with
    | v d' =>
      cases h
      cases hl
      obtain ⟨v', h1, h2⟩ := k.atV e
      rw [hv] at h1
      cases h1
      exact ⟨O, fun _ z => z, k, h2⟩
    | ol xs =>
      cases h
      cases hl
      obtain ⟨x, Oi, O', h1, h2, h3, h4⟩ := k.chg e
      cases h2 with
      | ol e2 r2 =>
        rename_i p vs
        rw [hv] at h1
        cases h1
        have nd : (p :: (O' ++ Oc)).Nodup := (List.Perm.append_right Oc h3).nodup_iff.mp k.nd
        have np : p ∉ O' ++ Oc := (List.nodup_cons.mp nd).1
        have l : Le (Vw H (O ++ Oc)) (Vw H (([] ++ O') ++ Oc)) := Vw.sub fun b hb => (List.Perm.append_right Oc h3).mem_iff.mpr (List.mem_cons_of_mem _ hb)
        have rp : Rp c (Vw H (([] ++ O') ++ Oc)) (.lst xs) (.ref p) := .lst (Vw.some_iff.mpr ⟨np, e2⟩) (r2.mono l)
        obtain ⟨O2, p2, k2⟩ := h4 H Oc (.v (.lst xs)) (some (.ref p)) [] l (fun _ _ => rfl) (.v rp) (List.nodup_cons.mp nd).2 k.off k.tabs
        rw [set_same hv] at k2
        have p2 : O2.Perm O' := p2
        refine ⟨O2, fun b hb => h3.mem_iff.mpr (List.mem_cons_of_mem _ (p2.mem_iff.mp hb)), k2, ?_⟩
        rw [Vw.perm (List.Perm.append_right Oc p2)]
        exact rp
    | _ => cases h
theorem Ok.frz {r : R} {v : V} {d : D} (k : PR c lc ρ σ H O Oc r v) (h : VL.frz r ρ = .ok d ρ') : ∃ O', (∀ b ∈ O', b ∈ O) ∧ Ok c lc ρ' σ H O' Oc ∧ Rp c (Vw H (O' ++ Oc)) d v := by
  cases r with
  | v d' =>
    cases h
    exact ⟨O, fun _ z => z, k.ok, k.rr⟩
  | fl xs =>
    cases h
    obtain ⟨p, vs, rfl, _, h2, h3⟩ := k.rr
    have nd : (O ++ (p :: Oc)).Nodup := k.ok.nd
    have nd2 : (p :: (O ++ Oc)).Nodup := List.perm_middle.nodup_iff.mp nd
    refine ⟨O, fun _ z => z, k.ok.tail, .lst (Vw.some_iff.mpr ⟨(List.nodup_cons.mp nd2).1, h2⟩) (h3.mono (Vw.sub fun b hb => ?_))⟩
    rcases List.mem_append.mp hb with z | z
    · exact List.mem_append_left _ z
    · exact List.mem_append_right _ (List.mem_cons_of_mem _ z)
  | br i =>
    dsimp only [VL.frz] at h
    cases l1 : VL.look ρ (.br i) with
    | none => rw [l1] at h; cases h
    | some d' =>
      cases l2 : VL.frzS i ρ with
      | none => rw [l1, l2] at h; cases h
      | some ρ2 =>
        rw [l1, l2] at h
        cases h
        exact Ok.frzS k.ok k.rr l1 l2
theorem frz_ex {r : R} {e : Ex} (h : VL.frz r ρ = .ex e ρ') : False := by
  cases r with
  | v _ => cases h
  | fl _ => cases h
  | br i =>
    dsimp only [VL.frz] at h
    split at h <;> cases h
/-- a value that stays, behind an expression -/
theorem go_frz {γ β : Type} {W : WX} {Q : β → Hp → Prop} {PQ : γ → Env → β → Hp → List Addr → Prop} {r : R} {v : V} {kk : D → Env → Rs γ} (pr : PR c lc ρ σ H O (Oc' ++ Oc) r v) (g : Go c lc W σ H O Oc ((VL.frz r ρ).bind kk) PQ Q) :
    ∃ d ρ' O', (∀ b ∈ O', b ∈ O) ∧ Ok c lc ρ' σ H O' (Oc' ++ Oc) ∧ Rp c (Vw H (O' ++ (Oc' ++ Oc))) d v ∧ Go c lc W σ H O' Oc (kk d ρ') PQ Q := by
  cases h : VL.frz r ρ with
  | no => rw [h] at g; exact g.elim
  | ex e ρ' => exact (frz_ex h).elim
  | ok d ρ' =>
    rw [h] at g
    obtain ⟨O', h1, h2, h3⟩ := Ok.frz pr h
    exact ⟨d, ρ', O', h1, h2, h3, Go.step (show Go c lc W σ H O Oc (kk d ρ') PQ Q from g) (Step.less h1)⟩
end
/-! ### rows of expressions -/
theorem ja_nil : JA nm N sc [] [] := by
  refine ⟨fun c T k X W lc C => ?_, fun c T k X W lc C => ?_, rfl⟩
  · refine PA.imp pa_nil fun σ H Q ⟨ρ, O, Oc, ok, g⟩ => ?_
    rw [evs] at g
    exact g [] H O (Step.refl _ _) ⟨ok, trivial, fun b hb => .inl hb⟩
  · refine PA.imp pa_nil fun σ H Q ⟨ρ, O, Oc, ok, g⟩ => ?_
    rw [evf] at g
    exact g [] H O (Step.refl _ _) ⟨ok, .nil⟩
theorem offs_of : ∀ {Oc : List Addr} {rs : List R} {vs : List V}, ∀ b ∈ Oc, b ∈ offs Oc rs vs
  | Oc, [], _, b, h => by unfold offs; exact h
  | Oc, _ :: _, [], b, h => by unfold offs; exact h
  | Oc, r :: rs, v :: vs, b, h => by
    unfold offs
    exact offs_of b (List.mem_append_right _ h)
theorem offs_sub : ∀ {Oc : List Addr} {rs : List R} {vs : List V}, Oc.Sublist (offs Oc rs vs)
  | Oc, [], _ => by unfold offs; exact List.Sublist.refl _
  | Oc, _ :: _, [] => by unfold offs; exact List.Sublist.refl _
  | Oc, r :: rs, v :: vs => by
    unfold offs
    exact (List.sublist_append_right _ _).trans offs_sub
theorem ja_cons {e : Expr} {es : List Expr} {E1 : E} {Es : List E} (h1 : J nm N sc e E1) (h2 : JA nm N sc es Es) : JA nm N sc (e :: es) (E1 :: Es) := by
  refine ⟨fun c T k X W lc C => ?_, fun c T k X W lc C => ?_, by rw [List.all_cons, h1.js, h2.s]; rfl⟩
  · refine PA.imp (pa_cons (h1.je c T k X W lc C) (h2.a c T k X W lc C) (starE_cons h1.js)) fun σ H Q ⟨ρ, O, Oc, ok, g⟩ => ?_
    rw [evs] at g
    refine ⟨ρ, O, Oc, ok, (Go.bind [] g).imp fun v H1 ⟨x, ρ1, O1, st1, ⟨pr1, n1⟩, g1⟩ => ?_⟩
    have pr1 : PR c lc ρ1 σ H1 O1 Oc x v := pr1
    refine ⟨ρ1, O1, pend x v ++ Oc, pr1.ok, (Go.bind (pend x v) g1).imp fun vs H2 ⟨rs, ρ2, O2, st2, ⟨ok2, rr2, n2⟩, g2⟩ => ?_⟩
    refine g2 (v :: vs) H2 O2 (Step.refl _ _) ⟨ok2, ⟨pr1.rr.later st2 pr1.ok.dis (fun b hb => (offs_of b hb : b ∈ offs (pend x v ++ Oc) rs vs)) n2, rr2⟩, fun b hb => ?_⟩
    rcases n2 b hb with z | z
    · rcases List.mem_append.mp z with y | y
      · exact .inr (n1 b y)
      · exact .inl y
    · exact .inr (st1.none z)
  · refine PA.imp (pa_cons (h1.je c T k X W lc C) (h2.f c T k X W lc C) (starE_cons h1.js)) fun σ H Q ⟨ρ, O, Oc, ok, g⟩ => ?_
    rw [evf] at g
    refine ⟨ρ, O, Oc, ok, (Go.bind [] g).imp fun v H1 ⟨x, ρ1, O1, st1, ⟨pr1, n1⟩, g1⟩ => ?_⟩
    have pr1 : PR c lc ρ1 σ H1 O1 ([] ++ Oc) x v := pr1
    obtain ⟨d, ρ2, O2, hO, ok2, rp, g2⟩ := go_frz pr1 g1
    refine ⟨ρ2, O2, Oc, ok2, (Go.bind [] g2).imp fun vs H3 ⟨ds, ρ3, O3, st3, ⟨ok3, rp3⟩, g3⟩ => ?_⟩
    exact g3 (v :: vs) H3 O3 (Step.refl _ _) ⟨ok3, .cons (rp.mono st3.vwO) rp3⟩
/-! ### displays -/
theorem go_if {γ β : Type} {c : Cf} {lc : Lc} {W : WX} {σ : SS} {H : Hp} {O Oc : List Addr} {PQ : γ → Env → β → Hp → List Addr → Prop} {Q : β → Hp → Prop} {p : Prop} [Decidable p] {m : Rs γ} (g : Go c lc W σ H O Oc (if p then m else .no) PQ Q) : p ∧ Go c lc W σ H O Oc m PQ Q := by
  by_cases h : p
  · rw [if_pos h] at g; exact ⟨h, g⟩
  · rw [if_neg h] at g; exact g.elim
theorem j_tup {es : List Expr} {Es : List E} {n : Nat} {pos : Pos} (h : JA nm N sc es Es) : J nm N sc (.Tuple es n pos) (.tup Es) := by
  have h : JE nm N sc (.Tuple es n pos) (.tup Es) := by
    intro c T k X W lc C
    refine PE.imp (pe_tup (h.f c T k X W lc C)) fun σ H Q ⟨ρ, O, Oc, ok, g⟩ => ?_
    rw [den] at g
    simp only [Den.of] at g
    refine ⟨ρ, O, Oc, ok, (Go.bind [] g).imp fun vs H1 ⟨ds, ρ1, O1, st, ⟨ok1, rp⟩, g1⟩ => ?_⟩
    have ok1 : Ok c lc ρ1 σ H1 O1 Oc := ok1
    obtain ⟨hz, g1⟩ := go_if g1
    exact ⟨by rw [← rp.length]; exact hz, fun p hp => Go.res ok1 (List.Sublist.refl _) (fun b hb => st.none hb) g1 (.inr ⟨p, ds, vs, rfl, rfl, hp, rfl, rp⟩)⟩
  exact ⟨h, jt_of h (fun _ => by rw [den] <;> rfl) fun _ _ => rfl, rfl⟩
theorem j_lst {es : List Expr} {Es : List E} {pos : Pos} (h : JA nm N sc es Es) : J nm N sc (.List es pos) (.lst Es) := by
  have h : JE nm N sc (.List es pos) (.lst Es) := by
    intro c T k X W lc C
    refine PE.imp (pe_lst (h.f c T k X W lc C)) fun σ H Q ⟨ρ, O, Oc, ok, g⟩ => ?_
    rw [den] at g
    simp only [Den.of] at g
    refine ⟨ρ, O, Oc, ok, (Go.bind [] g).imp fun vs H1 ⟨ds, ρ1, O1, st, ⟨ok1, rp⟩, g1⟩ => ?_⟩
    have ok1 : Ok c lc ρ1 σ H1 O1 Oc := ok1
    obtain ⟨hz, g1⟩ := go_if g1
    exact ⟨by rw [← rp.length]; exact hz, fun p hp => Go.res ok1 (List.Sublist.refl _) (fun b hb => st.none hb) g1 ⟨p, vs, rfl, hp, rfl, rp⟩⟩
  exact ⟨h, jt_of h (fun _ => by rw [den] <;> rfl) fun _ _ => rfl, rfl⟩
theorem j_emp {pos : Pos} : J nm N sc (.Dict [] [] pos) .emp := by
  have h : JE nm N sc (.Dict [] [] pos) .emp := by
    intro c T k X W lc C
    refine PE.imp pe_dnewK fun σ H Q ⟨ρ, O, Oc, ok, g⟩ => ?_
    rw [den] at g
    simp only [Den.of] at g
    intro d hd
    have np : d ∉ O ++ Oc := fun z => by
      rcases List.mem_append.mp z with z | z
      · obtain ⟨_, e⟩ := ok.env.ofO d z
        rw [hd] at e; cases e
      · obtain ⟨_, e, _⟩ := ok.off d z
        rw [hd] at e; cases e
    exact g _ _ O (Step.new hd) ⟨⟨ok.new hd, .dic (Vw.some_iff.mpr ⟨np, upd_same⟩)⟩, fun b hb => by cases hb⟩
  exact ⟨h, jt_of h (fun _ => by rw [den] <;> rfl) fun _ _ => rfl, rfl⟩
end VL
end
section
set_option maxHeartbeats 4000000
/-! V6b: sum, max, min of a tuple of ints. -/
namespace VL
open PySem PySem.Spec PyProof.Rows L2
section
variable {prog : Program} {w : World} {A : Around} {E : Value → Shared → Prop} {s : Shared} {l : Addr} {xs : Array (Int × Tok)}
theorem iter_tupI {Q : Value → Shared → Prop} (hl : s.heap.IsTuple l (intItems xs))
    (h : ∀ s₂ : Shared, s₂ = { s with heap := s.heap.push { cls := .type "tuple_iterator", data := .fields #[.ref l, .int 0 0] } } →
      (s₂.heap.IsTupleIter s.heap.objs.size l 0 ∧ s₂.heap.IsTuple l (intItems xs)) → (∀ b ∈ [s.heap.objs.size, l], b < s₂.heap.objs.size) → l ≠ s.heap.objs.size → Q (.ref s.heap.objs.size) s₂) :
    wpAny (model prog w) A (pyIter (.ref l)) Q E s := by
  have hlt : l < s.heap.objs.size := by obtain ⟨_, e, _⟩ := hl; exact Heap.lt_size e
  refine wpAny_pyIter_tuple hl (h _ rfl ⟨⟨_, Heap.get?_push_size _ rfl, rfl, rfl⟩, hl.push _⟩ (fun b hb => ?_) (Nat.ne_of_lt hlt))
  show b < (s.heap.push _).objs.size
  rw [Heap.size_push]
  rcases List.mem_cons.mp hb with rfl | hb
  · exact Nat.lt_succ_self _
  · rcases List.mem_cons.mp hb with rfl | hb
    · exact Nat.lt_succ_of_lt hlt
    · cases hb
theorem old_keptT {h' : Heap} (hk : ∀ b o, b ∉ [s.heap.objs.size] → (s.heap.push { cls := .type "tuple_iterator", data := .fields #[.ref l, .int 0 0] }).get? b = some o → h'.get? b = some o) :
    ∀ b o, s.heap.get? b = some o → h'.get? b = some o := fun b o e => by
  refine hk b o (fun hm => ?_) (Heap.get?_push_of_some _ e)
  rcases List.mem_cons.mp hm with e1 | hm
  · exact absurd (e1 ▸ Heap.lt_size e) (Nat.lt_irrefl _)
  · cases hm
theorem max_tupI {Q : Value → Shared → Prop} (hh : A.handled = none) (hl : s.heap.IsTuple l (intItems xs)) (hne : 0 < xs.size)
    (h : ∀ v h' tk, (intItems xs)[argBest (fun i j => decide (numAt xs i > numAt xs j)) (xs.size - 1)]? = some v → (∀ b o, s.heap.get? b = some o → h'.get? b = some o) → Q v { s with heap := h', toks := tk }) :
    wpAny (model prog w) A (PySem.call (.builtin "max") [.ref l]) Q E s := by
  refine call_max_walk (iter_tupI hl fun s₂ e st hfp hlI => ?_)
  subst e
  refine ⟨_, _, _, _, _, _, _, rfl, Walks.tuple (A := A.in1) hh _ l hlI (intItems xs), st, hfp, by simpa [intItems] using hne, CmpOf.ints_gt (numAt xs) (fun _ _ => intItems_at), fun v h' tk hP hk => ?_⟩
  exact h v h' tk (by simpa [intItems] using hP) (old_keptT hk)
theorem min_tupI {Q : Value → Shared → Prop} (hh : A.handled = none) (hl : s.heap.IsTuple l (intItems xs)) (hne : 0 < xs.size)
    (h : ∀ v h' tk, (intItems xs)[argBest (fun i j => decide (numAt xs i < numAt xs j)) (xs.size - 1)]? = some v → (∀ b o, s.heap.get? b = some o → h'.get? b = some o) → Q v { s with heap := h', toks := tk }) :
    wpAny (model prog w) A (PySem.call (.builtin "min") [.ref l]) Q E s := by
  refine call_min_walk (iter_tupI hl fun s₂ e st hfp hlI => ?_)
  subst e
  refine ⟨_, _, _, _, _, _, _, rfl, Walks.tuple (A := A.in1) hh _ l hlI (intItems xs), st, hfp, by simpa [intItems] using hne, CmpOf.ints_lt (numAt xs) (fun _ _ => intItems_at), fun v h' tk hP hk => ?_⟩
  exact h v h' tk (by simpa [intItems] using hP) (old_keptT hk)
theorem sum_tupI {Q : Value → Shared → Prop} (hh : A.handled = none) (hl : s.heap.IsTuple l (intItems xs))
    (h : ∀ h' tk t', (∀ b o, s.heap.get? b = some o → h'.get? b = some o) → Q (.int (preSum (numAt xs) xs.size) t') { s with heap := h', toks := tk }) :
    wpAny (model prog w) A (PySem.call (.builtin "sum") [.ref l]) Q E s := by
  refine call_sum_walkG (iter_tupI hl fun s₂ e st hfp hlI => ?_)
  subst e
  refine ⟨_, _, _, _, _, _, numAt xs, rfl, Walks.tuple (A := A.in1) hh _ l hlI (intItems xs), st, hfp, fun _ _ => intItems_at, fun h' tk t' hk => ?_⟩
  have := h h' tk t' (old_keptT hk)
  simpa [intItems] using this
end
section
variable {prog : Program} {w : World} {A : Around} {E : Value → Shared → Prop} {s : Shared} {l : Addr} {its : List Value} {ns : List Int} {Q : Value → Shared → Prop}
theorem sum_rawT (hh : A.handled = none) (hl : s.heap.IsTuple l its.toArray) (hi : IntsAre its ns)
    (h : ∀ h' tk t', (∀ b o, s.heap.get? b = some o → h'.get? b = some o) → Q (.int ns.sum t') { s with heap := h', toks := tk }) : wpAny (model prog w) A (PySem.call (.builtin "sum") [.ref l]) Q E s := by
  obtain ⟨xs, e⟩ := hi.allInts.items
  have hn : numsOf (intItems xs).toList = ns := by rw [← e]; exact hi.numsOf
  rw [nums_intItems] at hn
  rw [e] at hl
  refine sum_tupI hh hl fun h' tk t' hk => ?_
  have := h h' tk t' hk
  rw [preSum_eq, List.take_of_length_le (by simp), hn]; exact this
theorem max_rawT (hh : A.handled = none) (hl : s.heap.IsTuple l its.toArray) (hi : IntsAre its ns) (hne : 0 < ns.length)
    (h : ∀ h' tk M t', (∀ b o, s.heap.get? b = some o → h'.get? b = some o) → M ∈ ns → (∀ a, a ∈ ns → a ≤ M) → Q (.int M t') { s with heap := h', toks := tk }) : wpAny (model prog w) A (PySem.call (.builtin "max") [.ref l]) Q E s := by
  obtain ⟨xs, e⟩ := hi.allInts.items
  have hn : numsOf (intItems xs).toList = ns := by rw [← e]; exact hi.numsOf
  rw [nums_intItems] at hn
  subst hn
  rw [e] at hl
  have hsz : 0 < xs.size := by simpa using hne
  refine max_tupI hh hl hsz fun v h' tk hv hk => ?_
  obtain ⟨t, rfl⟩ := intItems_at hv
  obtain ⟨h1, h2⟩ := argBest_gt (numAt xs) (xs.size - 1)
  refine h h' tk _ t hk ?_ fun a ha => ?_
  · rw [numAt_eq]; exact PySem.getD_mem (by rw [List.length_map, Array.length_toList]; omega)
  · obtain ⟨j, hj, rfl⟩ := mem_getD ha
    rw [List.length_map, Array.length_toList] at hj
    rw [← numAt_eq]; exact h2 j (by omega)
theorem min_rawT (hh : A.handled = none) (hl : s.heap.IsTuple l its.toArray) (hi : IntsAre its ns) (hne : 0 < ns.length)
    (h : ∀ h' tk M t', (∀ b o, s.heap.get? b = some o → h'.get? b = some o) → M ∈ ns → (∀ a, a ∈ ns → M ≤ a) → Q (.int M t') { s with heap := h', toks := tk }) : wpAny (model prog w) A (PySem.call (.builtin "min") [.ref l]) Q E s := by
  obtain ⟨xs, e⟩ := hi.allInts.items
  have hn : numsOf (intItems xs).toList = ns := by rw [← e]; exact hi.numsOf
  rw [nums_intItems] at hn
  subst hn
  rw [e] at hl
  have hsz : 0 < xs.size := by simpa using hne
  refine min_tupI hh hl hsz fun v h' tk hv hk => ?_
  obtain ⟨t, rfl⟩ := intItems_at hv
  obtain ⟨h1, h2⟩ := argBest_lt (numAt xs) (xs.size - 1)
  refine h h' tk _ t hk ?_ fun a ha => ?_
  · rw [numAt_eq]; exact PySem.getD_mem (by rw [List.length_map, Array.length_toList]; omega)
  · obtain ⟨j, hj, rfl⟩ := mem_getD ha
    rw [List.length_map, Array.length_toList] at hj
    rw [← numAt_eq]; exact h2 j (by omega)
end
section
variable {X : Cx}
def rSumT (K : PySem.W.Frag) : List V → Hp → VK → Prop := fun vs H Q => ∃ (a : Addr) (ns : List Int), vs = [V.ref a] ∧ SqT K H a (ns.map V.int) ∧ Q (.int ns.sum) H
def rMaxT (K : PySem.W.Frag) : List V → Hp → VK → Prop := fun vs H Q => ∃ (a : Addr) (ns : List Int), vs = [V.ref a] ∧ SqT K H a (ns.map V.int) ∧ 0 < ns.length ∧ ∀ m, m ∈ ns → (∀ y, y ∈ ns → y ≤ m) → Q (.int m) H
def rMinT (K : PySem.W.Frag) : List V → Hp → VK → Prop := fun vs H Q => ∃ (a : Addr) (ns : List Int), vs = [V.ref a] ∧ SqT K H a (ns.map V.int) ∧ 0 < ns.length ∧ ∀ m, m ∈ ns → (∀ y, y ∈ ns → m ≤ y) → Q (.int m) H
theorem cr_sumT (hc : X.calm = true) : CallR X (.builtin "sum") (rSumT X.K) := by
  intro pins s σ H vs us Q I r h
  obtain ⟨a, ns, rfl, hs, q⟩ := h
  obtain ⟨its, rv, hl, _⟩ := I.tuple hs
  rw [Vals.ref1 r]
  exact sum_rawT (I.ok.hd hc) hl rv.ints fun h' tk t' hk => ⟨.int _, H, I.kept hk, ⟨_, rfl⟩, q⟩
theorem cr_maxT (hc : X.calm = true) : CallR X (.builtin "max") (rMaxT X.K) := by
  intro pins s σ H vs us Q I r h
  obtain ⟨a, ns, rfl, hs, hne, q⟩ := h
  obtain ⟨its, rv, hl, _⟩ := I.tuple hs
  rw [Vals.ref1 r]
  exact max_rawT (I.ok.hd hc) hl rv.ints hne fun h' tk m t' hk h1 h2 => ⟨.int _, H, I.kept hk, ⟨_, rfl⟩, q m h1 h2⟩
theorem cr_minT (hc : X.calm = true) : CallR X (.builtin "min") (rMinT X.K) := by
  intro pins s σ H vs us Q I r h
  obtain ⟨a, ns, rfl, hs, hne, q⟩ := h
  obtain ⟨its, rv, hl, _⟩ := I.tuple hs
  rw [Vals.ref1 r]
  exact min_rawT (I.ok.hd hc) hl rv.ints hne fun h' tk m t' hk h1 h2 => ⟨.int _, H, I.kept hk, ⟨_, rfl⟩, q m h1 h2⟩
end
end VL
end
section
set_option maxHeartbeats 4000000
/-! V7: built-in functions. -/
namespace VL
open PySem PySem.Spec PyProof.Rows L2
variable {nm : Nm} {N : List Str} {sc : Scope}
def rBi (c : Cf) (g : List D → Option R) : List V → Hp → VK → Prop := fun vs H Q => ∃ F ds r, Le F H ∧ RCs c F H ds vs ∧ g ds = some r ∧ ∀ v H', Res c F H r v H' → Q v H'
section
variable {c : Cf} {lc : Lc} {ρ : Env} {σ : SS} {H : Hp} {O Oc : List Addr}
theorem looks_rcs (k : Ok c lc ρ σ H O Oc) : ∀ {rs : List R} {vs : List V} {ds : List D}, RRs c σ H O Oc rs vs → looks ρ rs = some ds → RCs c (Vw H (O ++ Oc)) H ds vs
  | [], [], ds, _, h => by cases h; exact .nil
  | [], _ :: _, _, q, _ => q.elim
  | _ :: _, [], _, q, _ => q.elim
  | r :: rs, v :: vs, ds, q, h => by
    have h : (look ρ r).bind (fun d => (looks ρ rs).map (d :: ·)) = some ds := h
    cases l1 : look ρ r with
    | none => rw [l1] at h; cases h
    | some d =>
      rw [l1] at h
      have h : (looks ρ rs).map (d :: ·) = some ds := h
      cases l2 : looks ρ rs with
      | none => rw [l2] at h; cases h
      | some es =>
        rw [l2] at h
        cases h
        exact .cons (k.look q.1 l1) (looks_rcs k q.2 l2)
end
theorem RCs.one {c : Cf} {F H : Hp} {d : D} {vs : List V} (h : RCs c F H [d] vs) : ∃ v, vs = [v] ∧ RC c F H d v := by
  cases h with
  | cons r t => cases t; exact ⟨_, rfl, r⟩
theorem RCs.two {c : Cf} {F H : Hp} {d e : D} {vs : List V} (h : RCs c F H [d, e] vs) : ∃ v w, vs = [v, w] ∧ RC c F H d v ∧ RC c F H e w := by
  cases h with
  | cons r t =>
    obtain ⟨w, rfl, q⟩ := RCs.one t
    exact ⟨_, _, rfl, r, q⟩
/-- a row's content -/
theorem RC.row {c : Cf} {K : PySem.W.Frag} (hK : K = c.K) {F H : Hp} {d : D} {v : V} {xs : List D} (l : Le F H) (h : RC c F H d v) (e : rowOf d = some xs) : ∃ a vs, v = .ref a ∧ (SqL K H a vs ∨ SqT K H a vs) ∧ Rps c F xs vs := by
  subst hK
  cases d with
  | tup ys =>
    cases e
    obtain ⟨a, vs, rfl, h1, h2⟩ := h.tup
    exact ⟨a, vs, rfl, .inr (sqT_mono l h1), h2⟩
  | lst ys =>
    cases e
    obtain ⟨a, vs, rfl, h1, h2⟩ := h.lst l
    exact ⟨a, vs, rfl, .inl (SqL.of h1), h2⟩
  | _ => cases e
theorem biop_one {b : Bi} {ds : List D} {r : R} (h : biop b ds = some r) (hb : b ≠ .max2 ∧ b ≠ .min2 ∧ b ≠ .lrange2) : ∃ d, ds = [d] := by
  obtain ⟨h1, h2, h3⟩ := hb
  match ds with
  | [d] => exact ⟨d, rfl⟩
  | [] => cases b <;> simp_all [biop]
  | _ :: _ :: _ => cases b <;> simp_all [biop]
theorem foldl_max_ge : ∀ (r : List Int) (a : Int), a ≤ r.foldl max a ∧ ∀ y ∈ r, y ≤ r.foldl max a
  | [], a => ⟨Int.le_refl _, fun _ h => by cases h⟩
  | b :: r, a => by
    obtain ⟨h1, h2⟩ := foldl_max_ge r (max a b)
    refine ⟨Int.le_trans (Int.le_max_left a b) h1, fun y hy => ?_⟩
    rcases List.mem_cons.mp hy with rfl | hy
    · exact Int.le_trans (Int.le_max_right a y) h1
    · exact h2 y hy
theorem foldl_max_mem : ∀ (r : List Int) (a : Int), r.foldl max a = a ∨ r.foldl max a ∈ r
  | [], a => .inl rfl
  | b :: r, a => by
    rcases foldl_max_mem r (max a b) with h | h
    · rw [List.foldl_cons, h]
      rcases Int.le_total a b with q | q
      · rw [Int.max_eq_right q]; exact .inr List.mem_cons_self
      · rw [Int.max_eq_left q]; exact .inl rfl
    · exact .inr (List.mem_cons_of_mem _ h)
theorem maxL_uniq {is : List Int} {m i : Int} (h : maxL is = some i) (hm : m ∈ is) (hu : ∀ y ∈ is, y ≤ m) : m = i := by
  cases is with
  | nil => cases h
  | cons a r =>
    cases h
    obtain ⟨h1, h2⟩ := foldl_max_ge r a
    have h3 : m ≤ r.foldl max a := by
      rcases List.mem_cons.mp hm with rfl | z
      · exact h1
      · exact h2 m z
    have h4 : r.foldl max a ≤ m := by
      rcases foldl_max_mem r a with z | z
      · rw [z]; exact hu a List.mem_cons_self
      · exact hu _ (List.mem_cons_of_mem _ z)
    omega
theorem foldl_min_le : ∀ (r : List Int) (a : Int), r.foldl min a ≤ a ∧ ∀ y ∈ r, r.foldl min a ≤ y
  | [], a => ⟨Int.le_refl _, fun _ h => by cases h⟩
  | b :: r, a => by
    obtain ⟨h1, h2⟩ := foldl_min_le r (min a b)
    refine ⟨Int.le_trans h1 (Int.min_le_left a b), fun y hy => ?_⟩
    rcases List.mem_cons.mp hy with rfl | hy
    · exact Int.le_trans h1 (Int.min_le_right a y)
    · exact h2 y hy
theorem foldl_min_mem : ∀ (r : List Int) (a : Int), r.foldl min a = a ∨ r.foldl min a ∈ r
  | [], a => .inl rfl
  | b :: r, a => by
    rcases foldl_min_mem r (min a b) with h | h
    · rw [List.foldl_cons, h]
      rcases Int.le_total a b with q | q
      · rw [Int.min_eq_left q]; exact .inl rfl
      · rw [Int.min_eq_right q]; exact .inr List.mem_cons_self
    · exact .inr (List.mem_cons_of_mem _ h)
theorem minL_uniq {is : List Int} {m i : Int} (h : minL is = some i) (hm : m ∈ is) (hu : ∀ y ∈ is, m ≤ y) : m = i := by
  cases is with
  | nil => cases h
  | cons a r =>
    cases h
    obtain ⟨h1, h2⟩ := foldl_min_le r a
    have h3 : r.foldl min a ≤ m := by
      rcases List.mem_cons.mp hm with rfl | z
      · exact h1
      · exact h2 m z
    have h4 : m ≤ r.foldl min a := by
      rcases foldl_min_mem r a with z | z
      · rw [z]; exact hu a List.mem_cons_self
      · exact hu _ (List.mem_cons_of_mem _ z)
    omega
theorem insI_perm (i : Int) : ∀ l : List Int, (insI i l).Perm (i :: l)
  | [] => .refl _
  | j :: r => by
    unfold insI
    split
    · exact .refl _
    · exact ((insI_perm i r).cons j).trans (List.Perm.swap i j r)
theorem sortI_perm : ∀ l : List Int, (sortI l).Perm l
  | [] => .refl _
  | i :: r => (insI_perm i _).trans ((sortI_perm r).cons i)
theorem insI_sorted (i : Int) : ∀ l : List Int, l.Pairwise (· ≤ ·) → (insI i l).Pairwise (· ≤ ·)
  | [], _ => List.pairwise_singleton _ _
  | j :: r, h => by
    obtain ⟨h1, h2⟩ := List.pairwise_cons.mp h
    unfold insI
    split
    · rename_i q
      refine List.pairwise_cons.mpr ⟨fun y hy => ?_, h⟩
      rcases List.mem_cons.mp hy with rfl | z
      · exact q
      · exact Int.le_trans q (h1 y z)
    · rename_i q
      refine List.pairwise_cons.mpr ⟨fun y hy => ?_, insI_sorted i r h2⟩
      rcases List.mem_cons.mp ((insI_perm i r).mem_iff.mp hy) with rfl | z
      · omega
      · exact h1 y z
theorem sortI_sorted : ∀ l : List Int, (sortI l).Pairwise (· ≤ ·)
  | [] => .nil
  | i :: r => insI_sorted i _ (sortI_sorted r)
theorem sorted_uniq : ∀ {l m : List Int}, l.Perm m → l.Pairwise (· ≤ ·) → m.Pairwise (· ≤ ·) → l = m
  | [], m, p, _, _ => (List.Perm.nil_eq p)
  | a :: l, [], p, _, _ => absurd p.length_eq (by simp)
  | a :: l, b :: m, p, h, k => by
    obtain ⟨h1, h2⟩ := List.pairwise_cons.mp h
    obtain ⟨k1, k2⟩ := List.pairwise_cons.mp k
    have e : a = b := by
      have x : a ≤ b := by
        rcases List.mem_cons.mp (p.mem_iff.mpr List.mem_cons_self) with z | z
        · omega
        · exact h1 b z
      have y : b ≤ a := by
        rcases List.mem_cons.mp (p.mem_iff.mp List.mem_cons_self) with z | z
        · omega
        · exact k1 a z
      omega
    subst e
    rw [sorted_uniq (List.Perm.cons_inv p) h2 k2]
section
variable {X : Cx} {c : Cf}
theorem cr_len (hK : X.K = c.K) : CallR X (.builtin "len") (rBi c (biop .len)) := by
  intro pins s σ H vs us Q I r ⟨F, ds, r', l, hx, hb, q⟩
  obtain ⟨d, rfl⟩ := biop_one hb (by decide)
  obtain ⟨v, rfl, h⟩ := hx.one
  have hb : (rowOf d).map (fun xs => R.v (.int xs.length)) = some r' := hb
  cases e : rowOf d with
  | none => rw [e] at hb; cases hb
  | some xs =>
    rw [e] at hb
    cases hb
    obtain ⟨a, ws, rfl, h1, h2⟩ := h.row hK l e
    exact call_len_seq pins s σ H _ us Q I r ⟨a, ws, rfl, h1, q _ _ (.inl ⟨rfl, by rw [h2.length]; exact .int _⟩)⟩
theorem cr_abs (hK : X.K = c.K) : CallR X (.builtin "abs") (rBi c (biop .abs)) := by
  intro pins s σ H vs us Q I r ⟨F, ds, r', l, hx, hb, q⟩
  obtain ⟨d, rfl⟩ := biop_one hb (by decide)
  obtain ⟨v, rfl, h⟩ := hx.one
  cases d with
  | int i =>
    cases hb
    exact call_abs pins s σ H _ us Q I r ⟨i, by rw [h.int], q _ _ (.inl ⟨rfl, .int _⟩)⟩
  | _ => cases hb
theorem cr_int (hK : X.K = c.K) : CallR X (.type "int") (rBi c (biop .int)) := by
  intro pins s σ H vs us Q I r ⟨F, ds, r', l, hx, hb, q⟩
  obtain ⟨d, rfl⟩ := biop_one hb (by decide)
  obtain ⟨v, rfl, h⟩ := hx.one
  cases d with
  | int i =>
    cases hb
    exact call_int1 pins s σ H _ us Q I r (.inl ⟨i, by rw [h.int], q _ _ (.inl ⟨rfl, .int _⟩)⟩)
  | bl i =>
    cases hb
    exact call_int1 pins s σ H _ us Q I r (.inr ⟨i, by rw [h.bl], q _ _ (.inl ⟨rfl, .int _⟩)⟩)
  | _ => cases hb
theorem cr_sumD (hK : X.K = c.K) (hc : X.calm = true) : CallR X (.builtin "sum") (rBi c (biop .sum)) := by
  intro pins s σ H vs us Q I r ⟨F, ds, r', l, hx, hb, q⟩
  obtain ⟨d, rfl⟩ := biop_one hb (by decide)
  obtain ⟨v, rfl, h⟩ := hx.one
  cases d with
  | lst xs =>
    have hb : (intsD xs).map (fun is => R.v (.int is.sum)) = some r' := hb
    cases e : intsD xs with
    | none => rw [e] at hb; cases hb
    | some is =>
      rw [e] at hb
      cases hb
      obtain ⟨a, ws, rfl, h1, h2⟩ := h.lst l
      obtain ⟨e1, _⟩ := h2.ints e
      exact cr_sum hc pins s σ H _ us Q I r ⟨a, is, rfl, SqL.of (by rw [← e1]; exact h1), q _ _ (.inl ⟨rfl, .int _⟩)⟩
  | tup xs =>
    have hb : (intsD xs).map (fun is => R.v (.int is.sum)) = some r' := hb
    cases e : intsD xs with
    | none => rw [e] at hb; cases hb
    | some is =>
      rw [e] at hb
      cases hb
      obtain ⟨a, ws, rfl, h1, h2⟩ := h.tup
      obtain ⟨e1, _⟩ := h2.ints e
      rw [hK.symm] at h1
      exact cr_sumT hc pins s σ H _ us Q I r ⟨a, is, rfl, by rw [← e1]; exact sqT_mono l h1, q _ _ (.inl ⟨rfl, .int _⟩)⟩
  | _ => cases hb
theorem cr_allD (hK : X.K = c.K) (hc : X.calm = true) : CallR X (.builtin "all") (rBi c (biop .all)) := by
  intro pins s σ H vs us Q I r ⟨F, ds, r', l, hx, hb, q⟩
  obtain ⟨d, rfl⟩ := biop_one hb (by decide)
  obtain ⟨v, rfl, h⟩ := hx.one
  cases d with
  | lst xs =>
    have hb : (blsD xs).map (fun is => R.v (.bl (is.all id))) = some r' := hb
    cases e : blsD xs with
    | none => rw [e] at hb; cases hb
    | some is =>
      rw [e] at hb
      cases hb
      obtain ⟨a, ws, rfl, h1, h2⟩ := h.lst l
      have e1 := h2.bls e
      exact cr_all hc pins s σ H _ us Q I r ⟨a, is, rfl, SqL.of (by rw [← e1]; exact h1), q _ _ (.inl ⟨rfl, .bl _⟩)⟩
  | _ => cases hb
theorem cr_anyD (hK : X.K = c.K) (hc : X.calm = true) : CallR X (.builtin "any") (rBi c (biop .any)) := by
  intro pins s σ H vs us Q I r ⟨F, ds, r', l, hx, hb, q⟩
  obtain ⟨d, rfl⟩ := biop_one hb (by decide)
  obtain ⟨v, rfl, h⟩ := hx.one
  cases d with
  | lst xs =>
    have hb : (blsD xs).map (fun is => R.v (.bl (is.any id))) = some r' := hb
    cases e : blsD xs with
    | none => rw [e] at hb; cases hb
    | some is =>
      rw [e] at hb
      cases hb
      obtain ⟨a, ws, rfl, h1, h2⟩ := h.lst l
      have e1 := h2.bls e
      exact cr_any hc pins s σ H _ us Q I r ⟨a, is, rfl, SqL.of (by rw [← e1]; exact h1), q _ _ (.inl ⟨rfl, .bl _⟩)⟩
  | _ => cases hb
theorem cr_maxD (hK : X.K = c.K) (hc : X.calm = true) : CallR X (.builtin "max") (rBi c (biop .max)) := by
  intro pins s σ H vs us Q I r ⟨F, ds, r', l, hx, hb, q⟩
  obtain ⟨d, rfl⟩ := biop_one hb (by decide)
  obtain ⟨v, rfl, h⟩ := hx.one
  cases d with
  | lst xs =>
    have hb : (intsD xs).bind (fun is => (maxL is).map fun i => R.v (.int i)) = some r' := hb
    cases e : intsD xs with
    | none => rw [e] at hb; cases hb
    | some is =>
      rw [e] at hb
      have hb : (maxL is).map (fun i => R.v (.int i)) = some r' := hb
      cases e2 : maxL is with
      | none => rw [e2] at hb; cases hb
      | some i =>
        rw [e2] at hb
        cases hb
        obtain ⟨a, ws, rfl, h1, h2⟩ := h.lst l
        obtain ⟨e1, _⟩ := h2.ints e
        refine cr_max hc pins s σ H _ us Q I r ⟨a, is, rfl, SqL.of (by rw [← e1]; exact h1), ?_, fun m hm hu => ?_⟩
        · cases is with
          | nil => cases e2
          | cons _ _ => exact Nat.succ_pos _
        · rw [maxL_uniq e2 hm hu]
          exact q _ _ (.inl ⟨rfl, .int _⟩)
  | tup xs =>
    have hb : (intsD xs).bind (fun is => (maxL is).map fun i => R.v (.int i)) = some r' := hb
    cases e : intsD xs with
    | none => rw [e] at hb; cases hb
    | some is =>
      rw [e] at hb
      have hb : (maxL is).map (fun i => R.v (.int i)) = some r' := hb
      cases e2 : maxL is with
      | none => rw [e2] at hb; cases hb
      | some i =>
        rw [e2] at hb
        cases hb
        obtain ⟨a, ws, rfl, h1, h2⟩ := h.tup
        obtain ⟨e1, _⟩ := h2.ints e
        rw [hK.symm] at h1
        refine cr_maxT hc pins s σ H _ us Q I r ⟨a, is, rfl, by rw [← e1]; exact sqT_mono l h1, ?_, fun m hm hu => ?_⟩
        · cases is with
          | nil => cases e2
          | cons _ _ => exact Nat.succ_pos _
        · rw [maxL_uniq e2 hm hu]
          exact q _ _ (.inl ⟨rfl, .int _⟩)
  | _ => cases hb
theorem cr_minD (hK : X.K = c.K) (hc : X.calm = true) : CallR X (.builtin "min") (rBi c (biop .min)) := by
  intro pins s σ H vs us Q I r ⟨F, ds, r', l, hx, hb, q⟩
  obtain ⟨d, rfl⟩ := biop_one hb (by decide)
  obtain ⟨v, rfl, h⟩ := hx.one
  cases d with
  | lst xs =>
    have hb : (intsD xs).bind (fun is => (minL is).map fun i => R.v (.int i)) = some r' := hb
    cases e : intsD xs with
    | none => rw [e] at hb; cases hb
    | some is =>
      rw [e] at hb
      have hb : (minL is).map (fun i => R.v (.int i)) = some r' := hb
      cases e2 : minL is with
      | none => rw [e2] at hb; cases hb
      | some i =>
        rw [e2] at hb
        cases hb
        obtain ⟨a, ws, rfl, h1, h2⟩ := h.lst l
        obtain ⟨e1, _⟩ := h2.ints e
        refine cr_min hc pins s σ H _ us Q I r ⟨a, is, rfl, SqL.of (by rw [← e1]; exact h1), ?_, fun m hm hu => ?_⟩
        · cases is with
          | nil => cases e2
          | cons _ _ => exact Nat.succ_pos _
        · rw [minL_uniq e2 hm hu]
          exact q _ _ (.inl ⟨rfl, .int _⟩)
  | tup xs =>
    have hb : (intsD xs).bind (fun is => (minL is).map fun i => R.v (.int i)) = some r' := hb
    cases e : intsD xs with
    | none => rw [e] at hb; cases hb
    | some is =>
      rw [e] at hb
      have hb : (minL is).map (fun i => R.v (.int i)) = some r' := hb
      cases e2 : minL is with
      | none => rw [e2] at hb; cases hb
      | some i =>
        rw [e2] at hb
        cases hb
        obtain ⟨a, ws, rfl, h1, h2⟩ := h.tup
        obtain ⟨e1, _⟩ := h2.ints e
        rw [hK.symm] at h1
        refine cr_minT hc pins s σ H _ us Q I r ⟨a, is, rfl, by rw [← e1]; exact sqT_mono l h1, ?_, fun m hm hu => ?_⟩
        · cases is with
          | nil => cases e2
          | cons _ _ => exact Nat.succ_pos _
        · rw [minL_uniq e2 hm hu]
          exact q _ _ (.inl ⟨rfl, .int _⟩)
  | _ => cases hb
theorem two_ints {b : Bi} (hb' : b = .max2 ∨ b = .min2) {ds : List D} {r : R} (h : biop b ds = some r) : ∃ i j, ds = [.int i, .int j] := by
  rcases hb' with rfl | rfl
  all_goals
    match ds with
    | [] => cases h
    | [d] => cases d <;> simp [biop] at h
    | _ :: _ :: _ :: _ => simp [biop] at h
    | [d, e] => cases d <;> cases e <;> first | exact ⟨_, _, rfl⟩ | (simp [biop] at h; done)
theorem cr_max2D (hK : X.K = c.K) (hc : X.calm = true) : CallR X (.builtin "max") (rBi c (biop .max2)) := by
  intro pins s σ H vs us Q I r ⟨F, ds, r', l, hx, hb, q⟩
  obtain ⟨i, j, rfl⟩ := two_ints (.inl rfl) hb
  obtain ⟨v, w, rfl, h1, h2⟩ := hx.two
  cases hb
  refine call_max2 hc pins s σ H _ us Q I r ⟨i, j, by rw [h1.int, h2.int], ?_⟩
  have e : (if j > i then j else i) = max i j := by rw [Int.max_def]; split <;> split <;> omega
  rw [e]
  exact q _ _ (.inl ⟨rfl, .int _⟩)
theorem cr_min2D (hK : X.K = c.K) (hc : X.calm = true) : CallR X (.builtin "min") (rBi c (biop .min2)) := by
  intro pins s σ H vs us Q I r ⟨F, ds, r', l, hx, hb, q⟩
  obtain ⟨i, j, rfl⟩ := two_ints (.inr rfl) hb
  obtain ⟨v, w, rfl, h1, h2⟩ := hx.two
  cases hb
  refine call_min2 hc pins s σ H _ us Q I r ⟨i, j, by rw [h1.int, h2.int], ?_⟩
  have e : (if j < i then j else i) = min i j := by rw [Int.min_def]; split <;> split <;> omega
  rw [e]
  exact q _ _ (.inl ⟨rfl, .int _⟩)
theorem cr_tuple (hK : X.K = c.K) : CallR X (.type "tuple") (rBi c (biop .tuple)) := by
  intro pins s σ H vs us Q I r ⟨F, ds, r', l, hx, hb, q⟩
  obtain ⟨d, rfl⟩ := biop_one hb (by decide)
  obtain ⟨v, rfl, h⟩ := hx.one
  cases d with
  | tup xs =>
    cases hb
    obtain ⟨a, ws, rfl, h1, h2⟩ := h.tup
    exact call_tuple_of pins s σ H _ us Q I r ⟨a, ws, rfl, .inr ⟨sqTX hK l h1, q _ _ (.inl ⟨rfl, .tup h1 h2⟩)⟩⟩
  | lst xs =>
    cases hb
    obtain ⟨a, ws, rfl, h1, h2⟩ := h.lst l
    exact call_tuple_of pins s σ H _ us Q I r ⟨a, ws, rfl, .inl ⟨SqL.of h1, fun p hp => q _ _ (.inr ⟨p, xs, ws, rfl, rfl, hp, rfl, h2⟩)⟩⟩
  | _ => cases hb
theorem cr_list (hK : X.K = c.K) : CallR X (.type "list") (rBi c (biop .list)) := by
  intro pins s σ H vs us Q I r ⟨F, ds, r', l, hx, hb, q⟩
  obtain ⟨d, rfl⟩ := biop_one hb (by decide)
  obtain ⟨v, rfl, h⟩ := hx.one
  have hb : (rowOf d).map (fun xs => R.fl xs) = some r' := hb
  cases e : rowOf d with
  | none => rw [e] at hb; cases hb
  | some xs =>
    rw [e] at hb
    cases hb
    obtain ⟨a, ws, rfl, h1, h2⟩ := h.row hK l e
    exact call_list_of pins s σ H _ us Q I r ⟨a, ws, rfl, h1, fun p hp => q _ _ ⟨p, ws, rfl, hp, rfl, h2⟩⟩
/-! ### a call of a built-in -/
theorem go_looks {γ β : Type} {lc : Lc} {W : WX} {ρ : Env} {σ : SS} {H : Hp} {O Oc : List Addr} {PQ : γ → Env → β → Hp → List Addr → Prop} {Q : β → Hp → Prop} {rs : List R} {g : List D → Option γ} (h : Go c lc W σ H O Oc (Rs.opt ρ ((looks ρ rs).bind g)) PQ Q) :
    ∃ ds r, looks ρ rs = some ds ∧ g ds = some r ∧ Go c lc W σ H O Oc (.ok r ρ) PQ Q := by
  cases l1 : looks ρ rs with
  | none => rw [l1] at h; exact h.elim
  | some ds =>
    rw [l1] at h
    have h : Go c lc W σ H O Oc (Rs.opt ρ (g ds)) PQ Q := h
    cases e : g ds with
    | none => rw [e] at h; exact h.elim
    | some r => rw [e] at h; exact ⟨ds, r, rfl, e, h⟩
end
theorem j_bi (hcm : nm.calm = true) {b : Bi} {x : Str} {f : Value} {es : List Expr} {e : Expr} {Es : List E} {p pos : Pos} (hf : (∃ id, f = .builtin id) ∨ ∃ T, f = .type T) (hb : bootBuiltins x = some f) (hc : ∀ (X : Cx) (c : Cf), X.K = c.K → X.calm = true → CallR X f (rBi c (biop b)))
    (hm : x ∈ nm.free) (hg : sc.names.lookup x = some .globalImplicit) (hn : x ≠ "__name__") (hd : (x == ("__debug__" : Str)) = false) (h : JA nm N sc (e :: es) Es) : J nm N sc (.Call (.Name x p) (e :: es) [] pos) (.bi b Es) := by
  have hs := h.s
  rw [List.all_cons, Bool.and_eq_true] at hs
  have h : JE nm N sc (.Call (.Name x p) (e :: es) [] pos) (.bi b Es) := by
    intro c T k X W lc C
    have hG : Gl X x := show X.env.scope.names.lookup x = _ by rw [C.hsc]; exact hg
    have base : PE X (.Call (.Name x p) (e :: es) [] pos) (tCB (rBi c (biop b)) (rA c lc W (evs T Es))) := by
      rcases hf with ⟨id, rfl⟩ | ⟨T', rfl⟩
      · exact pe_callB (hc X c C.hK (C.calm hcm)) hG (C.free x hm) hb (h.a c T k X W lc C) hn hd (starE_cons hs.1) (star_any hs.2)
      · exact pe_callTy (hc X c C.hK (C.calm hcm)) hG (C.free x hm) hb (h.a c T k X W lc C) hn hd (starE_cons hs.1) (star_any hs.2)
    refine PE.imp base fun σ H Q ⟨ρ, O, Oc, ok, g⟩ => ?_
    rw [den] at g
    simp only [Den.of] at g
    refine ⟨ρ, O, Oc, ok, (Go.bind [] g).imp fun vs H1 ⟨rs, ρ1, O1, st, ⟨ok1, rr, n⟩, g1⟩ => ?_⟩
    have ok1 : Ok c lc ρ1 σ H1 O1 (offs Oc rs vs) := ok1
    obtain ⟨ds, r, l1, e1, g2⟩ := go_looks g1
    exact ⟨_, ds, r, Vw.le _ _, looks_rcs ok1 rr l1, e1, fun v' H' q => Go.res ok1 offs_sub (fun b hb => st.none hb) g2 q⟩
  exact ⟨h, jt_of h (fun _ => by rw [den] <;> rfl) fun _ _ => rfl, rfl⟩
end VL
end
section
set_option maxHeartbeats 4000000
/-! V8: places, slices, kinds, methods, tables. -/
namespace VL
open PySem PySem.Spec PyProof.Rows L2
variable {nm : Nm} {N : List Str} {sc : Scope}
section
variable {c : Cf} {F H : Hp}
/-! ### a[i] -/
theorem at_of {xs : List D} {vs : List V} {i : Int} {d : D} (r : Rps c F xs vs) (h : (placeOf xs.length i).bind (fun k => xs[k]?) = some d) : ∃ v, atI vs i = some v ∧ Rp c F d v := by
  cases e : placeOf xs.length i with
  | none => rw [e] at h; cases h
  | some k =>
    rw [e] at h
    obtain ⟨v, h1, h2⟩ := r.get (show xs[k]? = some d from h)
    refine ⟨v, ?_, h2⟩
    have e2 : ixN vs.length i = some k := by rw [← r.length]; exact e
    unfold atI
    rw [e2]
    exact h1
theorem subD_inv {d e r : D} (h : subD d e = some r) : ∃ xs i, e = .int i ∧ (d = .tup xs ∨ d = .lst xs) ∧ (placeOf xs.length i).bind (fun k => xs[k]?) = some r := by
  cases d <;> cases e <;> first
    | (simp [subD] at h; done)
    | exact ⟨_, _, rfl, .inl rfl, h⟩
    | exact ⟨_, _, rfl, .inr rfl, h⟩
/-! ### slices -/
def loOf : Sk → List Int → Option Int
  | .lo, [i] => some i
  | .both, [i, _] => some i
  | _, _ => none
def hiOf : Sk → List Int → Option Int
  | .hi, [j] => some j
  | .both, [_, j] => some j
  | _, _ => none
def skArgs : Sk → List Int → Prop
  | .all, is => is = []
  | .rev, _ => False
  | .lo, is => ∃ i, is = [i]
  | .hi, is => ∃ i, is = [i]
  | .both, is => ∃ i j, is = [i, j]
theorem slcL_inv {k : Sk} {xs ys : List D} {is : List Int} (hk : k ≠ .rev) (h : slcL k xs is = some ys) : ys = cutL xs (HT.sIx xs.length 0 (loOf k is)) (HT.sIx xs.length xs.length (hiOf k is)) := by
  match k, is, h with
  | .all, [], h =>
    cases h
    show xs = (xs.drop 0).take (xs.length - 0)
    simp
  | .lo, [i], h => cases h; rfl
  | .hi, [i], h => cases h; rfl
  | .both, [i, j], h => cases h; rfl
  | .rev, _, _ => exact absurd rfl hk
theorem cutV_eq (vs : List V) (lo hi : Option Int) : cutV vs lo hi = cutL vs (HT.sIx vs.length 0 lo) (HT.sIx vs.length vs.length hi) := rfl
theorem Rps.cut {xs : List D} {vs : List V} (r : Rps c F xs vs) (a b : Nat) : Rps c F (cutL xs a b) (cutL vs a b) := (r.drop a).take (b - a)
theorem cut_whole {α : Type} (xs : List α) : cutL xs 0 xs.length = xs := by simp [cutL]
end
/-- a slice by values: what HandS asks -/
def rSl (c : Cf) (k : Sk) : V → Option Int → Option Int → Hp → VK → Prop := fun x lo hi H Q => ∃ F d is r, Le F H ∧ RC c F H d x ∧ lo = loOf k is ∧ hi = hiOf k is ∧ k ≠ .rev ∧ slcD k d is = some r ∧ ∀ v H', Res c F H r v H' → Q v H'
theorem slr (c : Cf) (k : Sk) (X : Cx) (hK : X.K = c.K) : SlR X (rSl c k) := by
  intro pins s σ H x v vl vu lo hi sl Q I rx hs pl pu h
  obtain ⟨F, d, is, r, l, hx, elo, ehi, hk, hr, q⟩ := h
  subst elo ehi
  cases d with
  | tup xs =>
    have hr : (slcL k xs is).map (fun ys => R.v (.tup ys)) = some r := hr
    cases e : slcL k xs is with
    | none => rw [e] at hr; cases hr
    | some ys =>
      rw [e] at hr
      cases hr
      have e2 := slcL_inv hk e
      obtain ⟨a, vs, rfl, h1, h2⟩ := hx.tup
      refine sl_tupA pins s σ H _ v vl vu _ _ sl Q I rx hs pl pu ⟨a, vs, rfl, sqTX hK l h1, fun z => q _ _ (.inl ⟨rfl, ?_⟩), fun _ p hp => q _ _ (.inr ⟨p, ys, _, rfl, rfl, hp, rfl, ?_⟩)⟩
      · rw [← h2.length] at z
        rw [z.1, z.2, cut_whole] at e2
        subst e2
        exact .tup h1 h2
      · rw [e2, cutV_eq, ← h2.length]
        exact h2.cut _ _
  | lst xs =>
    have hr : (slcL k xs is).map (fun ys => R.fl ys) = some r := hr
    cases e : slcL k xs is with
    | none => rw [e] at hr; cases hr
    | some ys =>
      rw [e] at hr
      cases hr
      have e2 := slcL_inv hk e
      obtain ⟨a, vs, rfl, h1, h2⟩ := hx.lst l
      refine sl_list pins s σ H _ v vl vu _ _ sl Q I rx hs pl pu ⟨a, vs, rfl, SqL.of h1, fun p hp => q _ _ ⟨p, _, rfl, hp, rfl, ?_⟩⟩
      rw [e2, cutV_eq, ← h2.length]
      exact h2.cut _ _
  | scr xs =>
    have hr : (slcL k (xs.map D.int) is).map (fun ys => R.fl ys) = some r := hr
    cases e : slcL k (xs.map D.int) is with
    | none => rw [e] at hr; cases hr
    | some ys =>
      rw [e] at hr
      cases hr
      have e2 := slcL_inv hk e
      have hx := hx.rp fun _ z => nomatch z
      cases hx with
      | scr h1 =>
        have h2 : Rps c F (xs.map D.int) (xs.map V.int) := Rps.ofInts xs
        refine sl_list pins s σ H _ v vl vu _ _ sl Q I rx hs pl pu ⟨_, _, rfl, by rw [hK]; exact sqL_mono l h1, fun p hp => q _ _ ⟨p, _, rfl, hp, rfl, ?_⟩⟩
        rw [e2, cutV_eq, ← h2.length]
        exact h2.cut _ _
  | _ => cases hr
theorem j_sub {e1 e2 : Expr} {E1 E2 : E} {pos : Pos} (h1 : J nm N sc e1 E1) (h2 : J nm N sc e2 E2) (hp : PlainIx e2) : J nm N sc (.Subscript e1 e2 pos) (.sub E1 E2) := by
  have h : JE nm N sc (.Subscript e1 e2 pos) (.sub E1 E2) := by
    intro c T k X W lc C
    have ixr : IxR X (fun x y H Q => rIxL X.K x y H Q ∨ rIxT X.K x y H Q) := by
      intro value slice pins s σ H x y v u Q I rx ry h hs
      rcases h with h | h
      · exact ix_list value slice pins s σ H x y v u Q I rx ry h hs
      · exact ix_tup value slice pins s σ H x y v u Q I rx ry h hs
    refine PE.imp (pe_ix ixr (h1.je c T k X W lc C) (h2.je c T k X W lc C) hp) fun σ H Q ⟨ρ, O, Oc, ok, g⟩ => ?_
    rw [den] at g
    simp only [Den.of] at g
    refine go2 (R2' := fun v w H2 => rIxL X.K v w H2 Q ∨ rIxT X.K v w H2 Q) g ok fun x y v w ρ2 H2 O2 st ok2 r1 r2 n g2 => ?_
    cases l1 : look ρ2 x with
    | none => rw [l1] at g2; exact g2.elim
    | some d =>
      cases l2 : look ρ2 y with
      | none => rw [l1, l2] at g2; exact g2.elim
      | some e =>
        rw [l1, l2] at g2
        cases hb : subD d e with
        | none => rw [show ((some d).bind fun d => (some e).bind fun e => (subD d e).map R.v) = none from by show (subD d e).map _ = none; rw [hb]; rfl] at g2; exact g2.elim
        | some r =>
          rw [show ((some d).bind fun d => (some e).bind fun e => (subD d e).map R.v) = some (.v r) from by show (subD d e).map _ = _; rw [hb]; rfl] at g2
          obtain ⟨xs, i, rfl, hd, he⟩ := subD_inv hb
          have lv : Le (Vw H2 (O2 ++ (pend y w ++ (pend x v ++ Oc)))) (Vw H2 (O2 ++ Oc)) := Vw.sub fun b hb => by
            rcases List.mem_append.mp hb with z | z
            · exact List.mem_append_left _ z
            · exact List.mem_append_right _ (List.mem_append_right _ (List.mem_append_right _ z))
          have c1 := ok2.look r1 l1
          have c2 := (ok2.look r2 l2).int
          rcases hd with rfl | rfl
          · obtain ⟨a, vs, rfl, k1, k2⟩ := c1.tup
            obtain ⟨z, z1, z2⟩ := at_of k2 he
            exact .inr ⟨a, vs, i, z, rfl, c2, sqTX C.hK (Vw.le _ _) k1, z1, go_v g2 (ok2.sub subl2) (z2.mono lv)⟩
          · obtain ⟨a, vs, rfl, k1, k2⟩ := c1.lst (Vw.le _ _)
            obtain ⟨z, z1, z2⟩ := at_of k2 he
            exact .inl ⟨a, vs, i, z, rfl, c2, SqL.of k1, z1, go_v g2 (ok2.sub subl2) (z2.mono lv)⟩
  exact ⟨h, jt_of h (fun _ => by rw [den] <;> rfl) fun _ _ => rfl, rfl⟩
theorem rE.imp' {c : Cf} {lc : Lc} {W : WX} {f : Env → Rs R} {σ : SS} {H : Hp} {Q Q' : VK} (h : rE c lc W f σ H Q) (i : ∀ v H', Q v H' → Q' v H') : rE c lc W f σ H Q' := by
  obtain ⟨ρ, O, Oc, ok, g⟩ := h
  exact ⟨ρ, O, Oc, ok, g.imp i⟩
/-! ### a[i:j]: the row, then its ends -/
theorem go_slc {c : Cf} {lc : Lc} {W : WX} {σ : SS} {H H0 : Hp} {O Oc Oc1 : List Addr} {ρ : Env} {k : Sk} {x : R} {v : V} {is : List Int} {Q : VK} (ok : Ok c lc ρ σ H O Oc1) (hs : Oc.Sublist Oc1) (hn : ∀ b, H b = none → H0 b = none) (rx : RR c σ H O Oc1 x v) (hk : k ≠ .rev)
    (g : Go c lc W σ H O Oc (Rs.opt ρ ((look ρ x).bind fun d => slcD k d is)) (PV c lc σ Oc H0) Q) : rSl c k v (loOf k is) (hiOf k is) H Q := by
  cases l1 : look ρ x with
  | none => rw [l1] at g; exact g.elim
  | some d =>
    rw [l1] at g
    have g : Go c lc W σ H O Oc (Rs.opt ρ (slcD k d is)) (PV c lc σ Oc H0) Q := g
    cases e : slcD k d is with
    | none => rw [e] at g; exact g.elim
    | some r =>
      rw [e] at g
      exact ⟨_, d, is, r, Vw.le _ _, ok.look rx l1, rfl, rfl, hk, e, fun v' H' q => Go.res ok hs hn g q⟩
theorem j_of {e : Expr} {E : E} (h : JE nm N sc e E) (hs : notStar e = true) (hd : ∀ T, (den T E).t = fun ρ => ((den T E).v ρ).bind asTruth) (he : ∀ env whole, isTrue e env whole = (do let v ← whole; standAt e.pos; holding [v] (truthy v))) : J nm N sc e E := ⟨h, jt_of h hd he, hs⟩
/-- an int, behind a row that is pending -/
theorem go_int {β γ : Type} {c : Cf} {lc : Lc} {W : WX} {ρ : Env} {σ : SS} {H : Hp} {O Oc ps : List Addr} {Q : β → Hp → Prop} {fa : Env → Rs R} {kk : Int → Env → Rs γ} {PQ : γ → Env → β → Hp → List Addr → Prop} {x : R} {v : V}
    (g : Go c lc W σ H O Oc ((fa ρ).bind fun y ρ1 => match look ρ1 y with | some (.int i) => kk i ρ1 | _ => .no) PQ Q) (ok : Ok c lc ρ σ H O (ps ++ Oc)) (rx : RR c σ H O (ps ++ Oc) x v) {R2' : V → Hp → Prop}
    (hk : ∀ i ρ2 H2 O2, Step H O H2 O2 → Ok c lc ρ2 σ H2 O2 (ps ++ Oc) → RR c σ H2 O2 (ps ++ Oc) x v → Go c lc W σ H2 O2 Oc (kk i ρ2) PQ Q → R2' (.int i) H2) :
    rE c lc W fa σ H fun w H2 => ∃ i, w = .int i ∧ R2' (.int i) H2 := by
  refine ⟨ρ, O, ps ++ Oc, ok, (Go.bind ps g).imp fun w H2 ⟨y, ρ2, O2, st2, ⟨pr2, n2⟩, g2⟩ => ?_⟩
  cases l1 : look ρ2 y with
  | none => rw [l1] at g2; exact g2.elim
  | some d =>
    rw [l1] at g2
    cases d with
    | int i =>
      refine ⟨i, (pr2.ok.look pr2.rr l1).int, hk i ρ2 H2 O2 st2 (pend_sub pr2.ok) ?_ g2⟩
      exact rx.later st2 ok.dis (fun b hb => hb) fun b hb => .inl hb
    | _ => exact g2.elim
theorem j_slcAll {e1 : Expr} {E1 : E} {p2 pos : Pos} (h1 : J nm N sc e1 E1) : J nm N sc (.Subscript e1 (.Slice none none none p2) pos) (.slc .all E1 []) := by
  refine j_of ?_ rfl (fun _ => by rw [den] <;> rfl) fun _ _ => rfl
  intro c T k X W lc C
  refine PE.imp (pe_slice (slr c .all X C.hK) (h1.je c T k X W lc C) po_none po_none) fun σ H Q ⟨ρ, O, Oc, ok, g⟩ => ?_
  rw [den] at g
  simp only [Den.of, evi, Rs.bind_ok] at g
  refine ⟨ρ, O, Oc, ok, (Go.bind [] g).imp fun v H1 ⟨x, ρ1, O1, st, ⟨pr, n⟩, g1⟩ => ?_⟩
  have pr : PR c lc ρ1 σ H1 O1 Oc x v := pr
  exact go_slc pr.ok (List.sublist_append_right _ _) (fun b hb => st.none hb) pr.rr (by decide) g1
theorem evi_one {T : Th} {E2 : E} {γ : Type} {ρ1 : Env} {K : List Int → Env → Rs γ} : (evi T [E2] ρ1).bind K = ((den T E2).v ρ1).bind fun y ρ2 => match look ρ2 y with | some (.int i) => K [i] ρ2 | _ => .no := by
  rw [evi]
  rw [Rs.bind_assoc]
  congr 1
  funext y ρ2
  cases look ρ2 y with
  | none => rfl
  | some d => cases d <;> first | rfl | (simp only [evi] <;> rfl)
theorem evi_two {T : Th} {E2 E3 : E} {γ : Type} {ρ1 : Env} {K : List Int → Env → Rs γ} : (evi T [E2, E3] ρ1).bind K = ((den T E2).v ρ1).bind fun y ρ2 => match look ρ2 y with | some (.int i) => (((den T E3).v ρ2).bind fun z ρ3 => match look ρ3 z with | some (.int j) => K [i, j] ρ3 | _ => .no) | _ => .no := by
  rw [evi]
  rw [Rs.bind_assoc]
  congr 1
  funext y ρ2
  cases look ρ2 y with
  | none => rfl
  | some d => cases d with
    | int i =>
      show ((evi T [E3] ρ2).bind fun is ρ3 => Rs.ok (i :: is) ρ3).bind K = _
      rw [Rs.bind_assoc, evi_one]
      rfl
    | _ => rfl
theorem j_slcLo {e1 e2 : Expr} {E1 E2 : E} {p2 pos : Pos} (h1 : J nm N sc e1 E1) (h2 : J nm N sc e2 E2) : J nm N sc (.Subscript e1 (.Slice (some e2) none none p2) pos) (.slc .lo E1 [E2]) := by
  refine j_of ?_ rfl (fun _ => by rw [den] <;> rfl) fun _ _ => rfl
  intro c T k X W lc C
  refine PE.imp (pe_slice (slr c .lo X C.hK) (h1.je c T k X W lc C) (po_some (h2.je c T k X W lc C)) po_none) fun σ H Q ⟨ρ, O, Oc, ok, g⟩ => ?_
  rw [den] at g
  simp only [Den.of, evi_one] at g
  refine ⟨ρ, O, Oc, ok, (Go.bind [] g).imp fun v H1 ⟨x, ρ1, O1, st, ⟨pr, n⟩, g1⟩ => ?_⟩
  have pr : PR c lc ρ1 σ H1 O1 Oc x v := pr
  refine go_int (R2' := fun w H2 => ∀ i, w = .int i → rSl c .lo v (some i) none H2 Q) g1 pr.ok pr.rr (fun i ρ2 H2 O2 st2 ok2 r2 g2 j e => ?_) |>.imp' ?_
  · cases e
    exact go_slc ok2 (List.sublist_append_right _ _) (fun b hb => st.none (st2.none hb)) r2 (by decide) g2
  · exact fun w H2 ⟨i, e, h⟩ => ⟨i, e, h i rfl⟩
theorem j_slcHi {e1 e2 : Expr} {E1 E2 : E} {p2 pos : Pos} (h1 : J nm N sc e1 E1) (h2 : J nm N sc e2 E2) : J nm N sc (.Subscript e1 (.Slice none (some e2) none p2) pos) (.slc .hi E1 [E2]) := by
  refine j_of ?_ rfl (fun _ => by rw [den] <;> rfl) fun _ _ => rfl
  intro c T k X W lc C
  refine PE.imp (pe_slice (slr c .hi X C.hK) (h1.je c T k X W lc C) po_none (po_some (h2.je c T k X W lc C))) fun σ H Q ⟨ρ, O, Oc, ok, g⟩ => ?_
  rw [den] at g
  simp only [Den.of, evi_one] at g
  refine ⟨ρ, O, Oc, ok, (Go.bind [] g).imp fun v H1 ⟨x, ρ1, O1, st, ⟨pr, n⟩, g1⟩ => ?_⟩
  have pr : PR c lc ρ1 σ H1 O1 Oc x v := pr
  refine go_int (R2' := fun w H2 => ∀ i, w = .int i → rSl c .hi v none (some i) H2 Q) g1 pr.ok pr.rr (fun i ρ2 H2 O2 st2 ok2 r2 g2 j e => ?_) |>.imp' ?_
  · cases e
    exact go_slc ok2 (List.sublist_append_right _ _) (fun b hb => st.none (st2.none hb)) r2 (by decide) g2
  · exact fun w H2 ⟨i, e, h⟩ => ⟨i, e, h i rfl⟩
theorem j_slcBo {e1 e2 e3 : Expr} {E1 E2 E3 : E} {p2 pos : Pos} (h1 : J nm N sc e1 E1) (h2 : J nm N sc e2 E2) (h3 : J nm N sc e3 E3) : J nm N sc (.Subscript e1 (.Slice (some e2) (some e3) none p2) pos) (.slc .both E1 [E2, E3]) := by
  refine j_of ?_ rfl (fun _ => by rw [den] <;> rfl) fun _ _ => rfl
  intro c T k X W lc C
  refine PE.imp (pe_slice (slr c .both X C.hK) (h1.je c T k X W lc C) (po_some (h2.je c T k X W lc C)) (po_some (h3.je c T k X W lc C))) fun σ H Q ⟨ρ, O, Oc, ok, g⟩ => ?_
  rw [den] at g
  simp only [Den.of, evi_two] at g
  refine ⟨ρ, O, Oc, ok, (Go.bind [] g).imp fun v H1 ⟨x, ρ1, O1, st, ⟨pr, n⟩, g1⟩ => ?_⟩
  have pr : PR c lc ρ1 σ H1 O1 Oc x v := pr
  refine go_int (R2' := fun w H2 => ∀ i, w = .int i → rE c lc W (den T E3).v σ H2 fun u H3 => ∃ j, u = .int j ∧ rSl c .both v (some i) (some j) H3 Q) g1 pr.ok pr.rr (fun i ρ2 H2 O2 st2 ok2 r2 g2 j e => ?_) |>.imp' ?_
  · cases e
    refine go_int (R2' := fun w H3 => ∀ j, w = .int j → rSl c .both v (some i) (some j) H3 Q) g2 ok2 r2 (fun j ρ3 H3 O3 st3 ok3 r3 g3 j' e => ?_) |>.imp' ?_
    · cases e
      exact go_slc ok3 (List.sublist_append_right _ _) (fun b hb => st.none (st2.none (st3.none hb))) r3 (by decide) g3
    · exact fun w H2 ⟨i, e, h⟩ => ⟨i, e, h i rfl⟩
  · exact fun w H2 ⟨i, e, h⟩ => ⟨i, e, h i rfl⟩
end VL
end
section
set_option maxHeartbeats 4000000
/-! V9: kinds, methods, lists changed, calls. -/
namespace VL
open PySem PySem.Spec PyProof.Rows L2
variable {nm : Nm} {N : List Str} {sc : Scope}
/-! ### isinstance -/
def kdS : Kd → String
  | .non => "NoneType" | .bl => "bool" | .int => "int" | .str => "str" | .tup => "tuple" | .lst => "list" | .dic => "dict"
def tyS : Ty → String
  | .int => "int" | .bool => "bool" | .str => "str" | .tuple => "tuple" | .list => "list" | .dict => "dict"
theorem kit_tab : ∀ (k : Kd) (t : Ty), kitB (kdS k) (tyS t) = some (kdTy t k) := by
  intro k t
  cases k <;> cases t <;> decide +kernel
theorem tyX_of {c : Cf} {K : PySem.W.Frag} (hK : K = c.K) {F H : Hp} {d : D} {v : V} {k : Kd} (l : Le F H) (h : RC c F H d v) (e : kdOf d = some k) : TyX K H v (.type (kdS k)) := by
  subst hK
  cases d with
  | non => cases e; rw [h.non]; exact .base .non
  | bl b => cases e; rw [h.bl]; exact .base (.bl _)
  | int b => cases e; rw [h.int]; exact .base (.int _)
  | str b => cases e; rw [h.str.1]; exact .base (.str _)
  | tup xs =>
    cases e
    obtain ⟨a, vs, rfl, h1, h2⟩ := h.tup
    rcases sqT_mono l h1 with (h1 | ⟨o, h1⟩) | ⟨o, its, n, k1, k2, _⟩
    · exact .base (.tup h1)
    · exact .fTuple h1
    · exact .kTuple k1 k2
  | lst xs =>
    cases e
    obtain ⟨a, vs, rfl, h1, h2⟩ := h.lst l
    exact .base (.lst h1)
  | dic n =>
    cases e
    cases h.rp fun _ z => nomatch z with
    | dic h1 => exact .base (.dK (l _ _ h1 fun _ z => nomatch z))
  | _ => cases e
/-- names of built-in classes -/
structure JTy (nm : Nm) (sc : Scope) (es : List Expr) (ts : List Ty) : Prop where
  a : ∀ (c : Cf) (T : Th) (k : Nat) (N : List Str) (X : Cx) (W : WX) (lc : Lc), Cok c T nm k N sc X W lc → PA X es (fun _ H Q => Q (ts.map fun t => V.ty (tyS t)) H)
  s : es.all notStar = true
theorem jty_nil : JTy nm sc [] [] := ⟨fun c T k N X W lc C => PA.imp pa_nil fun σ H Q h => h, rfl⟩
theorem ty_name {t : Ty} {p : Pos} (hm : Str.ofString (tyS t) ∈ nm.free) (hg : sc.names.lookup (Str.ofString (tyS t)) = some .globalImplicit) {c : Cf} {T : Th} {k : Nat} {N : List Str} {X : Cx} {W : WX} {lc : Lc} (C : Cok c T nm k N sc X W lc) : PE X (.Name (Str.ofString (tyS t)) p) (tC (.ty (tyS t))) := by
  refine pe_bltn (u := .type (tyS t)) (show X.env.scope.names.lookup _ = _ by rw [C.hsc]; exact hg) (C.free _ hm) ?_ rfl ?_ ?_
  · cases t <;> decide +kernel
  · cases t <;> decide +kernel
  · cases t <;> decide +kernel
theorem jty_cons {t : Ty} {ts : List Ty} {es : List Expr} {p : Pos} (hm : Str.ofString (tyS t) ∈ nm.free) (hg : sc.names.lookup (Str.ofString (tyS t)) = some .globalImplicit) (h : JTy nm sc es ts) : JTy nm sc (.Name (Str.ofString (tyS t)) p :: es) (t :: ts) :=
  ⟨fun c T k N X W lc C => PA.imp (pa_cons (ty_name hm hg C) (h.a c T k N X W lc C) rfl) fun σ H Q q => q, by rw [List.all_cons, h.s]; rfl⟩
theorem clsVs : ∀ ts : List Ty, Paired ClsV (ts.map fun t => V.ty (tyS t)) (ts.map fun t => Value.type (tyS t))
  | [] => .nil
  | t :: ts => .cons (.ty _) (clsVs ts)
theorem kit_any {K : PySem.W.Frag} (k : Kd) : ∀ ts : List Ty, PySem.W.kitAny K (.type (kdS k)) (ts.map fun t => Value.type (tyS t)) = some (ts.any (kdTy · k))
  | [] => rfl
  | t :: ts => by
    rw [List.any_cons]
    refine kitAny_cons (kit_ty (kit_tab k t)) (fun e => ?_) fun e => ?_
    · rw [e, Bool.false_or]; exact kit_any k ts
    · rw [e]; rfl
theorem go_isi {c : Cf} {lc : Lc} {W : WX} {σ : SS} {H H0 : Hp} {O Oc : List Addr} {ρ : Env} {x : R} {v : V} {ts : List Ty} {Q : VK} {K : PySem.W.Frag} (hK : K = c.K) (pr : PR c lc ρ σ H O Oc x v)
    (g : Go c lc W σ H O Oc (Rs.opt ρ ((look ρ x).bind fun d => (isTy ts d).map fun b => R.v (.bl b))) (PV c lc σ Oc H0) Q) : ∃ k, (∀ H', Le H H' → TyX K H' v (.type (kdS k))) ∧ ∀ H', Ok c lc ρ σ H' O Oc → Step H O H' O → Q (.bl (ts.any (kdTy · k))) H' := by
  cases l1 : look ρ x with
  | none => rw [l1] at g; exact g.elim
  | some d =>
    rw [l1] at g
    cases e : kdOf d with
    | none => rw [show ((some d).bind fun d => (isTy ts d).map fun b => R.v (.bl b)) = none from by show (isTy ts d).map _ = none; unfold isTy; rw [e]; rfl] at g; exact g.elim
    | some k =>
      rw [show ((some d).bind fun d => (isTy ts d).map fun b => R.v (.bl b)) = some (.v (.bl (ts.any (kdTy · k)))) from by show (isTy ts d).map _ = _; unfold isTy; rw [e]; rfl] at g
      exact ⟨k, fun H' l => tyX_of hK (Le.refl _) (.inl (((pr.ok.look pr.rr l1).toH (Vw.le _ _)).mono l)) e, fun H' ok' st => g _ H' O st ⟨⟨ok', .bl _⟩, fun b hb => by cases hb⟩⟩
theorem j_isi {e1 : Expr} {E1 : E} {t : Ty} {p p2 pos : Pos} (h1 : J nm N sc e1 E1) (hi : ("isinstance" : Str) ∈ nm.free) (hig : sc.names.lookup ("isinstance" : Str) = some .globalImplicit) (h : JTy nm sc [.Name (Str.ofString (tyS t)) p2] [t]) : J nm N sc (.Call (.Name "isinstance" p) [e1, .Name (Str.ofString (tyS t)) p2] [] pos) (.isi E1 [t]) := by
  refine j_of ?_ rfl (fun _ => by rw [den] <;> rfl) fun _ _ => rfl
  intro c T k X W lc C
  refine PE.imp (pe_callB call_isi (show X.env.scope.names.lookup _ = _ by rw [C.hsc]; exact hig) (C.free _ hi) (by decide +kernel) (pa_cons (h1.je c T k X W lc C) (h.a c T k N X W lc C) (starE_cons h1.js)) (by decide) (by decide) (starE_cons h1.js) (star_any h.s)) fun σ H Q ⟨ρ, O, Oc, ok, g⟩ => ?_
  rw [den] at g
  simp only [Den.of] at g
  refine ⟨ρ, O, Oc, ok, (Go.bind [] g).imp fun v H1 ⟨x, ρ1, O1, st, ⟨pr, n⟩, g1⟩ => ?_⟩
  have pr : PR c lc ρ1 σ H1 O1 Oc x v := pr
  obtain ⟨kd, ty, q⟩ := go_isi C.hK pr g1
  refine ⟨v, .ty (tyS t), _, _, _, rfl, .ty _, ty _ (Le.refl _), kit_ty (kit_tab kd t), ?_⟩
  have q := q H1 (pend_sub pr.ok) (Step.refl _ _)
  rw [List.any_cons, List.any_nil, Bool.or_false] at q
  exact q
theorem j_isis {e1 : Expr} {E1 : E} {es : List Expr} {ts : List Ty} {n : Nat} {p p2 pos : Pos} (h1 : J nm N sc e1 E1) (hi : ("isinstance" : Str) ∈ nm.free) (hig : sc.names.lookup ("isinstance" : Str) = some .globalImplicit) (h : JTy nm sc es ts) (hz : ts.length ≤ 1000) : J nm N sc (.Call (.Name "isinstance" p) [e1, .Tuple es n p2] [] pos) (.isi E1 ts) := by
  refine j_of ?_ rfl (fun _ => by rw [den] <;> rfl) fun _ _ => rfl
  intro c T k X W lc C
  refine PE.imp (pe_callB call_isiT (show X.env.scope.names.lookup _ = _ by rw [C.hsc]; exact hig) (C.free _ hi) (by decide +kernel) (pa_cons (h1.je c T k X W lc C) (pa_cons (pe_tup (h.a c T k N X W lc C)) pa_nil rfl) (starE_cons h1.js)) (by decide) (by decide) (starE_cons h1.js) rfl) fun σ H Q ⟨ρ, O, Oc, ok, g⟩ => ?_
  rw [den] at g
  simp only [Den.of] at g
  refine ⟨ρ, O, Oc, ok, (Go.bind [] g).imp fun v H1 ⟨x, ρ1, O1, st, ⟨pr, n⟩, g1⟩ => ?_⟩
  have pr : PR c lc ρ1 σ H1 O1 Oc x v := pr
  obtain ⟨kd, ty, q⟩ := go_isi C.hK pr g1
  refine ⟨by rw [List.length_map]; exact Nat.le_trans hz (by decide), fun q' hq' => ?_⟩
  have l2 : Le H1 (upd H1 q' (.tup (ts.map fun t => V.ty (tyS t)))) := fun b u z _ => by rw [upd_ne (ne_of_none z hq')]; exact z
  exact ⟨v, q', _, _, _, _, rfl, upd_same, clsVs ts, ty _ l2, kit_any kd ts, q _ ((pend_sub pr.ok).new hq') (Step.new hq')⟩
/-! ### a list of one's own, changed -/
section
variable {c : Cf} {lc : Lc} {ρ : Env} {σ : SS} {H : Hp} {O Oc : List Addr}
def isOwn : Sl → List D → Prop
  | .ol xs, ys => xs = ys
  | .ln xs, ys => xs = ys
  | _, _ => False
def ownLike : Sl → List D → Sl
  | .ln _, ys => .ln ys
  | _, ys => .ol ys
theorem Ok.own {i : Nat} {s : Sl} {xs : List D} (k : Ok c lc ρ σ H O Oc) (hi : ρ[i]? = some s) (hs : isOwn s xs) : ∃ p vs, σ[i]? = some (some (.ref p)) ∧ p ∈ O ∧ H p = some (.lst vs) ∧ Rps c (Vw H (O ++ Oc)) xs vs := by
  cases s with
  | ol ys =>
    obtain rfl : ys = xs := hs
    exact k.atO hi
  | ln ys =>
    obtain rfl : ys = xs := hs
    obtain ⟨vs, h⟩ := k.atL hi
    exact ⟨_, vs, h⟩
  | _ => exact hs.elim
theorem Ok.put {i : Nat} {s : Sl} {xs ys : List D} {ws : List V} (k : Ok c lc ρ σ H O Oc) (hi : ρ[i]? = some s) (hs : isOwn s xs) {p : Addr} (hp : σ[i]? = some (some (.ref p))) {H' : Hp} (st : Step H [p] H' [p]) (tb : LamX.Tabs c.T H') (hH : H' p = some (.lst ws)) (r : Rps c (Vw H' (O ++ Oc)) ys ws) (hk : (∃ zs, s = .ln zs) → Kp lc.x0 lc.v0 ys ws) :
    ∃ O2, O2.Perm O ∧ Step H O H' O2 ∧ Ok c lc (ρ.set i (ownLike s ys)) σ H' O2 Oc := by
  obtain ⟨x, Oi, O', h1, h2, h3, h4⟩ := k.chg hi
  have e1 : x = some (.ref p) := by rw [hp] at h1; exact (Option.some.inj h1).symm
  subst e1
  have key : Oi = [p] ∧ (∀ F, Rps c F ys ws → En c lc F H' (ownLike s ys) (some (.ref p)) [p]) := by
    cases h2 with
    | no _ => exact hs.elim
    | v _ => exact hs.elim
    | ol e r0 => exact ⟨rfl, fun F q => .ol hH q⟩
    | ln e r0 _ => exact ⟨rfl, fun F q => .ln hH q (hk ⟨_, rfl⟩)⟩
    | th _ => exact hs.elim
    | ex _ => exact hs.elim
  obtain ⟨rfl, he⟩ := key
  have pp : (O ++ Oc).Perm (([p] ++ O') ++ Oc) := List.Perm.append_right Oc h3
  have nd : (([p] ++ O') ++ Oc).Nodup := pp.nodup_iff.mp k.nd
  have np : p ∉ O' ++ Oc := (List.nodup_cons.mp nd).1
  have hpO : p ∈ O := h3.mem_iff.mpr List.mem_cons_self
  have lv : Le (Vw H (O ++ Oc)) (Vw H' (([p] ++ O') ++ Oc)) := fun b u e t => by
    obtain ⟨z1, z2⟩ := Vw.some_iff.mp e
    have hb : b ≠ p := fun z => z1 (List.mem_append_left _ (z ▸ hpO))
    exact Vw.some_iff.mpr ⟨fun z => z1 (pp.mem_iff.mpr z), st.keep b u z2 (by simpa using hb) t⟩
  have keepO : ∀ b ∈ O', H' b = H b := fun b hb => by
    obtain ⟨vs, e⟩ := k.env.ofO b (h3.mem_iff.mpr (List.mem_append_right _ hb))
    have hb' : b ≠ p := fun z => np (List.mem_append_left _ (z ▸ hb))
    rw [st.keep b _ e (by simpa using hb') (fun _ z => nomatch z), e]
  obtain ⟨O2, p2, k2⟩ := h4 H' Oc (ownLike s ys) (some (.ref p)) [p] lv keepO (he _ (by rw [← Vw.perm pp]; exact r)) nd (fun b hb => by
    obtain ⟨u, e, z⟩ := k.off b hb
    have hb' : b ≠ p := fun z => np (List.mem_append_right _ (z ▸ hb))
    refine ⟨u, st.keep b _ e (by simpa using hb') (fun ps z' => ?_), z⟩
    subst z'
    exact z) tb
  rw [set_same hp] at k2
  have pO : O2.Perm O := p2.trans h3.symm
  refine ⟨O2, pO, ⟨fun b u e n t => st.keep b u e (fun z => n (by rw [List.mem_singleton.mp z]; exact hpO)) t, st.tbl, fun b hb => .inl (pO.mem_iff.mp hb), fun b hb n => ?_⟩, k2⟩
  exact st.some n
theorem Step.chgAt {p : Addr} {o : HO} {vs : List V} (h : H p = Option.some (.lst vs)) : Step H [p] (upd H p o) [p] where
  keep := fun b u e n _ => by rw [upd_ne (by simpa using n)]; exact e
  tbl := fun b ps e => ⟨ps, by
    have hb : b ≠ p := fun z => by rw [z, h] at e; cases e
    rw [upd_ne hb]; exact e⟩
  own := fun b hb => .inl hb
  there := fun b hb n => by
    obtain rfl := List.mem_singleton.mp hb
    rw [upd_same]; simp
theorem tabs_upd {T : List (Addr × Str)} {p : Addr} {vs : List V} {ws : List V} (t : LamX.Tabs T H) (h : H p = some (.lst vs)) : LamX.Tabs T (upd H p (.lst ws)) := fun q hq => by
  obtain ⟨ps, h1, h2, h3⟩ := t q hq
  have n1 : ∀ {b : Addr} {u : HO}, H b = some u → (∀ zs, u ≠ .lst zs) → L2.upd H p (.lst ws) b = some u := fun {b u} e n => by
    have hb : b ≠ p := fun z => by rw [z, h] at e; exact n vs (Option.some.inj e).symm
    rw [upd_ne hb]; exact e
  refine ⟨ps, n1 h1 (fun _ z => nomatch z), h2, fun pos cv hc => ?_⟩
  obtain ⟨cc, e1, e2⟩ := h3 pos cv hc
  exact ⟨cc, e1, n1 e2 fun zs z => by unfold LamX.CodeO at z; cases z⟩
/-- its list, laid anew -/
theorem Ok.putU {i : Nat} {s : Sl} {xs ys : List D} {ws vs : List V} (k : Ok c lc ρ σ H O Oc) (hi : ρ[i]? = some s) (hs : isOwn s xs) {p : Addr} (hp : σ[i]? = some (some (.ref p))) (hH : H p = some (.lst vs)) (hpO : p ∈ O) (r : Rps c (Vw H (O ++ Oc)) ys ws) (hk : (∃ zs, s = .ln zs) → Kp lc.x0 lc.v0 ys ws) :
    ∃ O2, O2.Perm O ∧ Step H O (L2.upd H p (.lst ws)) O2 ∧ Ok c lc (ρ.set i (ownLike s ys)) σ (L2.upd H p (.lst ws)) O2 Oc := by
  refine k.put hi hs hp (Step.chgAt hH) (tabs_upd k.tabs hH) upd_same (r.mono fun b u e t => ?_) hk
  obtain ⟨z1, z2⟩ := Vw.some_iff.mp e
  have hb : b ≠ p := fun z => z1 (List.mem_append_left _ (z ▸ hpO))
  exact Vw.some_iff.mpr ⟨z1, by rw [upd_ne hb]; exact z2⟩
end
end VL
end
section
set_option maxHeartbeats 4000000
/-! V10: calls. -/
namespace VL
open PySem PySem.Spec PyProof.Rows L2
variable {nm : Nm} {N : List Str} {sc : Scope}
section
variable {c : Cf} {lc : Lc} {ρ ρ' : Env} {σ : SS} {H H' : Hp} {O O' Oc Full : List Addr}
theorem Ok.after (k : Ok c lc ρ σ H O Oc) (s : Step H [] H' []) (t : LamX.Tabs c.T H') : Ok c lc ρ σ H' O Oc where
  env := k.env.mono (fun b u e n => by
    obtain ⟨h1, h2⟩ := Vw.some_iff.mp e
    exact Vw.some_iff.mpr ⟨h1, s.keep b u h2 (by simp) n⟩) fun b hb => by
    obtain ⟨vs, e⟩ := k.env.ofO b hb
    rw [s.keep b _ e (by simp) (fun _ z => nomatch z), e]
  nd := k.nd
  off := fun b hb => by
    obtain ⟨u, e, z⟩ := k.off b hb
    refine ⟨u, s.keep b _ e (by simp) (fun ps z' => ?_), z⟩
    subst z'
    exact z
  tabs := t
theorem Step.wide {O : List Addr} (h : ∀ b ∈ O, ∃ vs, H b = Option.some (.lst vs)) (s : Step H [] H' []) : Step H O H' O where
  keep := fun b u e _ t => s.keep b u e (by simp) t
  tbl := s.tbl
  own := fun b hb => .inl hb
  there := fun b hb n => s.some n
/-- tuples lie off the lists that are off limits -/
theorem Ok.leT (k : Ok c lc ρ σ H O Oc) (L : List Addr) : LeT (Vw H L) (Vw H (O ++ Oc)) := fun b xs h => by
  have nb : ∀ u, H b = some u → (∀ vs, u ≠ .lst vs) → b ∉ O ++ Oc := fun u e n z => by
    rcases List.mem_append.mp z with z | z
    · obtain ⟨vs, e2⟩ := k.env.ofO b z
      rw [e] at e2
      exact n vs (Option.some.inj e2)
    · obtain ⟨u2, e2, q⟩ := k.off b z
      rw [e] at e2
      obtain rfl := Option.some.inj e2
      cases u <;> first | exact n _ rfl | exact q
  rcases h with h | ⟨o, h⟩
  · have h := (Vw.some_iff.mp h).2
    exact .inl (Vw.some_iff.mpr ⟨nb _ h (fun _ z => nomatch z), h⟩)
  · have h := (Vw.some_iff.mp h).2
    exact .inr ⟨o, Vw.some_iff.mpr ⟨nb _ h (fun _ z => nomatch z), h⟩⟩
theorem Vw.nil : Vw H [] = H := by
  funext b
  unfold Vw
  rw [if_neg (by simp)]
theorem RCs.toH {F : Hp} (l : Le F H) : ∀ {ds : List D} {vs : List V}, RCs c F H ds vs → Rps c H ds vs
  | _, _, .nil => .nil
  | _, _, .cons r t => .cons (r.toH l) (RCs.toH l t)
theorem args_rp (kF : Ok c lc ρ' σ H O' Full) (hO : ∀ b ∈ O', b ∈ O) : ∀ {Oc : List Addr} {rs : List R} {vs : List V} {ds : List D}, (offs Oc rs vs).Sublist Full → RRs c σ H O Full rs vs → looks ρ rs = some ds →
    (∀ i ∈ brs rs, ∀ d, look ρ (.br i) = some d → ρ'[i]? = some (.v d)) → Rps c (Vw H (O' ++ Oc)) ds vs
  | Oc, [], [], ds, _, _, h, _ => by cases h; exact .nil
  | _, [], _ :: _, _, _, q, _, _ => q.elim
  | _, _ :: _, [], _, _, q, _, _ => q.elim
  | Oc, r :: rs, v :: vs, ds, hs, q, h, hb => by
    have h : (look ρ r).bind (fun d => (looks ρ rs).map (d :: ·)) = some ds := h
    cases l1 : look ρ r with
    | none => rw [l1] at h; cases h
    | some d =>
      rw [l1] at h
      have h : (looks ρ rs).map (d :: ·) = some ds := h
      cases l2 : looks ρ rs with
      | none => rw [l2] at h; cases h
      | some es =>
        rw [l2] at h
        cases h
        unfold offs at hs
        have s1 : (pend r v ++ Oc).Sublist Full := offs_sub.trans hs
        have s2 : Oc.Sublist Full := (List.sublist_append_right _ _).trans s1
        have lw : Le (Vw H (O ++ Full)) (Vw H (O' ++ Oc)) := Vw.sub fun b z => by
          rcases List.mem_append.mp z with z | z
          · exact List.mem_append_left _ (hO b z)
          · exact List.mem_append_right _ (s2.subset z)
        have lw2 : Le (Vw H (O' ++ Full)) (Vw H (O' ++ Oc)) := Vw.sub fun b z => by
          rcases List.mem_append.mp z with z | z
          · exact List.mem_append_left _ z
          · exact List.mem_append_right _ (s2.subset z)
        have tl : Rps c (Vw H (O' ++ Oc)) es vs := (args_rp kF hO hs q.2 l2 fun i hi => hb i (by cases r <;> first | exact hi | exact List.mem_cons_of_mem _ hi)).mono (Vw.sub fun b z => by
          rcases List.mem_append.mp z with z | z
          · exact List.mem_append_left _ z
          · exact List.mem_append_right _ (List.mem_append_right _ z))
        refine .cons ?_ tl
        cases r with
        | v d' =>
          cases l1
          exact Rp.mono lw q.1
        | fl xs =>
          cases l1
          obtain ⟨p, vs', rfl, e1, e2, e3⟩ := q.1
          refine .lst (Vw.some_iff.mpr ⟨fun z => ?_, e2⟩) (e3.mono lw)
          rcases List.mem_append.mp z with z | z
          · exact kF.dis p e1 z
          · have nd : ([p] ++ Oc).Nodup := (List.nodup_append.mp kF.nd).2.1.sublist s1
            exact (List.nodup_cons.mp nd).1 z
        | br i =>
          have e1 : σ[i]? = some (some v) := q.1
          obtain ⟨v', h1, h2⟩ := kF.atV (hb i List.mem_cons_self d l1)
          rw [e1] at h1
          cases h1
          exact h2.mono lw2
theorem frzS_look {i j : Nat} {d : D} (h : VL.frzS i ρ = some ρ') (hl : VL.look ρ (.br j) = some d) : VL.look ρ' (.br j) = some d ∧ (ρ[j]? = some (.v d) → ρ'[j]? = some (.v d)) ∧ (i = j → ρ'[j]? = some (.v d)) := by
  have hl' : (match ρ[j]? with | some (.ol xs) => some (.lst xs) | some (.ln xs) => some (.lst xs) | some (.v d) => some d | _ => none) = some d := hl
  unfold VL.frzS at h
  cases e : ρ[i]? with
  | none => rw [e] at h; cases h
  | some s =>
    rw [e] at h
    cases s with
    | v d' =>
      cases h
      refine ⟨hl, fun z => z, fun z => ?_⟩
      subst z
      rw [e] at hl' ⊢
      exact congrArg (fun x => some (Sl.v x)) (Option.some.inj hl')
    | ol xs =>
      cases h
      by_cases z : i = j
      · subst z
        rw [e] at hl'
        cases hl'
        have hi : i < ρ.length := by
          rcases Nat.lt_or_ge i ρ.length with z | z
          · exact z
          · rw [List.getElem?_eq_none z] at e; cases e
        have e2 : (ρ.set i (.v (.lst xs)))[i]? = some (.v (.lst xs)) := by rw [List.getElem?_set_self hi]
        refine ⟨?_, fun _ => e2, fun _ => e2⟩
        unfold VL.look
        dsimp only
        rw [e2]
      · have e2 : (ρ.set i (.v (.lst xs)))[j]? = ρ[j]? := List.getElem?_set_ne z
        refine ⟨?_, fun q => by rw [e2]; exact q, fun q => absurd q z⟩
        unfold VL.look
        dsimp only
        rw [e2]
        exact hl'
    | _ => cases h
theorem frzAll_v : ∀ {bs : List Nat} {ρ ρ' : Env}, VL.frzAll bs ρ = some ρ' → ∀ j d, VL.look ρ (.br j) = some d → VL.look ρ' (.br j) = some d ∧ (ρ[j]? = some (.v d) → ρ'[j]? = some (.v d)) ∧ (j ∈ bs → ρ'[j]? = some (.v d))
  | [], ρ, ρ', h, j, d, hl => by
    cases h
    exact ⟨hl, fun z => z, fun z => by cases z⟩
  | i :: bs, ρ, ρ', h, j, d, hl => by
    have h : (VL.frzS i ρ).bind (VL.frzAll bs) = some ρ' := h
    cases e : VL.frzS i ρ with
    | none => rw [e] at h; cases h
    | some ρ1 =>
      rw [e] at h
      obtain ⟨a1, a2, a3⟩ := frzS_look e hl
      obtain ⟨b1, b2, b3⟩ := frzAll_v (show VL.frzAll bs ρ1 = some ρ' from h) j d a1
      refine ⟨b1, fun z => b2 (a2 z), fun z => ?_⟩
      rcases List.mem_cons.mp z with z | z
      · exact b2 (a3 z.symm)
      · exact b3 z
theorem frzS_ok {i : Nat} (k : Ok c lc ρ σ H O Oc) (h : VL.frzS i ρ = some ρ') : ∃ O', (∀ b ∈ O', b ∈ O) ∧ Ok c lc ρ' σ H O' Oc := by
  have h' := h
  unfold VL.frzS at h'
  cases e : ρ[i]? with
  | none => rw [e] at h'; cases h'
  | some s =>
    rw [e] at h'
    cases s with
    | v d =>
      cases h'
      exact ⟨O, fun _ z => z, k⟩
    | ol xs =>
      obtain ⟨p, vs, h1, _⟩ := k.atO e
      obtain ⟨O', h3, h4, _⟩ := Ok.frzS (d := .lst xs) k h1 (by unfold VL.look; dsimp only; rw [e]) h
      exact ⟨O', h3, h4⟩
    | _ => cases h'
theorem frzAll_ok : ∀ {bs : List Nat} {ρ : Env} {O : List Addr}, Ok c lc ρ σ H O Oc → VL.frzAll bs ρ = some ρ' → ∃ O', (∀ b ∈ O', b ∈ O) ∧ Ok c lc ρ' σ H O' Oc
  | [], ρ, O, k, h => by
    cases h
    exact ⟨O, fun _ z => z, k⟩
  | i :: bs, ρ, O, k, h => by
    have h : (VL.frzS i ρ).bind (VL.frzAll bs) = some ρ' := h
    cases e : VL.frzS i ρ with
    | none => rw [e] at h; cases h
    | some ρ1 =>
      rw [e] at h
      obtain ⟨O1, h1, k1⟩ := frzS_ok k e
      obtain ⟨O2, h2, k2⟩ := frzAll_ok k1 (show VL.frzAll bs ρ1 = some ρ' from h)
      exact ⟨O2, fun b z => h1 b (h2 b z), k2⟩
theorem Ok.afterNew {p : Addr} {vs : List V} (k : Ok c lc ρ σ H O Oc) (s : Step H [] H' []) (t : LamX.Tabs c.T H') (hp : H p = none) (e : H' p = some (.lst vs)) : Ok c lc ρ σ H' O (p :: Oc) := by
  have k' := k.after s t
  have np : p ∉ O ++ Oc := fun z => by
    rcases List.mem_append.mp z with z | z
    · obtain ⟨_, e⟩ := k.env.ofO p z
      rw [hp] at e; cases e
    · obtain ⟨_, e, _⟩ := k.off p z
      rw [hp] at e; cases e
  refine ⟨k.env.mono (fun b u e1 n => ?_) ?_, ?_, ?_, t⟩
  · obtain ⟨h1, h2⟩ := Vw.some_iff.mp e1
    refine Vw.some_iff.mpr ⟨fun z => ?_, s.keep b u h2 (by simp) n⟩
    rcases List.mem_cons.mp (List.perm_middle.mem_iff.mp z) with z | z
    · subst z
      rw [hp] at h2; cases h2
    · exact h1 z
  · intro b hb
    obtain ⟨vs, e⟩ := k.env.ofO b hb
    rw [s.keep b _ e (by simp) (fun _ z => nomatch z), e]
  · exact List.perm_middle.nodup_iff.mpr (List.nodup_cons.mpr ⟨np, k.nd⟩)
  · intro b hb
    rcases List.mem_cons.mp hb with rfl | hb
    · exact ⟨_, e, trivial⟩
    · exact k'.off b hb
theorem Ok.backV {L : List Addr} {d : D} {v : V} (k : Ok c lc ρ σ H O Oc) (s : Step H [] H' []) (t : LamX.Tabs c.T H') (hL : L = O ++ Oc ∨ noL d = true) (r : Rp c (Vw H' L) d v) : PR c lc ρ σ H' O Oc (.v d) v := by
  have k' := k.after s t
  refine ⟨k', ?_⟩
  rcases hL with rfl | hn
  · exact r
  · exact r.monoT (k'.leT L) hn
theorem Ok.backF {L : List Addr} {xs : List D} {p : Addr} {vs : List V} (k : Ok c lc ρ σ H O Oc) (s : Step H [] H' []) (t : LamX.Tabs c.T H') (hL : L = O ++ Oc ∨ noLs xs = true) (hp : H p = none) (e : H' p = some (.lst vs)) (r : Rps c (Vw H' (p :: L)) xs vs) : PR c lc ρ σ H' O Oc (.fl xs) (.ref p) := by
  have k' := k.afterNew s t hp e
  refine ⟨k', p, vs, rfl, List.mem_cons_self, e, ?_⟩
  rcases hL with rfl | hn
  · rw [show Vw H' (O ++ (pend (.fl xs) (.ref p) ++ Oc)) = Vw H' (p :: (O ++ Oc)) from Vw.perm List.perm_middle]
    exact r
  · exact r.monoT (k'.leT _) hn
theorem back_go {W : WX} {Q : VK} {H0 : Hp} {L : List Addr} {rt : Rt} (k : Ok c lc ρ σ H O Oc) (st0 : ∀ b, H b = none → H0 b = none) (st : Step H [] H' []) (tb : LamX.Tabs c.T H')
    (hL : L = O ++ Oc ∨ noRt rt = true) (g : Go c lc W σ H O Oc (rtR rt ρ) (PV c lc σ Oc H0) Q) : EndR c H L Q (WE W σ) H' rt := by
  have sw := st.wide k.env.ofO
  cases rt with
  | v d => exact fun v r => g v H' O sw ⟨k.backV st tb hL r, fun b hb => by cases hb⟩
  | ex e => exact fun cls d x => g cls d H' O sw (k.after st tb) x
  | fl xs => exact fun p vs hp e r => g _ H' O sw ⟨k.backF st tb hL hp e r, fun b hb => by
      obtain rfl := List.mem_singleton.mp hb
      exact st0 _ hp⟩
theorem call_sp {T : Th} {f : Nat} {rs : List R} {vs : List V} {ds : List D} {rt : Rt} {cc : D} {W : WX} {Q : VK} {H0 : Hp} (k : Ok c lc ρ σ H O (offs Oc rs vs)) (q : RRs c σ H O (offs Oc rs vs) rs vs) (hl : looks ρ rs = some ds) (hT : T.fn f ds = some (rt, cc)) (hio : T.io f = false)
    (st0 : ∀ b, H b = none → H0 b = none) (g : Go c lc W σ H O Oc (behind rt (brs rs) ρ) (PV c lc σ Oc H0) Q) : spF c T f vs H Q (WE W σ) := by
  have k0 : Ok c lc ρ σ H O Oc := k.sub offs_sub
  have hard : ∀ ρ', VL.frzAll (brs rs) ρ = some ρ' → Go c lc W σ H O Oc (rtR rt ρ') (PV c lc σ Oc H0) Q → spF c T f vs H Q (WE W σ) := fun ρ' hf g => by
    obtain ⟨O', hO, k'⟩ := frzAll_ok k hf
    have k2 : Ok c lc ρ' σ H O' Oc := k'.sub offs_sub
    refine ⟨ds, 0, O' ++ Oc, rt, cc, [], [], ?_, ?_, ?_, k.tabs, hT, ?_⟩
    · rw [hio]
      exact args_rp k' hO (List.Sublist.refl _) q hl fun i hi d hd => (frzAll_v hf i d hd).2.2 hi
    · rw [hio]; exact k2.nd
    · intro b hb
      rcases List.mem_append.mp hb with z | z
      · obtain ⟨vs, e⟩ := k2.env.ofO b z
        exact ⟨_, e, trivial⟩
      · exact k2.off b z
    · rw [hio]
      intro H' s t _
      exact back_go k2 st0 s t (.inl rfl) (Go.step g (Step.less hO))
  unfold behind at g
  cases hn : noRt rt with
  | true =>
    rw [hn] at g
    refine ⟨ds, 0, [], rt, cc, [], [], ?_, ?_, ?_, k.tabs, hT, ?_⟩
    · rw [hio]
      show Rps c (Vw H []) ds vs
      rw [Vw.nil]
      exact (looks_rcs k q hl).toH (Vw.le _ _)
    · rw [hio]; exact List.nodup_nil
    · intro b hb; cases hb
    · rw [hio]
      intro H' s t _
      exact back_go k0 st0 s t (.inr hn) g
  | false =>
    rw [hn] at g
    cases hb : brs rs with
    | nil => rw [hb] at g; exact hard ρ (by rw [hb]; rfl) g
    | cons i is =>
      rw [hb] at g
      cases hf : VL.frzAll (i :: is) ρ with
      | none => rw [hf] at g; exact g.elim
      | some ρ' => rw [hf] at g; exact hard ρ' (by rw [hb]; exact hf) g
/-- a call of a def -/
theorem callR_inv {T : Th} {f : Nat} {rs : List R} {W : WX} {Q : VK} {P : R → Env → V → Hp → List Addr → Prop} (g : Go c lc W σ H O Oc (callR T f rs ρ) P Q) : T.io f = false ∧ ∃ ds rt cc, looks ρ rs = some ds ∧ T.fn f ds = some (rt, cc) ∧ Go c lc W σ H O Oc (behind rt (brs rs) ρ) P Q := by
  unfold callR at g
  cases hio : T.io f with
  | true => rw [hio] at g; exact g.elim
  | false =>
    cases hl : looks ρ rs with
    | none => rw [hio, hl] at g; exact g.elim
    | some ds =>
      rw [hio, hl] at g
      dsimp only at g
      cases hT : T.fn f ds with
      | none => rw [hT] at g; exact g.elim
      | some r =>
        obtain ⟨rt, cc⟩ := r
        rw [hT] at g
        exact ⟨rfl, ds, rt, cc, rfl, hT, g⟩
end
theorem j_call (hcm : nm.calm = true) {x : Str} {f : Nat} {e : Expr} {es : List Expr} {Es : List E} {p pos : Pos} (hm : (x, f) ∈ nm.fns) (hg : sc.names.lookup x = some .globalImplicit) (hd : (x == ("__debug__" : Str)) = false) (h : JA nm N sc (e :: es) Es) : J nm N sc (.Call (.Name x p) (e :: es) [] pos) (.call f Es) := by
  have hs : notStar e = true ∧ es.all notStar = true := by
    have := h.s
    rw [List.all_cons, Bool.and_eq_true] at this
    exact this
  refine j_of ?_ rfl (fun _ => by rw [den] <;> rfl) fun _ _ => rfl
  intro c T k X W lc C
  refine ⟨fun pins s σ H Q I ⟨ρ, O, Oc, ok, g⟩ => ?_⟩
  rw [den] at g
  simp only [Den.of] at g
  refine wpAny_Call_Name_kw (ld_glob I (show X.env.scope.names.lookup x = _ by rw [C.hsc]; exact hg) (C.fnm _ hm) ?_ hd)
  refine PySem.W.callWith_K (h₀ := X.base) I.ok.mod.kin ?_ (thn ((h.a c T k X W lc C).run pos pins s σ H _ I ⟨ρ, O, Oc, ok, (Go.bind [] g).imp fun vs H1 q => q⟩) fun us s1 ⟨vs, H1, I1, r, q⟩ => ⟨I1.kIn, ?_⟩) (starE_cons hs.1) (star_any hs.2)
  · exact C.kp f
  · obtain ⟨rs, ρ1, O1, st, ⟨ok1, rr, n⟩, g1⟩ := q
    obtain ⟨hio, ds, rt, cc, hl, hT, g2⟩ := callR_inv g1
    obtain ⟨fd, ps, F, hb⟩ := C.call f ds _ hT
    exact run_fnS F (C.room hcm) hb (passAt C.tk σ) I1 r (call_sp (W := W) ok1 rr hl hT hio (fun b hb => st.none hb) g2)
end VL
end
section
set_option maxHeartbeats 4000000
/-! V11: calls that hand on a list of one's own. -/
namespace VL
open PySem PySem.Spec PyProof.Rows L2
variable {nm : Nm} {N : List Str} {sc : Scope}
section
variable {c : Cf} {lc : Lc} {ρ ρ' : Env} {σ : SS} {H H' : Hp} {O O' Oc Oc' Full : List Addr}
theorem Kp.refl (xs : List D) (vs : List V) : Kp xs vs xs vs := fun k d v h1 h2 => .inr ⟨h1, h2⟩
theorem Kp.trans {x0 xs ys : List D} {v0 vs ws : List V} (a : Kp x0 v0 xs vs) (b : Kp xs vs ys ws) : Kp x0 v0 ys ws := fun k d v h1 h2 => by
  rcases b k d v h1 h2 with h | ⟨h3, h4⟩
  · exact .inl h
  · exact a k d v h3 h4
theorem leT_of {L L' : List Addr} (h : ∀ b ∈ L', ∃ vs, H b = some (.lst vs)) : LeT (Vw H L) (Vw H L') := fun b xs q => by
  have nb : ∀ u, H b = some u → (∀ vs, u ≠ .lst vs) → b ∉ L' := fun u e n z => by
    obtain ⟨vs, e2⟩ := h b z
    rw [e] at e2
    exact n vs (Option.some.inj e2)
  rcases q with q | ⟨o, q⟩
  · have q := (Vw.some_iff.mp q).2
    exact .inl (Vw.some_iff.mpr ⟨nb _ q (fun _ z => nomatch z), q⟩)
  · have q := (Vw.some_iff.mp q).2
    exact .inr ⟨o, Vw.some_iff.mpr ⟨nb _ q (fun _ z => nomatch z), q⟩⟩
theorem isOff_lst {u : HO} (h : isOff u) : ∃ vs, u = .lst vs := by
  cases u <;> first | exact ⟨_, rfl⟩ | exact h.elim
theorem Rps.at {F : Hp} : ∀ {ds : List D} {vs : List V}, ds.length = vs.length → (∀ (k : Nat) (d : D) (v : V), ds[k]? = some d → vs[k]? = some v → Rp c F d v) → Rps c F ds vs
  | [], [], _, _ => .nil
  | d :: ds, v :: vs, hl, h => .cons (h 0 d v rfl rfl) (Rps.at (by simpa using hl) fun k d v h1 h2 => h (k + 1) d v (by simpa using h1) (by simpa using h2))
  | [], _ :: _, hl, _ => by simp at hl
  | _ :: _, [], hl, _ => by simp at hl
theorem Rps.both {F : Hp} {ds : List D} {vs : List V} (h : Rps c F ds vs) {k : Nat} {d : D} {v : V} (h1 : ds[k]? = some d) (h2 : vs[k]? = some v) : Rp c F d v := by
  obtain ⟨v', e, r⟩ := h.get h1
  rw [h2] at e
  cases e
  exact r
/-- one of the frame's own lists changed, new things off limits -/
theorem Ok.put2 {i : Nat} {s : Sl} {xs ys : List D} {ws : List V} (k : Ok c lc ρ σ H O Oc) (hi : ρ[i]? = some s) (hs : isOwn s xs) {p : Addr} (hp : σ[i]? = some (some (.ref p))) (st : Step H [p] H' [p]) (tb : LamX.Tabs c.T H') (hH : H' p = some (.lst ws))
    (lv : Le (Vw H (O ++ Oc)) (Vw H' (O ++ Oc'))) (r : Rps c (Vw H' (O ++ Oc')) ys ws) (hk : (∃ zs, s = .ln zs) → Kp lc.x0 lc.v0 ys ws) (nd' : (O ++ Oc').Nodup) (off' : ∀ b ∈ Oc', ∃ u, H' b = some u ∧ isOff u) :
    ∃ O2, O2.Perm O ∧ Step H O H' O2 ∧ Ok c lc (ρ.set i (ownLike s ys)) σ H' O2 Oc' := by
  obtain ⟨x, Oi, O', h1, h2, h3, h4⟩ := k.chg hi
  have e1 : x = some (.ref p) := by rw [hp] at h1; exact (Option.some.inj h1).symm
  subst e1
  have key : Oi = [p] ∧ (∀ F, Rps c F ys ws → En c lc F H' (ownLike s ys) (some (.ref p)) [p]) := by
    cases h2 with
    | no _ => exact hs.elim
    | v _ => exact hs.elim
    | ol e r0 => exact ⟨rfl, fun F q => .ol hH q⟩
    | ln e r0 _ => exact ⟨rfl, fun F q => .ln hH q (hk ⟨_, rfl⟩)⟩
    | th _ => exact hs.elim
    | ex _ => exact hs.elim
  obtain ⟨rfl, he⟩ := key
  have pp : (O ++ Oc').Perm (([p] ++ O') ++ Oc') := List.Perm.append_right Oc' h3
  have nd0 : ([p] ++ O').Nodup := h3.nodup_iff.mp (List.nodup_append.mp k.nd).1
  have np : p ∉ O' := (List.nodup_cons.mp nd0).1
  have hpO : p ∈ O := h3.mem_iff.mpr List.mem_cons_self
  have keepO : ∀ b ∈ O', H' b = H b := fun b hb => by
    obtain ⟨vs, e⟩ := k.env.ofO b (h3.mem_iff.mpr (List.mem_append_right _ hb))
    have hb' : b ≠ p := fun z => np (z ▸ hb)
    rw [st.keep b _ e (by simpa using hb') (fun _ z => nomatch z), e]
  obtain ⟨O2, p2, k2⟩ := h4 H' Oc' (ownLike s ys) (some (.ref p)) [p] (by rw [← Vw.perm pp]; exact lv) keepO (he _ (by rw [← Vw.perm pp]; exact r)) (pp.nodup_iff.mp nd') off' tb
  rw [set_same hp] at k2
  have pO : O2.Perm O := p2.trans h3.symm
  refine ⟨O2, pO, ⟨fun b u e n t => st.keep b u e (fun z => n (by rw [List.mem_singleton.mp z]; exact hpO)) t, st.tbl, fun b hb => .inl (pO.mem_iff.mp hb), fun b hb n => ?_⟩, k2⟩
  exact st.some n
/-- what a callee left of a list of one's own -/
theorem kept_rps {L : List Addr} {p : Addr} {xs ys : List D} {vl wl : List V} (k : Ok c lc ρ σ H O Oc) (hpO : p ∈ O) (st : Step H [p] H' [p]) (hH : H' p = some (.lst wl)) (rx : Rps c (Vw H (O ++ Oc)) xs vl) (ry : Rps c (Vw H' L) ys wl) (hk : Kp xs vl ys wl)
    {L' : List Addr} (hl : ∀ b ∈ L', ∃ vs, H' b = some (.lst vs)) (lv : Le (Vw H (O ++ Oc)) (Vw H' L')) : Rps c (Vw H' L') ys wl := by
  refine Rps.at ry.length fun i d v h1 h2 => ?_
  rcases hk i d v h1 h2 with h | ⟨h3, h4⟩
  · exact (ry.both h1 h2).monoT (leT_of hl) h
  · exact (rx.both h3 h4).mono lv
theorem lists_of {p : Addr} {wl : List V} (k : Ok c lc ρ σ H O Oc) (st : Step H [p] H' [p]) (hH : H' p = some (.lst wl)) : ∀ b ∈ O ++ Oc, ∃ vs, H' b = some (.lst vs) := fun b hb => by
  by_cases e : b = p
  · subst e; exact ⟨_, hH⟩
  · rcases List.mem_append.mp hb with z | z
    · obtain ⟨vs, q⟩ := k.env.ofO b z
      exact ⟨vs, st.keep b _ q (by simpa using e) (fun _ z => nomatch z)⟩
    · obtain ⟨u, q, z⟩ := k.off b z
      obtain ⟨vs, rfl⟩ := isOff_lst z
      exact ⟨vs, st.keep b _ q (by simpa using e) (fun _ z => nomatch z)⟩
theorem le_of_step {p : Addr} (hpO : p ∈ O) (st : Step H [p] H' [p]) (hn : ∀ b ∈ Oc', b ∈ Oc ∨ H b = none) : Le (Vw H (O ++ Oc)) (Vw H' (O ++ Oc')) := fun b u e t => by
  obtain ⟨h1, h2⟩ := Vw.some_iff.mp e
  refine Vw.some_iff.mpr ⟨fun z => ?_, st.keep b u h2 (fun z => h1 (List.mem_append_left _ (by rw [List.mem_singleton.mp z]; exact hpO))) t⟩
  rcases List.mem_append.mp z with z | z
  · exact h1 (List.mem_append_left _ z)
  · rcases hn b z with z | z
    · exact h1 (List.mem_append_right _ z)
    · rw [z] at h2; cases h2
theorem wrS_inv {i : Nat} {cc : D} {ρ1 : Env} (h : wrS i cc ρ = some ρ1) : ∃ s xs ys, ρ[i]? = some s ∧ isOwn s xs ∧ cc = .lst ys ∧ ρ1 = ρ.set i (ownLike s ys) ∧ slotL i ρ = some xs := by
  unfold wrS at h
  cases e : ρ[i]? with
  | none => rw [e] at h; cases h
  | some s =>
    rw [e] at h
    cases s <;> cases cc <;> first
      | (cases h; done)
      | (cases h; exact ⟨_, _, _, rfl, rfl, rfl, rfl, by unfold slotL; rw [e]⟩)
theorem slotL_own {i : Nat} {xs : List D} (h : slotL i ρ = some xs) : ∃ s, ρ[i]? = some s ∧ isOwn s xs := by
  unfold slotL at h
  cases e : ρ[i]? with
  | none => rw [e] at h; cases h
  | some s =>
    rw [e] at h
    cases s <;> first
      | (cases h; done)
      | (cases h; exact ⟨_, rfl, rfl⟩)
theorem frzS_own {i j : Nat} {xs : List D} (h : VL.frzS j ρ = some ρ') (hs : slotL i ρ' = some xs) : slotL i ρ = some xs := by
  unfold VL.frzS at h
  cases e : ρ[j]? with
  | none => rw [e] at h; cases h
  | some s =>
    rw [e] at h
    cases s with
    | v d => cases h; exact hs
    | ol ys =>
      cases h
      by_cases z : j = i
      · subst z
        have hj : j < ρ.length := by
          rcases Nat.lt_or_ge j ρ.length with z | z
          · exact z
          · rw [List.getElem?_eq_none z] at e; cases e
        unfold slotL at hs
        rw [List.getElem?_set_self hj] at hs
        cases hs
      · unfold slotL at hs ⊢
        rw [List.getElem?_set_ne z] at hs
        exact hs
    | _ => cases h
theorem frzAll_own {i : Nat} {xs : List D} : ∀ {bs : List Nat} {ρ : Env}, VL.frzAll bs ρ = some ρ' → slotL i ρ' = some xs → slotL i ρ = some xs
  | [], ρ, h, hs => by cases h; exact hs
  | j :: bs, ρ, h, hs => by
    have h : (VL.frzS j ρ).bind (VL.frzAll bs) = some ρ' := h
    cases e : VL.frzS j ρ with
    | none => rw [e] at h; cases h
    | some ρ1 =>
      rw [e] at h
      exact frzS_own e (frzAll_own (show VL.frzAll bs ρ1 = some ρ' from h) hs)
/-- what comes back of such a call -/
theorem calli_end {W : WX} {Q : VK} {H0 : Hp} {rt : Rt} {cc : D} {i : Nat} {p : Addr} {xs : List D} {vl : List V} {ρ1 : Env} {Oc2 : List Addr} (k : Ok c lc ρ σ H O Oc) (hp : σ[i]? = some (some (.ref p))) (hs : slotL i ρ = some xs) (hHp : H p = some (.lst vl)) (hw : wrS i cc ρ = some ρ1)
    (st0 : ∀ b, H b = none → H0 b = none) (hL : (p :: Oc2).Perm (O ++ Oc) ∨ noRt rt = true) (g : Go c lc W σ H O Oc (rtR rt ρ1) (PV c lc σ Oc H0) Q) (st : Step H [p] H' [p]) (tb : LamX.Tabs c.T H') (fin : FinR c H' Oc2 p xs vl true cc) : EndR c H ([p] ++ Oc2) Q (WE W σ) H' rt := by
  obtain ⟨s, xs', ys, hi, ho, rfl, rfl, hs'⟩ := wrS_inv hw
  rw [hs] at hs'
  cases hs'
  obtain ⟨ys', wl, e, hH, ry, hk⟩ := fin
  cases e
  obtain ⟨p', vs', hp', hpO, hHp', rx⟩ := k.own hi ho
  rw [hp] at hp'
  cases hp'
  rw [hHp] at hHp'
  cases hHp'
  have hkk : (∃ zs, s = .ln zs) → Kp lc.x0 lc.v0 ys wl := fun ⟨zs, e⟩ => by
    subst e
    obtain rfl : zs = xs := ho
    obtain ⟨vs2, q1, q2, q3, q4, q5⟩ := k.atLK hi
    rw [hp] at q1
    cases q1
    rw [hHp] at q3
    cases q3
    exact q5.trans hk
  have ls := lists_of k st hH
  have main : ∀ Oc', (∀ b ∈ Oc', b ∈ Oc ∨ H b = none) → (O ++ Oc').Nodup → (∀ b ∈ Oc', ∃ vs, H' b = some (.lst vs)) → ∃ O2, O2.Perm O ∧ Step H O H' O2 ∧ Ok c lc (ρ.set i (ownLike s ys)) σ H' O2 Oc' := fun Oc' hn nd hl => by
    have lv := le_of_step hpO st hn
    exact k.put2 hi ho hp st tb hH lv (kept_rps k hpO st hH rx ry hk (fun b hb => by
      rcases List.mem_append.mp hb with z | z
      · exact ls b (List.mem_append_left _ z)
      · exact hl b z) lv) hkk nd fun b hb => by
        obtain ⟨vs, e⟩ := hl b hb
        exact ⟨_, e, trivial⟩
  have base := main Oc (fun b hb => .inl hb) k.nd fun b hb => ls b (List.mem_append_right _ hb)
  cases rt with
  | ex e =>
    obtain ⟨O2, p2, st2, k2⟩ := base
    exact fun cls d x => g cls d H' O2 st2 k2 x
  | v d =>
    obtain ⟨O2, p2, st2, k2⟩ := base
    intro v r
    refine g v H' O2 st2 ⟨⟨k2, ?_⟩, fun b hb => by cases hb⟩
    rcases hL with hL | hn
    · show Rp c (Vw H' (O2 ++ Oc)) d v
      rw [Vw.perm ((List.Perm.append_right Oc p2).trans hL.symm)]
      exact r
    · exact Rp.monoT (k2.leT _) hn r
  | fl zs =>
    intro q vs hq hHq r
    have nq : q ∉ O ++ Oc := fun z => by
      rcases List.mem_append.mp z with z | z
      · obtain ⟨_, e⟩ := k.env.ofO q z
        rw [hq] at e; cases e
      · obtain ⟨_, e, _⟩ := k.off q z
        rw [hq] at e; cases e
    obtain ⟨O2, p2, st2, k2⟩ := main (q :: Oc) (fun b hb => by
      rcases List.mem_cons.mp hb with rfl | hb
      · exact .inr hq
      · exact .inl hb) (List.perm_middle.nodup_iff.mpr (List.nodup_cons.mpr ⟨nq, k.nd⟩)) fun b hb => by
        rcases List.mem_cons.mp hb with rfl | hb
        · exact ⟨_, hHq⟩
        · exact ls b (List.mem_append_right _ hb)
    refine g (.ref q) H' O2 st2 ⟨⟨k2, q, vs, rfl, List.mem_cons_self, hHq, ?_⟩, fun b hb => by
      obtain rfl := List.mem_singleton.mp hb
      exact st0 _ hq⟩
    rcases hL with hL | hn
    · have e : (O2 ++ (pend (.fl zs) (.ref q) ++ Oc)).Perm (q :: (p :: Oc2)) := (List.perm_middle (a := q) (l₁ := O2) (l₂ := Oc)).trans (List.Perm.cons q ((List.Perm.append_right Oc p2).trans hL.symm))
      rw [Vw.perm e]
      exact r
    · exact Rps.monoT (k2.leT _) hn r
theorem calli_sp {T : Th} {f i : Nat} {rs : List R} {vs : List V} {ds : List D} {rt : Rt} {cc : D} {W : WX} {Q : VK} {H0 : Hp} {xs xs' : List D} {p : Addr} {ρ1 : Env} (k : Ok c lc ρ σ H O (offs Oc rs vs)) (q : RRs c σ H O (offs Oc rs vs) rs vs) (hp : σ[i]? = some (some (.ref p))) (hl : looks ρ rs = some ds)
    (hf : frzAll (brs rs) ρ = some ρ') (hs : slotL i ρ = some xs) (hs' : slotL i ρ' = some xs') (hT : T.fn f (.lst xs :: ds) = some (rt, cc)) (hio : T.io f = true) (hw : wrS i cc (if noRt rt then ρ else ρ') = some ρ1)
    (st0 : ∀ b, H b = none → H0 b = none) (g : Go c lc W σ H O Oc (rtR rt ρ1) (PV c lc σ Oc H0) Q) : spF c T f (.ref p :: vs) H Q (WE W σ) := by
  have hs2 := frzAll_own hf hs'
  rw [hs] at hs2
  cases hs2
  obtain ⟨O', hO, k'⟩ := frzAll_ok k hf
  obtain ⟨s', hi', ho'⟩ := slotL_own hs'
  obtain ⟨p', vl, hp', hpO, hHp, rx⟩ := k'.own hi' ho'
  rw [hp] at hp'
  cases hp'
  have ar : Rps c (Vw H (O' ++ Oc)) ds vs := args_rp k' hO (List.Sublist.refl _) q hl fun i hi d hd => (frzAll_v hf i d hd).2.2 hi
  have rx2 : Rps c (Vw H (O' ++ Oc)) xs vl := rx.mono (Vw.sub fun b z => by
    rcases List.mem_append.mp z with z | z
    · exact List.mem_append_left _ z
    · exact List.mem_append_right _ (offs_of b z))
  cases hn : noRt rt with
  | true =>
    rw [hn, if_pos rfl] at hw
    have l0 : Le (Vw H (O' ++ Oc)) (Vw H (p :: [])) := Vw.sub fun b z => by
      rw [List.mem_singleton.mp z]; exact List.mem_append_left _ hpO
    refine ⟨.lst xs :: ds, p, [], rt, cc, xs, vl, ?_, ?_, (fun b hb => by simp at hb), k.tabs, hT, ?_⟩
    · rw [hio]
      exact ⟨ds, vs, rfl, rfl, hHp, rx2.mono l0, ar.mono l0⟩
    · rw [hio]; simp [lentO]
    · rw [hio]
      intro H' st tb fin
      exact calli_end (k.sub offs_sub) hp hs hHp hw st0 (.inr hn) g st tb fin
  | false =>
    rw [hn, if_neg Bool.false_ne_true] at hw
    have k2 : Ok c lc ρ' σ H O' Oc := k'.sub offs_sub
    have pe : (p :: (O'.erase p ++ Oc)).Perm (O' ++ Oc) := (List.Perm.append_right Oc (List.perm_cons_erase hpO)).symm
    have l0 : Le (Vw H (O' ++ Oc)) (Vw H (p :: (O'.erase p ++ Oc))) := by rw [Vw.perm pe]; exact Le.refl _
    refine ⟨.lst xs :: ds, p, O'.erase p ++ Oc, rt, cc, xs, vl, ?_, ?_, fun b hb => ?_, k.tabs, hT, ?_⟩
    · rw [hio]
      exact ⟨ds, vs, rfl, rfl, hHp, rx2.mono l0, ar.mono l0⟩
    · rw [hio]; exact pe.nodup_iff.mpr k2.nd
    · rcases List.mem_append.mp hb with z | z
      · obtain ⟨vs, e⟩ := k2.env.ofO b (List.mem_of_mem_erase z)
        exact ⟨_, e, trivial⟩
      · exact k2.off b z
    · rw [hio]
      intro H' st tb fin
      exact calli_end k2 hp hs' hHp hw st0 (.inl pe) (Go.step g (Step.less hO)) st tb fin
theorem calliR_inv {T : Th} {f i : Nat} {rs : List R} {W : WX} {Q : VK} {P : R → Env → V → Hp → List Addr → Prop} (g : Go c lc W σ H O Oc (calliR T f i rs ρ) P Q) : T.io f = true ∧ ∃ ds ρ' xs xs' rt cc ρ1, looks ρ rs = some ds ∧ frzAll (brs rs) ρ = some ρ' ∧ slotL i ρ = some xs ∧ slotL i ρ' = some xs' ∧ T.fn f (.lst xs :: ds) = some (rt, cc) ∧
    wrS i cc (if noRt rt then ρ else ρ') = some ρ1 ∧ Go c lc W σ H O Oc (rtR rt ρ1) P Q := by
  unfold calliR at g
  cases h1 : T.io f with
  | false => rw [h1] at g; exact g.elim
  | true =>
    cases h2 : looks ρ rs with
    | none => rw [h1, h2] at g; exact g.elim
    | some ds =>
      cases h3 : frzAll (brs rs) ρ with
      | none => rw [h1, h2, h3] at g; exact g.elim
      | some ρ' =>
        cases h4 : slotL i ρ with
        | none => rw [h1, h2, h3, h4] at g; exact g.elim
        | some xs =>
          rw [h1, h2, h3, h4] at g
          dsimp only at g
          cases h5 : slotL i ρ' with
          | none => rw [h5, if_neg (by simp)] at g; exact g.elim
          | some xs' =>
            rw [h5, if_pos (by simp)] at g
            cases h6 : T.fn f (.lst xs :: ds) with
            | none => rw [h6] at g; exact g.elim
            | some r =>
              obtain ⟨rt, cc⟩ := r
              rw [h6] at g
              dsimp only at g
              cases h7 : wrS i cc (if noRt rt then ρ else ρ') with
              | none => rw [h7] at g; exact g.elim
              | some ρ1 =>
                rw [h7] at g
                exact ⟨rfl, ds, ρ', xs, xs', rt, cc, ρ1, rfl, rfl, rfl, h5, h6, h7, g⟩
end
theorem j_calli (hcm : nm.calm = true) {x y : Str} {f i : Nat} {es : List Expr} {Es : List E} {p p2 pos : Pos} (hm : (x, f) ∈ nm.fns) (hg : sc.names.lookup x = some .globalImplicit) (hd : (x == ("__debug__" : Str)) = false) (hN : N[i]? = some y) (hv : Vis sc y) (hdy : (y == ("__debug__" : Str)) = false) (hcd : (y == ("__classdict__" : Str)) = false) (h : JA nm N sc es Es) :
    J nm N sc (.Call (.Name x p) (.Name y p2 :: es) [] pos) (.calli f i Es) := by
  refine j_of ?_ rfl (fun _ => by rw [den] <;> rfl) fun _ _ => rfl
  intro c T k X W lc C
  refine ⟨fun pins s σ H Q I ⟨ρ, O, Oc, ok, g⟩ => ?_⟩
  rw [den] at g
  simp only [Den.of] at g
  refine wpAny_Call_Name_kw (ld_glob I (show X.env.scope.names.lookup x = _ by rw [C.hsc]; exact hg) (C.fnm _ hm) ?_ hd)
  have ha := pa_cons (pe_var (X := X) (i := i) (pos := p2) (by rw [C.hN]; exact hN) (by rw [C.hsc]; exact hv) hdy hcd) (h.a c T k X W lc C) rfl
  have pre : ∃ p, σ[i]? = some (some (.ref p)) ∧ rA c lc W (evs T Es) σ H fun vs H1 => ∃ rs ρ1 O1, Step H O H1 O1 ∧ PL c lc σ Oc H rs ρ1 vs H1 O1 ∧ Go c lc W σ H1 O1 Oc (calliR T f i rs ρ1) (PV c lc σ Oc H) Q := by
    cases hs : slotL i ρ with
    | none => rw [hs] at g; exact g.elim
    | some xs =>
      rw [hs] at g
      obtain ⟨s', hi, ho⟩ := slotL_own hs
      obtain ⟨p, vs, hp, _⟩ := ok.own hi ho
      exact ⟨p, hp, ρ, O, Oc, ok, (Go.bind [] g).imp fun vs H1 q => q⟩
  obtain ⟨q, hq, hr⟩ := pre
  refine PySem.W.callWith_K (h₀ := X.base) I.ok.mod.kin (C.kp f) (thn (ha.run pos pins s σ H (fun us H1 => ∃ vs, us = .ref q :: vs ∧ ∃ rs ρ1 O1, Step H O H1 O1 ∧ PL c lc σ Oc H rs ρ1 vs H1 O1 ∧ Go c lc W σ H1 O1 Oc (calliR T f i rs ρ1) (PV c lc σ Oc H) Q) I ⟨_, hq, ?_⟩) fun us s1 ⟨vs, H1, I1, r, q⟩ => ⟨I1.kIn, ?_⟩) rfl (star_any h.s)
  · obtain ⟨ρ0, O0, Oc0, ok0, g0⟩ := hr
    exact ⟨ρ0, O0, Oc0, ok0, g0.imp fun vs H1 z => ⟨vs, rfl, z⟩⟩
  · obtain ⟨vs', rfl, rs, ρ1, O1, st, ⟨ok1, rr, n⟩, g1⟩ := q
    obtain ⟨hio, ds, ρ', xs, xs', rt, cc, ρ2, h1, h2, h3, h4, h5, h6, h7⟩ := calliR_inv g1
    obtain ⟨fd, ps, F, hb⟩ := C.call f _ _ h5
    exact run_fnS F (C.room hcm) hb (passAt C.tk σ) I1 r (calli_sp (W := W) ok1 rr hq h1 h2 h3 h4 h5 hio h6 (fun b hb => st.none hb) h7)
end VL
end
section
set_option maxHeartbeats 4000000
/-! V12: patterns, walks, comprehensions. -/
namespace VL
open PySem PySem.Spec PyProof.Rows L2
variable {nm : Nm} {N : List Str} {sc : Scope}
section
variable {c : Cf} {lc : Lc} {ρ ρ' : Env} {σ : SS} {H H' : Hp} {O O' Oc Oc' Full : List Addr}
theorem setSlot_inv {i : Nat} {s : Sl} (h : setSlot i s ρ = some ρ') : ρ' = ρ.set i s ∧ (ρ[i]? = some .no ∨ (∃ d, ρ[i]? = some (.v d)) ∨ ∃ xs, ρ[i]? = some (.ol xs)) := by
  unfold setSlot at h
  cases e : ρ[i]? with
  | none => rw [e] at h; cases h
  | some t =>
    rw [e] at h
    cases t with
    | no => cases h; exact ⟨rfl, .inl rfl⟩
    | v d => cases h; exact ⟨rfl, .inr (.inl ⟨d, rfl⟩)⟩
    | ol d => cases h; exact ⟨rfl, .inr (.inr ⟨d, rfl⟩)⟩
    | _ => cases h
/-- a slot filled anew with what owns nothing -/
theorem Ok.setN {i : Nat} {s t : Sl} {x' : Option V} (k : Ok c lc ρ σ H O Oc) (hi : ρ[i]? = some t) (he : ∀ F, Le (Vw H (O ++ Oc)) F → En c lc F H s x' []) : ∃ O', (∀ b ∈ O', b ∈ O) ∧ Ok c lc (ρ.set i s) (σ.set i x') H O' Oc := by
  obtain ⟨x, Oi, O', h1, h2, h3, h4⟩ := k.chg hi
  have l : Le (Vw H (O ++ Oc)) (Vw H (([] ++ O') ++ Oc)) := Vw.sub fun b hb => (List.Perm.append_right Oc h3).mem_iff.mpr (by
    rw [List.append_assoc]
    exact List.mem_append_right _ hb)
  have nd : ((Oi ++ O') ++ Oc).Nodup := (List.Perm.append_right Oc h3).nodup_iff.mp k.nd
  obtain ⟨O2, p2, k2⟩ := h4 H Oc s x' [] l (fun _ _ => rfl) (he _ l) (nd.sublist ((List.sublist_append_right Oi O').append_right Oc)) k.off k.tabs
  exact ⟨O2, fun b hb => h3.mem_iff.mpr (List.mem_append_right _ (p2.mem_iff.mp hb)), k2⟩
theorem Ok.setV {i : Nat} {d : D} {v : V} (k : Ok c lc ρ σ H O Oc) (h : setSlot i (.v d) ρ = some ρ') (r : Rp c (Vw H (O ++ Oc)) d v) : ∃ O', (∀ b ∈ O', b ∈ O) ∧ Ok c lc ρ' (σ.set i (some v)) H O' Oc := by
  obtain ⟨rfl, h2⟩ := setSlot_inv h
  obtain ⟨t, ht⟩ : ∃ t, ρ[i]? = some t := by
    rcases h2 with h | ⟨_, h⟩ | ⟨_, h⟩ <;> exact ⟨_, h⟩
  exact k.setN ht fun F l => .v (r.mono l)
/-- a slot filled with a new list -/
theorem Ok.setO {i : Nat} {xs : List D} {p : Addr} {vs : List V} (k : Ok c lc ρ σ H O (p :: Oc)) (h : setSlot i (.ol xs) ρ = some ρ') (hp : H p = some (.lst vs)) (r : Rps c (Vw H (O ++ p :: Oc)) xs vs) : ∃ O', (∀ b ∈ O', b ∈ O ∨ b = p) ∧ Ok c lc ρ' (σ.set i (some (.ref p))) H O' Oc := by
  obtain ⟨rfl, h2⟩ := setSlot_inv h
  obtain ⟨t, ht⟩ : ∃ t, ρ[i]? = some t := by
    rcases h2 with h | ⟨_, h⟩ | ⟨_, h⟩ <;> exact ⟨_, h⟩
  obtain ⟨x, Oi, O', h1, h2, h3, h4⟩ := k.chg ht
  have nd : ((Oi ++ O') ++ p :: Oc).Nodup := (List.Perm.append_right _ h3).nodup_iff.mp k.nd
  have nd2 : (O' ++ p :: Oc).Nodup := nd.sublist (by rw [List.append_assoc]; exact List.sublist_append_right _ _)
  have pm : (([p] ++ O') ++ Oc).Perm (O' ++ p :: Oc) := List.perm_middle.symm
  have l : Le (Vw H (O ++ p :: Oc)) (Vw H (([p] ++ O') ++ Oc)) := Vw.sub fun b hb => (List.Perm.append_right _ h3).mem_iff.mpr (by
    rw [List.append_assoc]
    exact List.mem_append_right _ (pm.mem_iff.mp hb))
  obtain ⟨O2, p2, k2⟩ := h4 H Oc (.ol xs) (some (.ref p)) [p] l (fun _ _ => rfl) (.ol hp (r.mono l)) (pm.nodup_iff.mpr nd2) (fun b hb => k.off b (List.mem_cons_of_mem _ hb)) k.tabs
  refine ⟨O2, fun b hb => ?_, k2⟩
  rcases List.mem_append.mp (p2.mem_iff.mp hb) with z | z
  · exact .inr (List.mem_singleton.mp z)
  · exact .inl (h3.mem_iff.mpr (List.mem_append_right _ z))
end
/-! ### patterns -/
theorem wipe_set {σ : SS} {i : Nat} {x : Option V} : ∀ {vs : List Nat}, i ∈ vs → wipe (σ.set i x) vs = wipe σ vs
  | [], h => by cases h
  | v :: vs, h => by
    unfold wipe
    by_cases hi : i ∈ vs
    · rw [wipe_set hi]
    · have e : v = i := by
        rcases List.mem_cons.mp h with z | z
        · exact z.symm
        · exact absurd z hi
      subst e
      have key : ∀ (ws : List Nat), v ∉ ws → wipe (σ.set v x) ws = (wipe σ ws).set v x := by
        intro ws hw
        induction ws with
        | nil => rfl
        | cons w ws ih =>
          unfold wipe
          rw [ih (fun z => hw (List.mem_cons_of_mem _ z)), List.set_comm _ _ (fun z : v = w => hw (z ▸ List.mem_cons_self))]
      rw [key vs hi, List.set_set]
/-- a pattern's reading: the value is the tree d, the slots end as f says -/
def rG (c : Cf) (lc : Lc) (ws : List Nat) (f : D → Env → Option Env) : TG := fun v σ H Q => ∃ d ρ ρ' O Oc, Ok c lc ρ σ H O Oc ∧ Rp c (Vw H (O ++ Oc)) d v ∧ f d ρ = some ρ' ∧ ∀ σ' O', (∀ b ∈ O', b ∈ O) → Ok c lc ρ' σ' H O' Oc → (∀ vs, (∀ i ∈ ws, i ∈ vs) → wipe σ' vs = wipe σ vs) → Q σ' H
def rGs (c : Cf) (lc : Lc) (ws : List Nat) (f : List D → Env → Option Env) : TGs := fun v σ H Q => ∃ d ρ ρ' O Oc, Ok c lc ρ σ H O Oc ∧ Rps c (Vw H (O ++ Oc)) d v ∧ f d ρ = some ρ' ∧ ∀ σ' O', (∀ b ∈ O', b ∈ O) → Ok c lc ρ' σ' H O' Oc → (∀ vs, (∀ i ∈ ws, i ∈ vs) → wipe σ' vs = wipe σ vs) → Q σ' H
/-- fp: the names that are cells of the frame at hand -/
structure JP (nm : Nm) (N : List Str) (sc : Scope) (fp : Str → Bool) (tg : Expr) (p : Pat) : Prop where
  g : ∀ (c : Cf) (T : Th) (k : Nat) (X : Cx) (W : WX) (lc : Lc), Cok c T nm k N sc X W lc → (∀ x, fp x = true → X.fn x = true) → PG X tg (rG c lc (patSlots p) (asgD p))
structure JPs (nm : Nm) (N : List Str) (sc : Scope) (fp : Str → Bool) (tgs : List Expr) (ps : List Pat) : Prop where
  g : ∀ (c : Cf) (T : Th) (k : Nat) (X : Cx) (W : WX) (lc : Lc), Cok c T nm k N sc X W lc → (∀ x, fp x = true → X.fn x = true) → PGs X tgs (rGs c lc (patSlotss ps) (asgDs ps))
  n : ∀ env, (assignEach tgs env).length = ps.length
  s : ∀ env, (assignEach tgs env).findIdx? (·.1) = none
theorem PG.imp {X : Cx} {e : Expr} {t t' : TG} (h : PG X e t) (i : ∀ v σ H Q, t' v σ H Q → t v σ H Q) : PG X e t' := ⟨fun pins s σ H v u Q I r q => h.run pins s σ H v u Q I r (i v σ H Q q)⟩
theorem PGs.imp {X : Cx} {e : List Expr} {t t' : TGs} (h : PGs X e t) (i : ∀ v σ H Q, t' v σ H Q → t v σ H Q) : PGs X e t' := ⟨fun pins s σ H v u Q I r q => h.run pins s σ H v u Q I r (i v σ H Q q)⟩
variable {fp : Str → Bool}
/-- a name that this frame may write -/
def WrOk (sc : Scope) (fp : Str → Bool) (x : Str) : Prop := sc.names.lookup x = some .local ∨ (sc.names.lookup x = some .cell ∧ fp x = true)
theorem WrOk.loc {x : Str} (h : WrOk sc fp x) : Loc sc x := h.imp id And.left
theorem WrOk.hf {x : Str} {X : Cx} (h : WrOk sc fp x) (hs : X.env.scope = sc) (hf : ∀ x, fp x = true → X.fn x = true) : X.fn x = true ∨ X.env.scope.names.lookup x = some .local := by
  rcases h with h | h
  · exact .inr (by rw [hs]; exact h)
  · exact .inl (hf x h.2)
theorem jp_nm {i : Nat} {x : Str} {pos : Pos} (hN : N[i]? = some x) (hl : WrOk sc fp x) : JP nm N sc fp (.Name x pos) (.nm i) := by
  refine ⟨fun c T k X W lc C hf => ?_⟩
  refine PG.imp (pg_name (i := i) (by rw [C.hN]; exact C.nd) (by rw [C.hN]; exact hN) (by rw [C.hsc]; exact hl.loc) (hl.hf C.hsc hf)) fun v σ H Q ⟨d, ρ, ρ', O, Oc, ok, r, e, q⟩ => ?_
  obtain ⟨O', h1, h2⟩ := ok.setV (show setSlot i (.v d) ρ = some ρ' by rw [← e, asgD]) r
  exact q _ O' h1 h2 fun vs hv => wipe_set (hv i (by rw [patSlots]; exact List.mem_cons_self))
theorem jps_nil : JPs nm N sc fp [] [] := by
  refine ⟨fun c T k X W lc C _ => PGs.imp pgs_nil fun v σ H Q ⟨d, ρ, ρ', O, Oc, ok, r, e, q⟩ => ?_, fun _ => rfl, fun _ => rfl⟩
  cases d with
  | nil =>
    rw [asgDs] at e
    cases e
    cases r
    exact ⟨rfl, q σ O (fun _ z => z) ok fun _ _ => rfl⟩
  | cons _ _ => simp [asgDs] at e
def plainT : Expr → Bool
  | .Starred _ _ => false
  | _ => true
theorem each_cons {e : Expr} {es : List Expr} (env : PySem.Env) (h : plainT e = true) : assignEach (e :: es) env = (false, assign e env) :: assignEach es env := by
  cases e <;> first | rfl | (cases h)
theorem jps_cons {e : Expr} {es : List Expr} {p : Pat} {ps : List Pat} (he : plainT e = true) (h1 : JP nm N sc fp e p) (h2 : JPs nm N sc fp es ps) : JPs nm N sc fp (e :: es) (p :: ps) := by
  refine ⟨fun c T k X W lc C hf => PGs.imp (pgs_cons (h1.g c T k X W lc C hf) (h2.g c T k X W lc C hf) (by rw [each_cons _ he]; rfl)) fun v σ H Q ⟨d, ρ, ρ', O, Oc, ok, r, e, q⟩ => ?_, fun env => by rw [each_cons _ he, List.length_cons, h2.n, List.length_cons], fun env => by rw [each_cons _ he, List.findIdx?_cons, h2.s]; rfl⟩
  cases d with
  | nil => simp [asgDs] at e
  | cons d ds =>
    rw [asgDs] at e
    cases e1 : asgD p d ρ with
    | none => rw [e1] at e; cases e
    | some ρ1 =>
      rw [e1] at e
      cases r with
      | cons rd rds =>
        refine ⟨_, _, rfl, d, ρ, ρ1, O, Oc, ok, rd, e1, fun σ1 O1 hO1 ok1 w1 => ?_⟩
        have lv : Le (Vw H (O ++ Oc)) (Vw H (O1 ++ Oc)) := Vw.sub fun b hb => by
          rcases List.mem_append.mp hb with z | z
          · exact List.mem_append_left _ (hO1 b z)
          · exact List.mem_append_right _ z
        refine ⟨ds, ρ1, ρ', O1, Oc, ok1, rds.mono lv, e, fun σ2 O2 hO2 ok2 w2 => ?_⟩
        refine q σ2 O2 (fun b hb => hO1 b (hO2 b hb)) ok2 fun vs hv => ?_
        rw [patSlotss] at hv
        rw [w2 vs fun i hi => hv i (List.mem_append_right _ hi), w1 vs fun i hi => hv i (List.mem_append_left _ hi)]
theorem asgDs_len : ∀ {ps : List Pat} {xs : List D} {ρ ρ' : Env}, asgDs ps xs ρ = some ρ' → xs.length = ps.length
  | [], [], _, _, _ => rfl
  | [], _ :: _, _, _, e => by simp [asgDs] at e
  | _ :: _, [], _, _, e => by simp [asgDs] at e
  | p :: ps, x :: xs, ρ, ρ', e => by
    rw [asgDs] at e
    cases e1 : asgD p x ρ with
    | none => rw [e1] at e; cases e
    | some ρ1 => rw [e1] at e; exact congrArg (· + 1) (asgDs_len (show asgDs ps xs ρ1 = some ρ' from e))
theorem jp_tp (hcm : nm.calm = true) {es : List Expr} {ps : List Pat} {n : Nat} {pos : Pos} (h : JPs nm N sc fp es ps) : JP nm N sc fp (.Tuple es n pos) (.tp ps) := by
  refine ⟨fun c T k X W lc C hf => ⟨fun pins s σ H v u Q I r ⟨d, ρ, ρ', O, Oc, ok, rp, e, q⟩ => ?_⟩⟩
  have len : ∀ {xs : List D} {vs : List V}, asgDs ps xs ρ = some ρ' → Rps c (Vw H (O ++ Oc)) xs vs → vs.length = ps.length := fun e r => by rw [← r.length, asgDs_len e]
  have fin : ∀ (xs : List D) (vs : List V), Rps c (Vw H (O ++ Oc)) xs vs → asgDs ps xs ρ = some ρ' → rGs c lc (patSlotss ps) (asgDs ps) vs σ H Q := fun xs vs r e => ⟨xs, ρ, ρ', O, Oc, ok, r, e, fun σ' O' h1 h2 h3 => q σ' O' h1 h2 (by rw [patSlots]; exact h3)⟩
  cases d with
  | tup xs =>
    rw [asgD] at e
    cases rp with
    | tup h1 h2 => exact (pg_tup (C.calm hcm) (h.g c T k X W lc C hf) (h.n _) (h.s _)).run pins s σ H _ u Q I r ⟨_, _, rfl, by rw [C.hK]; exact sqT_mono (Vw.le _ _) h1, len e h2, fin _ _ h2 e⟩
  | lst xs =>
    rw [asgD] at e
    cases rp with
    | lst h1 h2 => exact (pg_lst (C.calm hcm) (h.g c T k X W lc C hf) (h.n _) (h.s _)).run pins s σ H _ u Q I r ⟨_, _, rfl, SqL.of (Vw.le _ _ _ _ h1 fun _ z => nomatch z), len e h2, fin _ _ h2 e⟩
  | _ => simp [asgD] at e
end VL
end
section
set_option maxHeartbeats 4000000
/-! V13: what is walked; list comprehensions. -/
namespace VL
open PySem PySem.Spec PyProof.Rows L2 RZ
variable {nm : Nm} {N : List Str} {sc : Scope}
/-- an iterator's things: xs within F -/
def ItOk (c : Cf) (F : Hp) (J : It) (xs : List D) : Prop := ∃ (G : Hp → Prop) (Y : Nat → Hp → V → Hp → Prop), Walk J xs.length G Y ∧ (∀ H, Le F H → G H) ∧ ∀ i H x H', i < xs.length → Le F H → Y i H x H' → ∃ d, xs[i]? = some d ∧ Res c F H (.v d) x H'
def PIt (c : Cf) (lc : Lc) (σ : SS) (Oc : List Addr) : List D → Env → It → Hp → List Addr → Prop := fun xs ρ J H O => Ok c lc ρ σ H O Oc ∧ ItOk c (Vw H (O ++ Oc)) J xs
def rI (c : Cf) (lc : Lc) (W : WX) (m : Env → Rs (List D)) : TI := fun σ H R => ∃ ρ O Oc, Ok c lc ρ σ H O Oc ∧ Go c lc W σ H O Oc (m ρ) (PIt c lc σ Oc) R
def itm (T : Th) (k : Ik) (es : List E) : Env → Rs (List D) := fun ρ => (evf T es ρ).bind fun ds ρ1 => Rs.opt ρ1 (items k ds)
structure JI (nm : Nm) (N : List Str) (sc : Scope) (tg iter : Expr) (k : Ik) (Es : List E) : Prop where
  i : ∀ (c : Cf) (T : Th) (kk : Nat) (X : Cx) (W : WX) (lc : Lc), Cok c T nm kk N sc X W lc → PI X tg iter (rI c lc W (itm T k Es))
  fs : ∀ env x, foldedSetIterable iter env x = pure x
theorem PI.imp {X : Cx} {tg e : Expr} {t t' : TI} (h : PI X tg e t) (i : ∀ σ H R, t' σ H R → t σ H R) : PI X tg e t' := ⟨fun pins s σ H R I q => h.run pins s σ H R I (i σ H R q)⟩
section
variable {c : Cf} {lc : Lc} {ρ ρ' : Env} {σ : SS} {H H' : Hp} {O O' Oc Oc' : List Addr}
/-- the things to walk, made -/
theorem go_itm {W : WX} {T : Th} {k : Ik} {es : List E} {R : It → Hp → Prop} {B : List V → Hp → Prop} (h : ∃ ρ O Oc, Ok c lc ρ σ H O Oc ∧ Go c lc W σ H O Oc (itm T k es ρ) (PIt c lc σ Oc) R)
    (hB : ∀ (F : Hp) ds vs H1, Le F H1 → Rps c F ds vs → ∀ xs, items k ds = some xs → (∀ J, ItOk c F J xs → R J H1) → B vs H1) : rF c lc W (evf T es) σ H B := by
  obtain ⟨ρ, O, Oc, ok, g⟩ := h
  unfold itm at g
  refine ⟨ρ, O, Oc, ok, (Go.bind [] g).imp fun vs H1 ⟨ds, ρ1, O1, st, ⟨ok1, rp⟩, g1⟩ => ?_⟩
  have ok1 : Ok c lc ρ1 σ H1 O1 Oc := ok1
  cases hi : items k ds with
  | none => rw [hi] at g1; exact g1.elim
  | some xs =>
    rw [hi] at g1
    exact hB _ ds vs H1 (Vw.le _ _) rp xs hi fun J j => g1 J H1 O1 (Step.refl _ _) ⟨ok1, j⟩
theorem itok_at {F : Hp} {J : It} {xs : List D} {vs : List V} {G : Hp → Prop} (w : Walk J vs.length G (YAt vs)) (hG : ∀ H, Le F H → G H) (r : Rps c F xs vs) : ItOk c F J xs := by
  refine ⟨G, YAt vs, by rw [r.length]; exact w, hG, ?_⟩
  intro i H x H' hi l q
  obtain ⟨e, y⟩ := q
  subst e
  obtain ⟨d, e, q⟩ := r.get' y
  exact ⟨d, e, .inl ⟨rfl, q⟩⟩
theorem itok_range {F : Hp} {a b : Int} : ItOk c F (Itr a (b - a).toNat) (rangeL a b) := by
  have hl : (rangeL a b).length = (b - a).toNat := by unfold rangeL; simp
  refine ⟨fun _ => True, YFn fun i => .int (a + i), by rw [hl]; exact walk_range, fun _ _ => trivial, ?_⟩
  intro i H x H' hi l q
  obtain ⟨e, y⟩ := q
  subst e y
  refine ⟨.int (a + (i : Nat)), ?_, .inl ⟨rfl, .int _⟩⟩
  unfold rangeL at hi ⊢
  rw [List.getElem?_map, List.getElem?_range (by simpa using hi)]
  rfl
theorem itok_pair {F : Hp} {J : It} {n : Nat} {G : Hp → Prop} {fx fy : Nat → Option V} {xs : List D} (w : Walk J n G (YPair fx fy)) (hn : xs.length = n) (hG : ∀ H, Le F H → G H) (h : ∀ i x y, fx i = some x → fy i = some y → ∃ a b, xs[i]? = some (.tup [a, b]) ∧ Rp c F a x ∧ Rp c F b y) : ItOk c F J xs := by
  refine ⟨G, _, by rw [hn]; exact w, hG, ?_⟩
  intro i H x H' hi l q
  obtain ⟨T, a, b, e1, e2, e3, e4, e5⟩ := q
  subst e1
  obtain ⟨da, db, q1, q2, q3⟩ := h i a b e4 e5
  exact ⟨_, q1, .inr ⟨T, _, _, rfl, rfl, e2, e3, .cons q2 (.cons q3 .nil)⟩⟩
end
theorem le_lst {F H : Hp} {a : Addr} {vs : List V} (l : Le F H) (h : F a = some (.lst vs)) : H a = some (.lst vs) := l _ _ h fun _ z => nomatch z
/-- range -/
theorem ji_rng1 {tg e : Expr} {E1 : E} {p pos : Pos} (hf : ("range" : Str) ∈ nm.free) (hg : sc.names.lookup ("range" : Str) = some .globalImplicit) (h : JA nm N sc [e] [E1]) : JI nm N sc tg (.Call (.Name "range" p) [e] [] pos) .rng [E1] := by
  have hs := h.s
  rw [List.all_cons, Bool.and_eq_true] at hs
  refine ⟨fun c T kk X W lc C => ?_, fun _ _ => rfl⟩
  refine PI.imp (pi_range1 (show X.env.scope.names.lookup _ = _ by rw [C.hsc]; exact hg) (C.free _ hf) (h.f c T kk X W lc C) (starE_cons hs.1)) fun σ H R h => go_itm h fun F ds vs H1 l r xs hi q => ?_
  match ds, r, hi with
  | [.int n], r, hi =>
    obtain ⟨hv, _⟩ := r.ints (is := [n]) rfl
    have hi : (if r62 n then some (rangeL 0 n) else none) = some xs := hi
    by_cases hn : r62 n = true
    · rw [if_pos hn] at hi
      cases hi
      unfold r62 at hn
      rw [Bool.and_eq_true, decide_eq_true_eq, decide_eq_true_eq] at hn
      have j := itok_range (c := c) (F := F) (a := 0) (b := n)
      rw [Int.sub_zero] at j
      exact ⟨n, hv, hn.1, hn.2, q _ j⟩
    · rw [if_neg hn] at hi; cases hi
theorem ji_rng2 {tg e e2 : Expr} {E1 E2 : E} {p pos : Pos} (hf : ("range" : Str) ∈ nm.free) (hg : sc.names.lookup ("range" : Str) = some .globalImplicit) (h : JA nm N sc [e, e2] [E1, E2]) : JI nm N sc tg (.Call (.Name "range" p) [e, e2] [] pos) .rng2 [E1, E2] := by
  have hs := h.s
  rw [List.all_cons, List.all_cons, Bool.and_eq_true, Bool.and_eq_true] at hs
  refine ⟨fun c T kk X W lc C => ?_, fun _ _ => rfl⟩
  refine PI.imp (pi_range2 (show X.env.scope.names.lookup _ = _ by rw [C.hsc]; exact hg) (C.free _ hf) (h.f c T kk X W lc C) (by rw [starE_cons hs.1, starE_cons hs.2.1]; rfl) (starE_cons hs.2.1)) fun σ H R h => go_itm h fun F ds vs H1 l r xs hi q => ?_
  match ds, r, hi with
  | [.int m, .int n], r, hi =>
    obtain ⟨hv, _⟩ := r.ints (is := [m, n]) rfl
    have hi : (if r62 m && r62 n then some (rangeL m n) else none) = some xs := hi
    by_cases hn : (r62 m && r62 n) = true
    · rw [if_pos hn] at hi
      cases hi
      unfold r62 at hn
      simp only [Bool.and_eq_true, decide_eq_true_eq] at hn
      exact ⟨m, n, hv, ⟨hn.1.1, hn.1.2, hn.2.1, hn.2.2⟩, q _ itok_range⟩
    · rw [if_neg hn] at hi; cases hi
theorem small_up {a b s : Int} (ha : -(2 ^ 62) ≤ a) (ha' : a < 2 ^ 62) (hb : -(2 ^ 62) ≤ b) (hb' : b < 2 ^ 62) (hs : 0 < s) (hs' : s < 1073741824) : Builtin.Range.small a b s = true ∧ Builtin.Range.rangeSize a b s = (stepsOf a b s : Nat) := by
  have hsz : Builtin.Range.rangeSize a b s = if a < b then (b - a - 1) / s + 1 else 0 := by
    unfold Builtin.Range.rangeSize
    rw [if_pos hs]
  have hnn : 0 ≤ (b - a - 1) / s + 1 ∨ ¬ a < b := by
    by_cases h : a < b
    · exact .inl (by have := Int.ediv_nonneg (a := b - a - 1) (b := s) (by omega) (by omega); omega)
    · exact .inr h
  refine ⟨?_, ?_⟩
  · unfold Builtin.Range.small
    rw [hsz]
    have h2 : (b - a - 1) / s ≤ b - a - 1 ∨ ¬ a < b := by
      by_cases h : a < b
      · exact .inl (Int.ediv_le_self _ (by omega))
      · exact .inr h
    have h3 : s * ((b - a - 1) / s) ≤ b - a - 1 := Int.mul_ediv_self_le (by omega)
    have h4 : ((b - a - 1) / s + 1) * s = s * ((b - a - 1) / s) + s := by rw [Int.add_mul, Int.mul_comm]; omega
    simp only [Builtin.Range.rangeFitsLong, Bool.and_eq_true, Bool.or_eq_true, decide_eq_true_eq, beq_iff_eq, if_pos hs]
    split <;> omega
  · rw [hsz]
    unfold stepsOf
    split <;> omega
theorem ji_rng3 {tg e e2 e3 : Expr} {E1 E2 E3 : E} {p pos : Pos} (hf : ("range" : Str) ∈ nm.free) (hg : sc.names.lookup ("range" : Str) = some .globalImplicit) (h : JA nm N sc [e, e2, e3] [E1, E2, E3]) : JI nm N sc tg (.Call (.Name "range" p) [e, e2, e3] [] pos) .rng3 [E1, E2, E3] := by
  have hs := h.s
  rw [List.all_cons, List.all_cons, List.all_cons, Bool.and_eq_true, Bool.and_eq_true, Bool.and_eq_true] at hs
  refine ⟨fun c T kk X W lc C => ?_, fun _ _ => rfl⟩
  refine PI.imp (pi_range3 (show X.env.scope.names.lookup _ = _ by rw [C.hsc]; exact hg) (C.free _ hf) (h.f c T kk X W lc C) (starE_cons hs.1) (by rw [starE_cons hs.2.1, starE_cons hs.2.2.1]; rfl)) fun σ H R h => go_itm h fun F ds vs H1 l r xs hi q => ?_
  match ds, r, hi with
  | [.int m, .int n, .int s], r, hi =>
    obtain ⟨hv, _⟩ := r.ints (is := [m, n, s]) rfl
    have hi : (if r62 m && r62 n && decide (0 < s) && decide (s < 1073741824) then some (rangeS m n s) else none) = some xs := hi
    by_cases hn : (r62 m && r62 n && decide (0 < s) && decide (s < 1073741824)) = true
    · rw [if_pos hn] at hi
      cases hi
      unfold r62 at hn
      simp only [Bool.and_eq_true, decide_eq_true_eq] at hn
      have sm := small_up hn.1.1.1.1 hn.1.1.1.2 hn.1.1.2.1 hn.1.1.2.2 hn.1.2 hn.2
      refine ⟨m, n, s, stepsOf m n s, hv, ⟨by omega, by omega, sm.1, sm.2⟩, q _ ?_⟩
      have hl : (rangeS m n s).length = stepsOf m n s := by unfold rangeS; simp
      refine ⟨fun _ => True, YFn fun i => .int (m + (i : Nat) * s), by rw [hl]; exact walk_rangeC, fun _ _ => trivial, ?_⟩
      intro i H x H' hi l q
      obtain ⟨e, y⟩ := q
      subst e y
      refine ⟨.int (m + (i : Nat) * s), ?_, .inl ⟨rfl, .int _⟩⟩
      unfold rangeS at hi ⊢
      rw [List.getElem?_map, List.getElem?_range (by simpa using hi)]
      rfl
    · rw [if_neg hn] at hi; cases hi
/-- a list or a tuple -/
def iRow (K : PySem.W.Frag) (tl : TE) : TI := fun σ H R => tl σ H fun x H1 => ∃ a, x = .ref a ∧ (((∃ xs, SqL K H1 a xs) ∧ R (Itl K a) H1) ∨ ((∃ xs, SqT K H1 a xs) ∧ R (Itt K a) H1))
theorem pi_row {X : Cx} {tg l : Expr} {tl : TE} (hl : PE X l tl) : PI X tg l (iRow X.K tl) := by
  constructor
  intro pins s σ H R I h
  refine thn (hl.run pins s σ H _ I h) fun v s1 ⟨x, H1, I1, r1, a, e, q⟩ => ?_
  subst e
  cases r1
  have fp : ∀ b ∈ [s1.heap.objs.size], FpOk X pins H1 b := fun b hb => by
    rw [List.mem_singleton.mp hb]
    exact I1.fpOk (Nat.le_refl _) (I1.hok.fresh (Nat.le_refl _))
  have Ik : ∀ o : Obj, Inv X pins σ H1 { s1 with heap := s1.heap.push o } := fun o => I1.kept (t' := s1.toks) fun b o e => Heap.get?_push_of_some _ e
  rcases q with ⟨⟨xs, hq⟩, q⟩ | ⟨⟨xs, hq⟩, q⟩
  · obtain ⟨its, rv, pl, _⟩ := I1.list hq
    exact wpAny_pyIter_list pl.isList ⟨_, _, _, _, H1, rfl, Ik _, turn_list a _, ⟨_, Heap.get?_push_size _ rfl, rfl, rfl⟩, fp, q⟩
  · obtain ⟨its, rv, pl, _⟩ := I1.tuple hq
    have pl : s1.heap.IsTuple a its.toArray := pl
    exact wpAny_pyIter_tuple pl ⟨_, _, _, _, H1, rfl, Ik _, turn_tuple a _, ⟨_, Heap.get?_push_size _ rfl, rfl, rfl⟩, fp, q⟩
theorem ji_of {tg e : Expr} {E1 : E} (hfs : ∀ env x, foldedSetIterable e env x = pure x) (h : J nm N sc e E1) : JI nm N sc tg e .of [E1] := by
  refine ⟨fun c T kk X W lc C => ?_, hfs⟩
  refine PI.imp (pi_row (h.je c T kk X W lc C)) fun σ H R ⟨ρ, O, Oc, ok, g⟩ => ?_
  unfold itm at g
  rw [evf] at g
  simp only [Rs.bind_assoc] at g
  refine ⟨ρ, O, Oc, ok, (Go.bind [] g).imp fun v H1 ⟨x, ρ1, O1, st, ⟨pr, _⟩, g1⟩ => ?_⟩
  have pr : PR c lc ρ1 σ H1 O1 ([] ++ Oc) x v := pr
  obtain ⟨d, ρ2, O2, hO, ok2, rp, g2⟩ := go_frz pr g1
  have ok2 : Ok c lc ρ2 σ H1 O2 Oc := ok2
  have rp : Rp c (Vw H1 (O2 ++ Oc)) d v := rp
  rw [evf] at g2
  simp only [Rs.bind_ok] at g2
  cases hi : items .of [d] with
  | none => rw [hi] at g2; exact g2.elim
  | some xs =>
    rw [hi] at g2
    have fin : ∀ J, ItOk c (Vw H1 (O2 ++ Oc)) J xs → R J H1 := fun J j => g2 J H1 O2 (Step.refl _ _) ⟨ok2, j⟩
    have hi : rowOf d = some xs := hi
    cases d with
    | tup ys =>
      cases hi
      cases rp with
      | tup h1 h2 =>
        refine ⟨_, rfl, .inr ⟨⟨_, by rw [C.hK]; exact sqT_mono (Vw.le _ _) h1⟩, fin _ (itok_at walk_tup (fun H l => ?_) h2)⟩⟩
        rw [C.hK]
        exact sqT_mono l h1
    | lst ys =>
      cases hi
      cases rp with
      | lst h1 h2 =>
        exact ⟨_, rfl, .inl ⟨⟨_, SqL.of (le_lst (Vw.le _ _) h1)⟩, fin _ (itok_at walk_list (fun H l => SqL.of (le_lst l h1)) h2)⟩⟩
    | _ => cases hi
theorem Rps.two {c : Cf} {F : Hp} {d e : D} {vs : List V} (h : Rps c F [d, e] vs) : ∃ v w, vs = [v, w] ∧ Rp c F d v ∧ Rp c F e w := by
  cases h with
  | cons r t =>
    cases t with
    | cons r' t' =>
      cases t'
      exact ⟨_, _, rfl, r, r'⟩
theorem Rps.one {c : Cf} {F : Hp} {d : D} {vs : List V} (h : Rps c F [d] vs) : ∃ v, vs = [v] ∧ Rp c F d v := by
  cases h with
  | cons r t =>
    cases t
    exact ⟨_, rfl, r⟩
theorem Rp.tupI {c : Cf} {F : Hp} {xs : List D} {v : V} (h : Rp c F (.tup xs) v) : ∃ a, v = .ref a ∧ ∃ vs, SqT c.K F a vs ∧ Rps c F xs vs := by
  cases h with
  | tup h1 h2 => exact ⟨_, rfl, _, h1, h2⟩
theorem Rp.lstI {c : Cf} {F : Hp} {xs : List D} {v : V} (h : Rp c F (.lst xs) v) : ∃ a, v = .ref a ∧ ∃ vs, F a = some (.lst vs) ∧ Rps c F xs vs := by
  cases h with
  | lst h1 h2 => exact ⟨_, rfl, _, h1, h2⟩
theorem zip_at {c : Cf} {F : Hp} {xs ys : List D} {vs ws : List V} (r1 : Rps c F xs vs) (r2 : Rps c F ys ws) : ∀ (i : Nat) (x y : V), vs[i]? = some x → ws[i]? = some y → ∃ a b, ((xs.zip ys).map fun p => D.tup [p.1, p.2])[i]? = some (.tup [a, b]) ∧ Rp c F a x ∧ Rp c F b y := fun i x y h1 h2 => by
  obtain ⟨a, e1, q1⟩ := r1.get' h1
  obtain ⟨b, e2, q2⟩ := r2.get' h2
  refine ⟨a, b, ?_, q1, q2⟩
  rw [List.getElem?_map, (List.getElem?_zip_eq_some (z := (a, b))).mpr ⟨e1, e2⟩]
  rfl
theorem walk_zipT {K : PySem.W.Frag} {a b : Addr} {xs ys : List V} {n : Nat} (hn : n = min xs.length ys.length) : Walk (ItzT K a b) n (fun H => SqT K H a xs ∧ SqT K H b ys) (YPair (fun i => xs[i]?) (fun i => ys[i]?)) := by
  constructor
  · intro i H hi q
    have h1 : i < xs.length := by omega
    have h2 : i < ys.length := by omega
    exact ⟨xs, ys, xs[i], ys[i], q.1, q.2, by simp [h1], by simp [h2]⟩
  · exact fun H q => ⟨xs, ys, q.1, q.2, by omega⟩
  · intro i H v H' hi q y
    obtain ⟨A, x, z, h1, h2, h3, h4, h5⟩ := y
    exact ⟨A, x, z, h1, h2, h3, h4 xs q.1, h5 ys q.2⟩
theorem ji_zip {es : List Expr} {n : Nat} {tp : Pos} {e e2 : Expr} {E1 E2 : E} {p pos : Pos} (hf : ("zip" : Str) ∈ nm.free) (hg : sc.names.lookup ("zip" : Str) = some .globalImplicit) (h : JA nm N sc [e, e2] [E1, E2]) : JI nm N sc (.Tuple es n tp) (.Call (.Name "zip" p) [e, e2] [] pos) .zip [E1, E2] := by
  have hs := h.s
  rw [List.all_cons, List.all_cons, Bool.and_eq_true, Bool.and_eq_true] at hs
  refine ⟨fun c T kk X W lc C => ?_, fun _ _ => rfl⟩
  refine PI.imp (pi_zipA (show X.env.scope.names.lookup _ = _ by rw [C.hsc]; exact hg) (C.free _ hf) (h.f c T kk X W lc C) (starE_cons hs.1) (by rw [starE_cons hs.2.1]; rfl)) fun σ H R h => go_itm h fun F ds vs H1 l r xs hi q => ?_
  have len : ∀ (xs ys : List D) (vs ws : List V), Rps c F xs vs → Rps c F ys ws → ((xs.zip ys).map fun p => D.tup [p.1, p.2]).length = min vs.length ws.length := fun xs ys vs ws r1 r2 => by
    rw [List.length_map, List.length_zip, r1.length, r2.length]
  match ds, r, hi with
  | [.tup xs', .tup ys'], r, hi =>
    cases hi
    obtain ⟨v, w, rfl, r1, r2⟩ := r.two
    obtain ⟨a, h1, _, h2, h3⟩ := r1.tupI
    obtain ⟨b, h4, _, h5, h6⟩ := r2.tupI
    subst h1 h4
    exact ⟨_, _, _, _, rfl, .inr ⟨by rw [C.hK]; exact sqT_mono l h2, by rw [C.hK]; exact sqT_mono l h5, q _ (itok_pair (walk_zipT rfl) (len _ _ _ _ h3 h6) (fun H l => ⟨by rw [C.hK]; exact sqT_mono l h2, by rw [C.hK]; exact sqT_mono l h5⟩) (zip_at h3 h6))⟩⟩
  | [.lst xs', .lst ys'], r, hi =>
    cases hi
    obtain ⟨v, w, rfl, r1, r2⟩ := r.two
    obtain ⟨a, h1, _, h2, h3⟩ := r1.lstI
    obtain ⟨b, h4, _, h5, h6⟩ := r2.lstI
    subst h1 h4
    exact ⟨_, _, _, _, rfl, .inl ⟨SqL.of (le_lst l h2), SqL.of (le_lst l h5), q _ (itok_pair (walk_zip rfl) (len _ _ _ _ h3 h6) (fun H l => ⟨SqL.of (le_lst l h2), SqL.of (le_lst l h5)⟩) (zip_at h3 h6))⟩⟩
end VL
end
section
set_option maxHeartbeats 4000000
/-! V14: list comprehensions. -/
namespace VL
open PySem PySem.Spec PyProof.Rows L2
variable {nm : Nm} {N : List Str} {sc : Scope}
structure JC (nm : Nm) (N : List Str) (sc : Scope) (es : List Expr) (Es : List E) : Prop where
  c : ∀ (c : Cf) (T : Th) (k : Nat) (X : Cx) (W : WX) (lc : Lc), Cok c T nm k N sc X W lc → PTs X es (rT c lc W (evC T Es))
theorem jc_nil : JC nm N sc [] [] := by
  refine ⟨fun c T k X W lc C => ⟨fun pins s σ H Q I ⟨ρ, O, Oc, ok, g⟩ => pts_nil.run pins s σ H Q I ?_⟩⟩
  rw [evC] at g
  exact g true H O (Step.refl _ _) ⟨rfl, ok⟩
theorem jc_one {e : Expr} {E1 : E} (h : J nm N sc e E1) : JC nm N sc [e] [E1] := by
  refine ⟨fun c T k X W lc C => ⟨fun pins s σ H Q I ⟨ρ, O, Oc, ok, g⟩ => (pts_one (h.jt c T k X W lc C)).run pins s σ H Q I ⟨ρ, O, Oc, ok, ?_⟩⟩⟩
  rw [evC] at g
  refine (Go.bind [] g).imp fun b H1 ⟨b', ρ1, O1, st, ⟨e, ok1⟩, g1⟩ => ?_
  have e : b = b' := e
  have ok1 : Ok c lc ρ1 σ H1 O1 Oc := ok1
  subst e
  cases b with
  | true =>
    simp only [evC] at g1
    exact g1 true H1 O1 (Step.refl _ _) ⟨rfl, ok1⟩
  | false => exact g1 false H1 O1 (Step.refl _ _) ⟨rfl, ok1⟩
theorem Cok.blk (hcm : nm.calm = true) {c : Cf} {T : Th} {k : Nat} {X : Cx} {W : WX} {lc : Lc} (C : Cok c T nm k N sc X W lc) {s : Shared} {H : Hp} {scope : Scope} {cl : List (Str × Addr)} {A : Addr} {fp : List Addr} : Cok c T nm k N (relS scope sc) (X.blk s H scope (compEnvC scope cl A X.env) fp) (fun _ _ _ _ => False) lc where
  hK := C.hK
  hN := C.hN
  nd := C.nd
  hsc := by rw [← C.hsc]; rfl
  room := C.room
  un := C.un
  room2 := C.room2
  lam := C.lam
  wd := C.wd
  calm := C.calm
  tk := fun u s' h => by
    obtain ⟨_, _, _, _, _, _, _, _, _, _, _, _, _, _, _, _, w⟩ := h
    exact w.elim
  con := C.con
  fnm := C.fnm
  free := C.free
  tab := C.tab
  kp := C.kp
  cl := C.cl
  zex := fun h => by rw [hcm] at h; cases h
  call := C.call
/-! ### slots emptied, slots filled again -/
theorem wipe_at {σ : SS} {i : Nat} : ∀ {vs : List Nat}, i ∉ vs → (wipe σ vs)[i]? = σ[i]?
  | [], _ => rfl
  | v :: vs, h => by
    unfold wipe
    rw [List.getElem?_set_ne (fun e : v = i => h (by rw [e]; exact List.mem_cons_self)), wipe_at fun z => h (List.mem_cons_of_mem _ z)]
theorem wipe_wipe {σ : SS} {vs : List Nat} : ∀ {ws : List Nat}, (∀ i ∈ ws, i ∈ vs) → wipe (wipe σ ws) vs = wipe σ vs
  | [], _ => rfl
  | w :: ws, h => by
    rw [show wipe σ (w :: ws) = (wipe σ ws).set w none from rfl, wipe_set (h w List.mem_cons_self), wipe_wipe fun i hi => h i (List.mem_cons_of_mem _ hi)]
section
variable {c : Cf} {lc : Lc} {ρ ρ' : Env} {σ : SS} {H H' : Hp} {O O' Oc Oc' : List Addr}
theorem ok_wipe : ∀ {vs : List Nat}, Ok c lc ρ σ H O Oc → ∃ O', (∀ b ∈ O', b ∈ O) ∧ Ok c lc (wipeE ρ vs) (wipe σ vs) H O' Oc
  | [], k => ⟨O, fun _ z => z, k⟩
  | v :: vs, k => by
    obtain ⟨O1, h1, k1⟩ := ok_wipe (vs := vs) k
    show ∃ O', (∀ b ∈ O', b ∈ O) ∧ Ok c lc ((wipeE ρ vs).set v .no) ((wipe σ vs).set v none) H O' Oc
    cases e : (wipeE ρ vs)[v]? with
    | none =>
      have l1 : (wipeE ρ vs).length ≤ v := by simpa using e
      rw [List.set_eq_of_length_le l1, List.set_eq_of_length_le (by rw [← k1.len]; exact l1)]
      exact ⟨O1, h1, k1⟩
    | some t =>
      obtain ⟨O2, h2, k2⟩ := k1.setN e (s := .no) (x' := none) fun F l => .no _
      exact ⟨O2, fun b hb => h1 b (h2 b hb), k2⟩
theorem ok_restore {ρ1 : Env} {H1 : Hp} {O1 Oc1 : List Addr} (k1 : Ok c lc ρ1 σ H1 O1 Oc1) : ∀ {vs : List Nat} {ρ : Env} {O : List Addr}, vs.Nodup → vs.all (isFree ρ1) = true → Le (Vw H1 (O1 ++ Oc1)) (Vw H (O ++ Oc)) → Ok c lc ρ (wipe σ vs) H O Oc → ∃ O', (∀ b ∈ O', b ∈ O) ∧ Ok c lc (restore ρ1 vs ρ) σ H O' Oc
  | [], ρ, O, _, _, _, k => ⟨O, fun _ z => z, k⟩
  | v :: vs, ρ, O, nd, hf, lv, k => by
    rw [List.all_cons, Bool.and_eq_true] at hf
    obtain ⟨nv, nd⟩ := List.nodup_cons.mp nd
    have k : Ok c lc ρ ((wipe σ vs).set v none) H O Oc := k
    have fr : ∃ s x, ρ1[v]? = some s ∧ σ[v]? = some x ∧ ∀ F, Le (Vw H (O ++ Oc)) F → En c lc F H s x [] := by
      have h := hf.1
      unfold isFree at h
      cases e : ρ1[v]? with
      | none => rw [e] at h; cases h
      | some s =>
        rw [e] at h
        obtain ⟨x, Oi, O2, q1, q2, _⟩ := k1.env.split e
        cases s with
        | no => exact ⟨_, x, rfl, q1, fun F _ => .no _⟩
        | v d =>
          cases q2 with
          | v r => exact ⟨_, _, rfl, q1, fun F l => .v (r.mono (lv.trans l))⟩
        | _ => cases h
    obtain ⟨s, x, e1, e2, he⟩ := fr
    have hv : v < ρ.length := by
      rw [k.len, List.length_set, wipe_length]
      exact (List.getElem?_eq_some_iff.mp e2).1
    obtain ⟨O2, h2, k2⟩ := k.setN (List.getElem?_eq_getElem hv) he
    rw [List.set_set, set_same (show (wipe σ vs)[v]? = some x by rw [wipe_at nv]; exact e2)] at k2
    obtain ⟨O3, h3, k3⟩ := ok_restore k1 nd hf.2 (lv.trans (Vw.sub fun b hb => by
      rcases List.mem_append.mp hb with z | z
      · exact List.mem_append_left _ (h2 b z)
      · exact List.mem_append_right _ z)) k2
    refine ⟨O3, fun b hb => h2 b (h3 b hb), ?_⟩
    unfold restore
    rw [show ρ1.getD v .no = s by rw [List.getD_eq_getElem?_getD, e1]; rfl]
    exact k3
/-- the list that grows -/
theorem Ok.grow {p : Addr} {vs ws : List V} (k : Ok c lc ρ σ H O Oc) (hp : p ∈ Oc) (e : H p = some (.lst vs)) : Ok c lc ρ σ (L2.upd H p (.lst ws)) O Oc where
  env := k.env.mono (fun b u e1 _ => by
    obtain ⟨z1, z2⟩ := Vw.some_iff.mp e1
    exact Vw.some_iff.mpr ⟨z1, by rw [upd_ne (fun z : b = p => z1 (List.mem_append_right _ (by rw [z]; exact hp)))]; exact z2⟩) fun b hb => by
    rw [upd_ne (fun z : b = p => k.dis p hp (by rw [← z]; exact hb))]
  nd := k.nd
  off := fun b hb => by
    by_cases z : b = p
    · subst z; exact ⟨_, upd_same, trivial⟩
    · obtain ⟨u, e1, q⟩ := k.off b hb
      exact ⟨u, by rw [upd_ne z]; exact e1, q⟩
  tabs := tabs_upd k.tabs e
theorem Step.grow {H1 : Hp} {p : Addr} {o : HO} {vs : List V} (s : Step H1 O H O') (hp : H1 p = Option.none) (e : H p = Option.some (.lst vs)) : Step H1 O (L2.upd H p o) O' where
  keep := fun b u h n t => by rw [upd_ne (ne_of_none h hp)]; exact s.keep b u h n t
  tbl := fun b ps h => by
    obtain ⟨q, h2⟩ := s.tbl b ps h
    exact ⟨q, by rw [upd_ne (ne_of_none h hp)]; exact h2⟩
  own := s.own
  there := fun b hb n => by
    by_cases z : b = p
    · subst z; exact absurd hp n
    · rw [upd_ne z]; exact s.there b hb n
theorem Res.mono {F F' : Hp} {d : D} {v : V} (l : Le F F') (h : Res c F H (.v d) v H') : Res c F' H (.v d) v H' := by
  rcases h with ⟨e, r⟩ | ⟨p, ds, vs, e1, e2, e3, e4, r⟩
  · exact .inl ⟨e, r.mono l⟩
  · exact .inr ⟨p, ds, vs, e1, e2, e3, e4, r.mono l⟩
end
def lcTurn (T : Th) (p : Pat) (cs : List E) (e : E) : D → Env → Rs (Option D) := fun d ρ2 => match asgD p d ρ2 with
  | some ρ3 => (evC T cs ρ3).bind fun b ρ4 => match b with
    | true => ((den T e).v ρ4).bind fun r ρ5 => (frz r ρ5).bind fun y ρ6 => .ok (some y) ρ6
    | false => .ok none ρ4
  | none => .no
theorem den_lc (T : Th) (k : Ik) (es : List E) (p : Pat) (cs : List E) (e : E) (ρ : Env) : (den T (.lc k es p cs e)).v ρ = (itm T k es ρ).bind fun xs ρ1 => if (patSlots p).all (isFree ρ1) && decide (xs.length ≤ LINE) then
        (match lcL (patSlots p) (lcTurn T p cs e) xs (wipeE ρ1 (patSlots p)) with
        | .ok ys ρ9 => .ok (.fl ys) (restore ρ1 (patSlots p) ρ9)
        | _ => .no)
      else .no := by
  rw [den]
  simp only [Den.of]
  unfold itm
  rw [Rs.bind_assoc]
  cases evf T es ρ with
  | no => rfl
  | ex _ _ => rfl
  | ok ds ρ1 =>
    show _ = (Rs.opt ρ1 (items k ds)).bind _
    cases h : items k ds with
    | none => simp only [Rs.bind_ok, h]; rfl
    | some xs => simp only [Rs.bind_ok, h]; rfl
theorem ok_bind_inv {α β : Type} {m : Rs α} {k : α → Env → Rs β} {b : β} {ρ : Env} (h : m.bind k = .ok b ρ) : ∃ a ρ1, m = .ok a ρ1 ∧ k a ρ1 = .ok b ρ := by
  cases m with
  | ok a ρ1 => exact ⟨a, ρ1, rfl, h⟩
  | ex _ _ => cases h
  | no => cases h
theorem lc_read {c : Cf} {T : Th} {W : WX} {lc : Lc} {k : Ik} {Es Cs : List E} {p : Pat} {E1 : E} (hnd : (patSlots p).Nodup) (σ : SS) (H : Hp) (Q : VK) (h : rE c lc W (den T (.lc k Es p Cs E1)).v σ H Q) :
    tLc (rI c lc W (itm T k Es)) (rG c lc (patSlots p) (asgD p)) (rT c lc (fun _ _ _ _ => False) (evC T Cs)) (rE c lc (fun _ _ _ _ => False) (den T E1).v) (patSlots p) σ H Q := by
  obtain ⟨ρ, O, Oc, ok, g⟩ := h
  rw [den_lc] at g
  generalize hvs : patSlots p = vs at *
  refine ⟨ρ, O, Oc, ok, (Go.bind [] g).imp fun J H1 ⟨xs, ρ1, O1, st, ⟨ok1, it⟩, g1⟩ => ?_⟩
  have ok1 : Ok c lc ρ1 σ H1 O1 Oc := ok1
  obtain ⟨⟨hfr, hlen⟩, g1⟩ : (vs.all (isFree ρ1) = true ∧ xs.length ≤ LINE) ∧ Go c lc W σ H1 O1 Oc (match lcL vs (lcTurn T p Cs E1) xs (wipeE ρ1 vs) with
      | .ok ys ρ9 => .ok (.fl ys) (restore ρ1 vs ρ9)
      | _ => .no) (PV c lc σ Oc H) Q := by
    obtain ⟨a, b⟩ := go_if g1
    rw [Bool.and_eq_true, decide_eq_true_eq] at a
    exact ⟨a, b⟩
  obtain ⟨G, Y, walk, hG, hY⟩ := it
  obtain ⟨yst, ρ9, hL, g1⟩ : ∃ ys ρ9, lcL vs (lcTurn T p Cs E1) xs (wipeE ρ1 vs) = .ok ys ρ9 ∧ Go c lc W σ H1 O1 Oc (Rs.ok (R.fl ys) (restore ρ1 vs ρ9)) (PV c lc σ Oc H) Q := by
    cases h : lcL vs (lcTurn T p Cs E1) xs (wipeE ρ1 vs) with
    | ok ys ρ9 => rw [h] at g1; exact ⟨ys, ρ9, rfl, g1⟩
    | ex _ _ => rw [h] at g1; exact g1.elim
    | no => rw [h] at g1; exact g1.elim
  intro D hD
  have lvw : ∀ {H2 : Hp} {O2 : List Addr}, Step H1 O1 H2 O2 → Le (Vw H1 (O1 ++ Oc)) (Vw H2 (O2 ++ D :: Oc)) := fun s => s.vw (fun b hb => by
    rcases List.mem_append.mp hb with z | z
    · rcases s.own b z with y | y
      · exact .inl (List.mem_append_left _ y)
      · exact .inr y
    · rcases List.mem_cons.mp z with y | y
      · exact .inr (y ▸ hD)
      · exact .inl (List.mem_append_right _ y)) fun b hb => List.mem_append_left _ hb
  refine lc_it walk (fun i H2 => ∃ ρa Oa accD accV ys, Ok c lc ρa (wipe σ vs) H2 Oa (D :: Oc) ∧ Step H1 O1 H2 Oa ∧ H2 D = some (.lst accV) ∧ Rps c (Vw H2 (Oa ++ D :: Oc)) accD accV ∧ accD.length ≤ i ∧ lcL vs (lcTurn T p Cs E1) (xs.drop i) ρa = .ok ys ρ9 ∧ accD ++ ys = yst) ?_ ?_ ?_ ?_
  · obtain ⟨O2, h2, k2⟩ := ok_wipe (vs := vs) ok1
    exact ⟨_, O2, [], [], yst, k2.newOff hD, (Step.new hD).trans (Step.less h2), upd_same, .nil, Nat.le_refl _, hL, rfl⟩
  · rintro i H2 _ ⟨ρa, Oa, accD, accV, ys, k, s, _⟩
    exact hG _ ((lvw s).trans (Vw.le _ _))
  · rintro i x H2 H' hlt ⟨ρa, Oa, accD, accV, ys, k, s, hDl, racc, hacc, hrest, htot⟩ y
    obtain ⟨d, hd, res⟩ := hY i H2 x H' hlt ((lvw s).trans (Vw.le _ _)) y
    obtain ⟨s', pr⟩ := k.res (List.Sublist.refl _) (res.mono (lvw s))
    have k' : Ok c lc ρa (wipe σ vs) H' Oa (D :: Oc) := pr.ok
    have rp' : Rp c (Vw H' (Oa ++ D :: Oc)) d x := pr.rr
    have hdrop : xs.drop i = d :: xs.drop (i + 1) := by
      obtain ⟨h1, h2⟩ := List.getElem?_eq_some_iff.mp hd
      rw [← h2, List.drop_eq_getElem_cons h1]
    rw [hdrop] at hrest
    have hrest : (match lcTurn T p Cs E1 d ρa with
      | .ok o ρ1 => match lcL vs (lcTurn T p Cs E1) (xs.drop (i + 1)) (wipeE ρ1 vs) with
        | .ok ys ρ2 => Rs.ok (match o with | some y => y :: ys | none => ys) ρ2
        | _ => .no
      | _ => .no) = .ok ys ρ9 := hrest
    obtain ⟨o, ρt, ys', ht, hrest', hys⟩ : ∃ o ρt ys', lcTurn T p Cs E1 d ρa = .ok o ρt ∧ lcL vs (lcTurn T p Cs E1) (xs.drop (i + 1)) (wipeE ρt vs) = .ok ys' ρ9 ∧ ys = (match o with | some y => y :: ys' | none => ys') := by
      cases h1 : lcTurn T p Cs E1 d ρa with
      | ok o ρt =>
        rw [h1] at hrest
        dsimp only at hrest
        cases h2 : lcL vs (lcTurn T p Cs E1) (xs.drop (i + 1)) (wipeE ρt vs) with
        | ok ys' ρ2 =>
          rw [h2] at hrest
          dsimp only at hrest
          injection hrest with e1 e2
          subst e2
          exact ⟨o, ρt, ys', rfl, h2, e1.symm⟩
        | ex _ _ => rw [h2] at hrest; cases hrest
        | no => rw [h2] at hrest; cases hrest
      | ex _ _ => rw [h1] at hrest; cases hrest
      | no => rw [h1] at hrest; cases hrest
    unfold lcTurn at ht
    cases ha : asgD p d ρa with
    | none => rw [ha] at ht; cases ht
    | some ρ3 =>
      rw [ha] at ht
      obtain ⟨b, ρ4, hb4, ht⟩ := ok_bind_inv ht
      refine ⟨d, ρa, ρ3, Oa, D :: Oc, k', rp', ha, fun σ2 O2 hO2 ok2 w2 => ?_⟩
      have hw : wipe σ2 vs = wipe σ vs := by
        rw [w2 vs fun i hi => hi, wipe_wipe fun _ z => z]
      refine ⟨hw, ρ3, O2, D :: Oc, ok2, ?_⟩
      rw [hb4]
      intro bb H3 O3 st3 ⟨e, ok3⟩
      subst e
      have done : ∀ {ρ7 : Env} {H4 : Hp} {O4 : List Addr} {zD : List VL.D} {zV : List V}, Ok c lc ρ7 σ2 H4 O4 (D :: Oc) → Step H' O2 H4 O4 → Rps c (Vw H4 (O4 ++ D :: Oc)) zD zV → ∀ (ho : H4 D = some (.lst accV) → ∃ ws, H4 D = some (.lst ws)), H4 D = some (.lst accV) ∧ ∃ O6, Ok c lc (wipeE ρ7 vs) (wipe σ vs) H4 O6 (D :: Oc) ∧ Step H1 O1 H4 O6 ∧ Rps c (Vw H4 (O6 ++ D :: Oc)) (accD ++ zD) (accV ++ zV) := fun {ρ7 H4 O4 zD zV} k4 s4 rz _ => by
        have s24 : Step H2 Oa H4 O4 := (s'.trans (Step.less hO2)).trans s4
        obtain ⟨O6, h6, k6⟩ := ok_wipe (vs := vs) k4
        rw [hw] at k6
        have s26 := s24.trans (Step.less h6)
        have l46 : Le (Vw H4 (O4 ++ D :: Oc)) (Vw H4 (O6 ++ D :: Oc)) := Vw.sub fun b hb => by
          rcases List.mem_append.mp hb with z | z
          · exact List.mem_append_left _ (h6 b z)
          · exact List.mem_append_right _ z
        exact ⟨s24.keep _ _ hDl (k.dis D List.mem_cons_self) (fun _ z => nomatch z), O6, k6, s.trans s26, (racc.mono s26.vwO).append (rz.mono l46)⟩
      cases bb with
      | false =>
        rw [if_neg Bool.false_ne_true]
        have ht : Rs.ok none ρ4 = Rs.ok o ρt := ht
        injection ht with e1 e2
        subst e1 e2
        obtain ⟨hD4, O6, k6, s6, r6⟩ := done ok3 st3 (.nil (c := c)) (fun h => ⟨_, h⟩)
        rw [List.append_nil, List.append_nil] at r6
        exact ⟨_, O6, accD, accV, ys', k6, s6, hD4, r6, Nat.le_succ_of_le hacc, hrest', by rw [← htot, hys]⟩
      | true =>
        rw [if_pos rfl]
        obtain ⟨r, ρ5, hr5, ht⟩ := ok_bind_inv ht
        obtain ⟨yD, ρ6, hr6, ht⟩ := ok_bind_inv ht
        injection ht with e1 e2
        subst e1 e2
        refine ⟨ρ4, O3, D :: Oc, ok3, ?_⟩
        rw [hr5]
        intro yv H4 O4 st4 ⟨pr4, _⟩
        obtain ⟨O5, hO5, ok5, rp5⟩ := Ok.frz (Oc := D :: Oc) ⟨pr4.ok, pr4.rr⟩ hr6
        obtain ⟨hD4, O6, k6, s6, r6⟩ := done ok5 ((st3.trans st4).trans (Step.less hO5)) (.cons rp5 .nil) (fun h => ⟨_, h⟩)
        refine ⟨accV, hD4, ?_, ?_⟩
        · have hl := racc.length
          have hz : sizeLine = LINE := by rw [sizeLine_eq]
          omega
        · refine ⟨_, O6, accD ++ [yD], accV ++ [yv], ys', k6.grow List.mem_cons_self hD4, s6.grow hD hD4, upd_same, r6.mono fun b u e1 _ => ?_, by simp; omega, hrest', by rw [← htot, hys]; simp⟩
          obtain ⟨z1, z2⟩ := Vw.some_iff.mp e1
          exact Vw.some_iff.mpr ⟨z1, by rw [upd_ne (fun z : b = D => z1 (List.mem_append_right _ (by rw [z]; exact List.mem_cons_self)))]; exact z2⟩
  · rintro H2 ⟨ρa, Oa, accD, accV, ys, k, s, hDl, racc, hacc, hrest, htot⟩
    rw [List.drop_length] at hrest
    have hrest : Rs.ok [] ρa = Rs.ok ys ρ9 := hrest
    injection hrest with e1 e2
    subst e1 e2
    rw [List.append_nil] at htot
    subst htot
    obtain ⟨O6, h6, k6⟩ := ok_restore ok1 hnd hfr (lvw s) k
    have l6 : Le (Vw H2 (Oa ++ D :: Oc)) (Vw H2 (O6 ++ D :: Oc)) := Vw.sub fun b hb => by
      rcases List.mem_append.mp hb with z | z
      · exact List.mem_append_left _ (h6 b z)
      · exact List.mem_append_right _ z
    exact g1 (.ref D) H2 O6 (s.trans (Step.less h6)) ⟨⟨k6, D, accV, rfl, List.mem_cons_self, hDl, racc.mono l6⟩, fun b hb => by
      obtain rfl := List.mem_singleton.mp hb
      exact st.none hD⟩
theorem je_lc (hcm : nm.calm = true) {elt tg iter : Expr} {ifs : List Expr} {scope : Scope} {own : List (Str × Nat)} {pos : Pos} {k : Ik} {Es Cs : List E} {p : Pat} {E1 : E} (hi : JI nm N sc tg iter k Es) (hb : BlkOk N sc scope own) (hown : own.map (·.2) = patSlots p) (hnd : (patSlots p).Nodup)
    (hp : JP nm N (relS scope sc) (fun x => scope.names.lookup x == some .cell) tg p) (hcs : JC nm N (relS scope sc) ifs Cs) (he : J nm N (relS scope sc) elt E1) : JE nm N sc (.ListComp elt [⟨tg, iter, ifs, 0⟩] scope pos) (.lc k Es p Cs E1) := by
  intro c T kk X W lc C
  refine PE.imp (pe_lc (own := own) (C.calm hcm) (by rw [C.hN]; exact C.nd) (hi.i c T kk X W lc C) (by rw [C.hN, C.hsc]; exact hb) (fun s H A cl fp => hp.g c T kk _ _ lc (C.blk hcm) (fun x h => h)) (fun s H A cl fp => hcs.c c T kk _ _ lc (C.blk hcm)) (fun s H A cl fp => he.je c T kk _ _ lc (C.blk hcm)) (hi.fs _)) fun σ H Q h => ?_
  rw [hown]
  exact lc_read hnd σ H Q h
theorem j_lc (hcm : nm.calm = true) {elt tg iter : Expr} {ifs : List Expr} {scope : Scope} {own : List (Str × Nat)} {pos : Pos} {k : Ik} {Es Cs : List E} {p : Pat} {E1 : E} (hi : JI nm N sc tg iter k Es) (hb : BlkOk N sc scope own) (hown : own.map (·.2) = patSlots p) (hnd : (patSlots p).Nodup)
    (hp : JP nm N (relS scope sc) (fun x => scope.names.lookup x == some .cell) tg p) (hcs : JC nm N (relS scope sc) ifs Cs) (he : J nm N (relS scope sc) elt E1) : J nm N sc (.ListComp elt [⟨tg, iter, ifs, 0⟩] scope pos) (.lc k Es p Cs E1) :=
  have h := je_lc hcm (pos := pos) hi hb hown hnd hp hcs he
  ⟨h, jt_of h (fun _ => by rw [den] <;> rfl) fun _ _ => rfl, rfl⟩
end VL
end
section
set_option maxHeartbeats 4000000
/-! V15: enumerate over a tuple. -/
namespace PySem
open AutoSeq1 (wpAny_loadPart')
theorem vl_enum_new {src : Value} {ob : Obj} {Hh : Heap → Prop} (B : Begins src ob Hh) :
    Meets (Builtin.«enumerate.__new__» ⟨[.type "enumerate", src], []⟩) (fun _ R s => Hh s.heap ∧
      R (.ok (.ret (.ref (s.heap.push ob).objs.size))) { s with heap := (s.heap.push ob).push { cls := .type "enumerate", data := .fields #[.none, .bool false, .ref s.heap.objs.size, rawInt 0, .none, .none] } }) :=
  .of_wp fun prog w A R s pre => by
    obtain ⟨hp, gs, dr, tk, os⟩ := s
    obtain ⟨hh, fin⟩ := pre
    have hsub := sub_enumerate
    have start : ∀ {A' : Around} {E : Value → Shared → Prop} {Q : Value → Shared → Prop}, Q (.ref hp.objs.size) ⟨hp.push ob, gs, dr, tk, os⟩ → wpAny (model prog w) A' (pyIter src) Q E ⟨hp, gs, dr, tk, os⟩ :=
      fun q => B.iter prog w _ _ ⟨hp, gs, dr, tk, os⟩ _ hh q
    wp_walk using start
    refine wpAny_stack_any fun st => wpAny_pure ?_
    split
    · rename_i c _ _ _ _ _
      cases hz : (c == Value.type "enumerate")
      all_goals
        wp_walk using start
        exact ⟨_, rfl, fin⟩
    · wp_walk using start
      exact ⟨_, rfl, fin⟩
theorem vl_call_enum {prog : Program} {w : World} {A : Around} {E : Value → Shared → Prop} {s : Shared} {a : Addr} {items : Array Value} {Q : Value → Shared → Prop} (ht : s.heap.IsTuple a items)
    (h : ∀ h', IsEnum h' (s.heap.objs.size + 1) s.heap.objs.size 0 .none → h'.IsTupleIter s.heap.objs.size a 0 → (∀ b o, s.heap.get? b = some o → h'.get? b = some o) → Q (.ref (s.heap.objs.size + 1)) { s with heap := h' }) :
    wpAny (model prog w) A (call (.type "enumerate") [.ref a]) Q E s := by
  let ob : Obj := { cls := .type "tuple_iterator", data := .fields #[.ref a, .int 0 0] }
  let oe : Obj := { cls := .type "enumerate", data := .fields #[.none, .bool false, .ref s.heap.objs.size, rawInt 0, .none, .none] }
  have hz : (s.heap.push ob).objs.size = s.heap.objs.size + 1 := Heap.size_push ..
  have at1 : ((s.heap.push ob).push oe).get? (s.heap.objs.size + 1) = some oe := by
    rw [← hz]
    exact Heap.get?_push_size _ rfl
  refine callType_new F.called_enumerate (by decide) (F.typeCall_enumerate_1 _) (F.newCall_enumerate_1 _) (fun obj => F.args_object_init_2 obj _) F.entry_enumerate_new (vl_enum_new (begins_tuple a items)) ⟨ht, ?_⟩
  show _ ∧ _
  rw [hz]
  exact ⟨⟨_, at1, rfl⟩, h _ at1 ⟨ob, Heap.get?_push_of_some _ (Heap.get?_push_size _ rfl), rfl, rfl⟩ fun b o x => Heap.get?_push_of_some _ (Heap.get?_push_of_some _ x)⟩
end PySem
namespace VL
open PySem PySem.Spec PyProof.Rows L2
variable {nm : Nm} {N : List Str} {sc : Scope}
/-- the tuple at a, each thing in a new pair with its place -/
def IteT (K : PySem.W.Frag) (a : Addr) : It where
  go := fun i H => ∃ (xs : List V) (x : V), SqT K H a xs ∧ xs[i]? = some x
  yld := fun i H v H' => ∃ B x, v = .ref B ∧ H B = none ∧ H' = upd H B (.tup [.int (i : Nat), x]) ∧ ∀ xs, SqT K H a xs → xs[i]? = some x
  stop := fun i H => ∃ xs : List V, SqT K H a xs ∧ xs.length = i
theorem tup_apart {h : Heap} {a it : Addr} {items : Array Value} {i : Nat} (h1 : h.IsTuple a items) (h2 : h.IsTupleIter it a i) : a ≠ it := by
  rintro rfl
  obtain ⟨o1, e1, c1, _⟩ := h1
  obtain ⟨o2, e2, c2, _⟩ := h2
  rw [e1] at e2
  obtain rfl := Option.some.inj e2
  rw [c1] at c2
  exact absurd c2 (by decide)
theorem turn_enumT {P : Program} {w : World} {K : PySem.W.Frag} {elts : List Expr} {kk : Nat} {tpos : Pos} (a e it : Addr) :
    Turn P w K (.Tuple elts kk tpos) (IteT K a) [e, it] e (fun i h => (∃ old, IsEnum h e it ((i : Nat) : Int) old) ∧ h.IsTupleIter it a i ∧ e ≠ it) where
  mem := List.mem_cons_self
  obj := by
    rintro i h ⟨⟨old, he⟩, ⟨o, ho, hc, hd⟩, _⟩ b hb
    rcases List.mem_cons.mp hb with z | z
    · subst z
      exact ⟨_, he, fun v q => nomatch q⟩
    · rw [List.mem_singleton.mp z]
      exact ⟨o, ho, fun v q => by rw [hd] at q; cases q⟩
  keep := by
    rintro i h h' ⟨⟨old, he⟩, hi, hne⟩ k
    exact ⟨⟨old, k e List.mem_cons_self _ he⟩, hi.at fun o q => k it (List.mem_cons_of_mem _ List.mem_cons_self) o q, hne⟩
  item := by
    intro X hP hw hK hc i pins s σ H E I hf st hg
    subst hP hw hK
    obtain ⟨⟨old, he⟩, hit, hne⟩ := st
    obtain ⟨xs, x, hq, hx⟩ := hg
    obtain ⟨its, rv, p, hz⟩ := I.tuple hq
    have p : s.heap.IsTuple a its.toArray := p
    have hlt : i < its.toArray.size := by
      obtain ⟨h1, _⟩ := List.getElem?_eq_some_iff.mp hx
      have := rv.length
      simp
      omega
    have hea : e ≠ a := by
      rintro rfl
      obtain ⟨o1, e1, c1, _⟩ := p
      rw [he] at e1
      rw [← Option.some.inj e1] at c1
      have c1 : Value.type "enumerate" = Value.type "tuple" := c1
      exact absurd c1 (by decide)
    refine wpAny_pyNext_enum_itemD (Draws.tuple (A := X.A.in1) (I.ok.hd hc) it a (tup_apart p hit) its.toArray) he ⟨hit, p⟩ hlt hne (by simp [hne, hea]) ?_
    intro u h' tk hu ho st' hT hsz hk
    have hu : its[i]? = some u := by simpa using hu
    have ru : RelV x u := by
      obtain ⟨u', e1, r⟩ := rv.get hx
      rw [hu] at e1
      rw [Option.some.inj e1]
      exact r
    have hel : e < s.heap.objs.size := Heap.lt_size he
    have hil : it < s.heap.objs.size := by obtain ⟨_, q, _⟩ := hit; exact Heap.lt_size q
    refine ⟨_, rfl, wpAny_letOwnedTupleGo_enum (s := { s with heap := h', toks := tk + 1 }) ho fun h2 he' sb => ?_⟩
    have new : ObjOk X.prog X.w (upd H s.heap.objs.size (.tup [.int (i : Nat), x])) h2 s.heap.objs.size (.tup [.int (i : Nat), x]) := by
      refine ⟨by show 2 ≤ sizeLine; decide, [.int i tk, u], .cons ⟨_, rfl⟩ (.cons ru .nil), ⟨_, (sb.2 _ (Nat.ne_of_gt hel)).trans hT, rfl, _, rfl⟩⟩
    have I1 : Inv X pins σ (upd H s.heap.objs.size (.tup [.int (i : Nat), x])) { s with heap := h2, toks := tk + 1 } := by
      refine I.turnedNew (ch := [e, it]) (fun b ob hb q => ?_) hf (Nat.le_refl _) new
      have n1 : b ≠ e := fun z => hb (by simp [z])
      have n2 : b ≠ it := fun z => hb (by simp [z])
      exact (sb.2 b n1).trans (hk b ob n1 n2 q)
    refine ⟨.ref s.heap.objs.size, _, I1, rfl, ⟨_, x, rfl, I.hok.fresh (Nat.le_refl _), rfl, fun ys hy => by rw [I.tuple_inj hy hq]; exact hx⟩, ⟨⟨u, ?_⟩, st'.1.at fun o q => (sb.2 it (Ne.symm hne)).trans q, hne⟩, fun b hb => ?_⟩
    · rw [show ((i + 1 : Nat) : Int) = (i : Int) + 1 by omega]
      exact he'
    · have hb' : b < s.heap.objs.size := by
        rcases List.mem_cons.mp hb with z | z
        · rw [z]; exact hel
        · rw [List.mem_singleton.mp z]; exact hil
      rw [upd_ne (Nat.ne_of_lt hb')]
      exact (hf b hb).1
  done := by
    intro X hP hw hK hc i pins s σ H E I hf st hg
    subst hP hw hK
    obtain ⟨⟨old, he⟩, hit, hne⟩ := st
    obtain ⟨xs, hq, hx⟩ := hg
    obtain ⟨its, rv, p, hz⟩ := I.tuple hq
    have p : s.heap.IsTuple a its.toArray := p
    have hn : its.toArray.size = i := by
      have := rv.length
      simp
      omega
    obtain ⟨f0, f1, f2, f3, f4, f5⟩ := hf it (List.mem_cons_of_mem _ List.mem_cons_self)
    refine wpAny_pyNext_enum_endD (n := its.toArray.size) (Draws.tuple (A := X.A.in1) (I.ok.hd hc) it a (tup_apart p hit) its.toArray) he (by rw [hn]; exact ⟨hit, p⟩) fun h' eb => ?_
    exact ⟨rfl, I.turned (t' := s.toks) (fun b o hb q => eb b o hb q) f0 f1 f3 f4 f5⟩
  self := by
    rintro A i s Q E ⟨⟨_, he⟩, _⟩ h
    exact wpAny_pyIter_enum he h
theorem walk_enumT {K : PySem.W.Frag} {a : Addr} {xs : List V} : Walk (IteT K a) xs.length (fun H => SqT K H a xs) (YPair (fun i => some (.int (i : Nat))) (fun i => xs[i]?)) := by
  constructor
  · intro i H hi q
    exact ⟨xs, xs[i], q, by simp [hi]⟩
  · exact fun H q => ⟨xs, q, rfl⟩
  · rintro i H v H' hi q ⟨B, x, h1, h2, h3, h4⟩
    exact ⟨B, .int (i : Nat), x, h1, h2, h3, rfl, h4 xs q⟩
/-- enumerate of a list or a tuple -/
def iEnumA (K : PySem.W.Frag) (ta : TA) : TI := fun σ H R => ta σ H fun vs H1 => ∃ a xs, vs = [.ref a] ∧ ((SqL K H1 a xs ∧ R (Ite K a) H1) ∨ (SqT K H1 a xs ∧ R (IteT K a) H1))
theorem pi_enumA {X : Cx} {e : Expr} {ta : TA} {p pos tpos : Pos} {elts : List Expr} {kk : Nat} (hg : Gl X "enumerate") (hm : X.mg "enumerate" = none) (ha : PA X [e] ta) (hs : starEach [e] X.env = [(false, eval e X.env)]) :
    PI X (.Tuple elts kk tpos) (.Call (.Name "enumerate" p) [e] [] pos) (iEnumA X.K ta) := by
  constructor
  intro pins s σ H R I h
  refine Call_ (ld_blt I hg hm boot_enumerate (PyProof.Rows.callWith_type1 (thn (ha.run pos pins s σ H _ I h) fun us s1 ⟨vs, H1, I1, r1, a, xs, ex, q⟩ => ?_) hs rfl))
  subst ex
  obtain ⟨u, rfl, ru⟩ : ∃ u, us = [u] ∧ RelV (.ref a) u := by
    cases r1 with
    | cons r rr =>
      cases rr
      exact ⟨_, rfl, r⟩
  cases ru
  have fp : ∀ b ∈ [s1.heap.objs.size + 1, s1.heap.objs.size], FpOk X pins H1 b := fun b hb => by
    have hle : s1.heap.objs.size ≤ b := by
      rcases List.mem_cons.mp hb with z | z
      · rw [z]; exact Nat.le_add_right _ _
      · rw [List.mem_singleton.mp z]; exact Nat.le_refl _
    exact I1.fpOk hle (I1.hok.fresh hle)
  rcases q with ⟨hq, q⟩ | ⟨hq, q⟩
  · obtain ⟨its, rv, pl, _⟩ := I1.list hq
    refine call_enumerate_list pl.isList fun h' he hit hsz hk => wpAny_pyIter_enum he ?_
    exact ⟨_, _, _, _, H1, rfl, I1.kept (t' := s1.toks) hk, turn_enum a _ s1.heap.objs.size, ⟨⟨.none, he⟩, hit, Nat.succ_ne_self _⟩, fp, q⟩
  · obtain ⟨its, rv, pl, _⟩ := I1.tuple hq
    have pl : s1.heap.IsTuple a its.toArray := pl
    refine vl_call_enum pl fun h' he hit hk => wpAny_pyIter_enum he ?_
    exact ⟨_, _, _, _, H1, rfl, I1.kept (t' := s1.toks) hk, turn_enumT a _ s1.heap.objs.size, ⟨⟨.none, he⟩, hit, Nat.succ_ne_self _⟩, fp, q⟩
theorem ji_enum {es : List Expr} {n : Nat} {tp : Pos} {e : Expr} {E1 : E} {p pos : Pos} (hf : ("enumerate" : Str) ∈ nm.free) (hg : sc.names.lookup ("enumerate" : Str) = some .globalImplicit) (h : JA nm N sc [e] [E1]) : JI nm N sc (.Tuple es n tp) (.Call (.Name "enumerate" p) [e] [] pos) .enum [E1] := by
  have hs := h.s
  rw [List.all_cons, Bool.and_eq_true] at hs
  refine ⟨fun c T kk X W lc C => ?_, fun _ _ => rfl⟩
  refine PI.imp (pi_enumA (show X.env.scope.names.lookup _ = _ by rw [C.hsc]; exact hg) (C.free _ hf) (h.f c T kk X W lc C) (starE_cons hs.1)) fun σ H R h => go_itm h fun F ds vs H1 l r xs hi q => ?_
  have pair : ∀ (ys : List D) (ws : List V), Rps c F ys ws → ∀ (i : Nat) (x y : V), some (V.int (i : Nat)) = some x → ws[i]? = some y → ∃ a b, (ys.zipIdx.map fun p => D.tup [.int (p.2 : Nat), p.1])[i]? = some (.tup [a, b]) ∧ Rp c F a x ∧ Rp c F b y := fun ys ws r i x y h1 h2 => by
    obtain ⟨b, e1, q1⟩ := r.get' h2
    obtain rfl := Option.some.inj h1
    refine ⟨.int (i : Nat), b, ?_, .int _, q1⟩
    rw [List.getElem?_map, List.getElem?_zipIdx, e1]
    simp
  have len : ∀ (ys : List D) (ws : List V), Rps c F ys ws → (ys.zipIdx.map fun p => D.tup [.int (p.2 : Nat), p.1]).length = ws.length := fun ys ws r => by
    rw [List.length_map, List.length_zipIdx, r.length]
  match ds, r, hi with
  | [d], r, hi =>
    obtain ⟨v, rfl, r1⟩ := r.one
    cases d with
    | tup ys =>
      cases hi
      obtain ⟨a, rfl, ws, h2, h3⟩ := r1.tupI
      exact ⟨a, ws, rfl, .inr ⟨by rw [C.hK]; exact sqT_mono l h2, q _ (itok_pair walk_enumT (len _ _ h3) (fun H l => by rw [C.hK]; exact sqT_mono l h2) (pair _ _ h3))⟩⟩
    | lst ys =>
      cases hi
      obtain ⟨a, rfl, ws, h2, h3⟩ := r1.lstI
      exact ⟨a, ws, rfl, .inl ⟨SqL.of (le_lst l h2), q _ (itok_pair walk_enum (len _ _ h3) (fun H l => SqL.of (le_lst l h2)) (pair _ _ h3))⟩⟩
    | _ => cases hi
end VL
end
section
set_option maxHeartbeats 4000000
/-! V16: tables; things taken out. -/
namespace VL
open PySem PySem.Spec PyProof.Rows L2
variable {nm : Nm} {N : List Str} {sc : Scope}
theorem go_str {c : Cf} {lc : Lc} {W : WX} {σ : SS} {H H0 : Hp} {O Oc : List Addr} {ρ : Env} {x : R} {v : V} {f : Str → Option R} {Q : VK} (pr : PR c lc ρ σ H O Oc x v)
    (g : Go c lc W σ H O Oc (Rs.opt ρ (match look ρ x with | some (.str s) => f s | _ => none)) (PV c lc σ Oc H0) Q) : ∃ s r, v = .str s ∧ f s = some r ∧ Go c lc W σ H O Oc (Rs.ok r ρ) (PV c lc σ Oc H0) Q := by
  cases l1 : look ρ x with
  | none => rw [l1] at g; exact g.elim
  | some d =>
    rw [l1] at g
    cases d with
    | str s =>
      dsimp only at g
      cases hf : f s with
      | none => rw [hf] at g; exact g.elim
      | some r => rw [hf] at g; exact ⟨s, r, (pr.ok.look pr.rr l1).str.1, hf, g⟩
    | _ => exact g.elim
theorem ix_kd {X : Cx} {d : Addr} {es : Array DictEntry} {n : Nat} (D : KDict X.K X.w d es n) : IxR X (fun x y H Q => ∃ (z : Str) (u0 : Value) (v0 : V), x = .ref d ∧ y = .str z ∧ PySem.W.nsIn X.K d z = some (some u0) ∧ RelV v0 u0 ∧ Q v0 H) := by
  intro value slice pins s σ H x y v u Q I rx ry h hs
  have e : v = .ref d := by
    obtain ⟨_, _, _, rfl, _⟩ := h
    exact rx
  subst e
  exact tail_any (kd_type D I) PySem.F.slot_dict_getitem.lookup (op_item_kd D pins s σ H x y _ u Q I rx ry h) hs
theorem j_tabin {e1 : Expr} {E1 : E} {x : Str} {t : List (Str × D)} {neg : Bool} {p pos : Pos} (hm : (x, t) ∈ nm.tabs) (hg : sc.names.lookup x = some .globalImplicit) (hd : (x == ("__debug__" : Str)) = false) (h1 : J nm N sc e1 E1) :
    J nm N sc (.Compare e1 [if neg then .NotIn else .In] [.Name x p] pos) (.tabin t neg E1) := by
  have opr : ∀ {X : Cx} {d : Addr} {es : Array DictEntry} {n : Nat}, KDict X.K X.w d es n → OpR X (compareOp (if neg then .NotIn else .In)) (fun x y H Q => ∃ (z : Str) (r : Option Value), x = .str z ∧ y = .ref d ∧ PySem.W.nsIn X.K d z = some r ∧ Q (.bl (r.isSome != neg)) H) := fun {X d es n} kd => by
    cases neg with
    | true =>
      intro pins s σ H x y v u Q I rx ry ⟨z, r, h1, h2, h3, q⟩
      exact op_notIn_kd kd pins s σ H x y v u Q I rx ry ⟨z, r, h1, h2, h3, by rw [show (!r.isSome) = (r.isSome != true) by cases r <;> rfl]; exact q⟩
    | false =>
      intro pins s σ H x y v u Q I rx ry ⟨z, r, h1, h2, h3, q⟩
      exact op_in_kd kd pins s σ H x y v u Q I rx ry ⟨z, r, h1, h2, h3, by rw [show r.isSome = (r.isSome != false) by cases r <;> rfl]; exact q⟩
  have key : ∀ (c : Cf) (T : Th) (X : Cx) (lc : Lc) (W : WX) (σ : SS) (H : Hp) (d : Addr) (Q : VK), TabOk c X d t → (∃ ρ O Oc, Ok c lc ρ σ H O Oc ∧ ∃ PP : R → Env → V → Hp → List Addr → Prop, Go c lc W σ H O Oc ((den T (.tabin t neg E1)).v ρ) PP Q ∧ ∀ b ρ1 H1 O1, Step H O H1 O1 → Ok c lc ρ1 σ H1 O1 Oc → PP (.v (.bl b)) ρ1 (.bl b) H1 O1) →
      rE c lc W (den T E1).v σ H fun v H1 => ∃ (z : Str) (r : Option Value), v = .str z ∧ V.ref d = .ref d ∧ PySem.W.nsIn X.K d z = some r ∧ Q (.bl (r.isSome != neg)) H1 := by
    intro c T X lc W σ H d Q ⟨_, hall⟩ ⟨ρ, O, Oc, ok, PP, g, hPP⟩
    rw [den] at g
    simp only [Den.of] at g
    refine ⟨ρ, O, Oc, ok, (Go.bind [] g).imp fun v H1 ⟨y, ρ1, O1, st, ⟨pr, _⟩, g1⟩ => ?_⟩
    have pr : PR c lc ρ1 σ H1 O1 Oc y v := pr
    cases l1 : look ρ1 y with
    | none => rw [l1] at g1; exact g1.elim
    | some d' =>
      rw [l1] at g1
      cases d' with
      | str s =>
        obtain ⟨rfl, _⟩ := (pr.ok.look pr.rr l1).str
        obtain ⟨r, h3, h4⟩ := hall s
        refine ⟨s, r, rfl, rfl, h3, ?_⟩
        have e : r.isSome = (tabGet s t).isSome := by
          cases h : tabGet s t with
          | none => rw [h] at h4; rw [h4]; rfl
          | some dv => rw [h] at h4; obtain ⟨u, v, q, _⟩ := h4; rw [q]; rfl
        rw [e]
        exact g1 _ H1 O1 (Step.refl _ _) (hPP _ _ _ _ st (pend_sub pr.ok))
      | _ => exact g1.elim
  refine ⟨?_, ?_, rfl⟩
  · intro c T k X W lc C
    obtain ⟨d, hmg, tb⟩ := C.tab _ hm
    obtain ⟨es, n, kd⟩ := tb.1
    refine PE.imp (pe_cmpR (opr kd) (h1.je c T k X W lc C) (pe_glob (v := .ref d) (show X.env.scope.names.lookup x = _ by rw [C.hsc]; exact hg) hmg rfl hd) rfl) fun σ H Q ⟨ρ, O, Oc, ok, g⟩ => ?_
    exact key c T X lc W σ H d Q tb ⟨ρ, O, Oc, ok, _, g, fun b ρ1 H1 O1 st k1 => ⟨⟨k1, .bl _⟩, fun b hb => by cases hb⟩⟩
  · intro c T k X W lc C
    obtain ⟨d, hmg, tb⟩ := C.tab _ hm
    obtain ⟨es, n, kd⟩ := tb.1
    refine PT.imp (pt_cmpR (opr kd) (h1.je c T k X W lc C) (pe_glob (v := .ref d) (show X.env.scope.names.lookup x = _ by rw [C.hsc]; exact hg) hmg rfl hd) rfl) fun σ H Q ⟨ρ, O, Oc, ok, g⟩ => ?_
    have hd' : (den T (.tabin t neg E1)).t = fun ρ => ((den T (.tabin t neg E1)).v ρ).bind asTruth := by rw [den] <;> rfl
    rw [hd'] at g
    refine key c T X lc W σ H d (fun x H' => ∃ k, x = .bl k ∧ Q k H') tb ⟨ρ, O, Oc, ok, fun r ρ1 v H1 O1 => (∃ b, r = .v (.bl b) ∧ v = .bl b) ∧ Ok c lc ρ1 σ H1 O1 Oc, (Go.bind [] g).imp fun v H1 ⟨r, ρ1, O1, st, pr, g1⟩ => ?_, fun b ρ1 H1 O1 st k1 => ⟨⟨b, rfl, rfl⟩, k1⟩⟩
    obtain ⟨⟨b, rfl, rfl⟩, k1⟩ := pr
    exact ⟨b, rfl, g1 b H1 O1 (Step.refl _ _) ⟨rfl, k1⟩⟩
theorem j_tabget {e1 : Expr} {E1 : E} {x : Str} {t : List (Str × D)} {p pos : Pos} (hm : (x, t) ∈ nm.tabs) (hg : sc.names.lookup x = some .globalImplicit) (hd : (x == ("__debug__" : Str)) = false) (h1 : J nm N sc e1 E1) (hp : PlainIx e1) :
    J nm N sc (.Subscript (.Name x p) e1 pos) (.tabget t E1) := by
  refine j_of ?_ rfl (fun _ => by rw [den] <;> rfl) fun _ _ => rfl
  intro c T k X W lc C
  obtain ⟨d, hmg, ⟨es, n, kd⟩, hall⟩ := C.tab _ hm
  refine PE.imp (pe_ix (ix_kd kd) (pe_glob (v := .ref d) (pos := p) (show X.env.scope.names.lookup x = _ by rw [C.hsc]; exact hg) hmg rfl hd) (h1.je c T k X W lc C) hp) fun σ H Q ⟨ρ, O, Oc, ok, g⟩ => ?_
  rw [den] at g
  simp only [Den.of] at g
  refine ⟨ρ, O, Oc, ok, (Go.bind [] g).imp fun v H1 ⟨y, ρ1, O1, st, ⟨pr, _⟩, g1⟩ => ?_⟩
  have pr : PR c lc ρ1 σ H1 O1 Oc y v := pr
  obtain ⟨s, r, rfl, hf, g2⟩ := go_str (f := fun s => (tabGet s t).map .v) pr g1
  obtain ⟨r', h3, h4⟩ := hall s
  cases h : tabGet s t with
  | none => rw [h] at hf; cases hf
  | some dv =>
    rw [h] at hf h4
    cases hf
    obtain ⟨u, v0, rfl, rv, rp⟩ := h4
    exact ⟨s, u, v0, rfl, rfl, h3, rv, go_v g2 (pend_sub pr.ok) (rp.mono (le_empty _))⟩
end VL
end
section
set_option maxHeartbeats 4000000
/-! V17: statements. -/
namespace VL
open PySem PySem.Spec PyProof.Rows L2
variable {nm : Nm} {N : List Str} {sc : Scope}
/-- what a def hands back -/
def RtR (c : Cf) (H : Hp) (O : List Addr) (H' : Hp) (O' Oc : List Addr) : Rt → V → Prop
  | .v d, v => Rp c (Vw H' (O' ++ Oc)) d v
  | .fl xs, v => ∃ p vs, v = .ref p ∧ p ∉ O' ++ Oc ∧ H' p = some (.lst vs) ∧ Rps c (Vw H' (p :: (O' ++ Oc))) xs vs ∧ (p ∈ O ∨ H p = none)
  | .ex _, _ => False
def GoS (c : Cf) (lc : Lc) (W : WX) (H : Hp) (O Oc : List Addr) : Out → Ends → Prop
  | .nx ρ', D => ∀ σ' H' O', Step H O H' O' → Ok c lc ρ' σ' H' O' Oc → D.nx σ' H'
  | .bk ρ', D => ∀ σ' H' O', Step H O H' O' → Ok c lc ρ' σ' H' O' Oc → D.bk σ' H'
  | .ct ρ', D => ∀ σ' H' O', Step H O H' O' → Ok c lc ρ' σ' H' O' Oc → D.ct σ' H'
  | .rt r ρ', D => ∀ v σ' H' O', Step H O H' O' → Ok c lc ρ' σ' H' O' Oc → RtR c H O H' O' Oc r v → D.rt v H'
  | .ex e ρ', D => ∀ cls d σ' H' O', Step H O H' O' → Ok c lc ρ' σ' H' O' Oc → XR c e cls d → W cls d σ' H'
  | .no, _ => False
def rS (c : Cf) (lc : Lc) (W : WX) (f : Env → Out) : TS := fun D σ H => ∃ ρ O Oc, Ok c lc ρ σ H O Oc ∧ GoS c lc W H O Oc (f ρ) D
section
variable {c : Cf} {lc : Lc} {W : WX} {ρ ρ' : Env} {σ : SS} {H H' H1 : Hp} {O O' O1 Oc Oc' : List Addr} {D D' : Ends} {m : Out}
theorem RtR.step {r : Rt} {v : V} (s : Step H O H1 O1) (h : RtR c H1 O1 H' O' Oc r v) : RtR c H O H' O' Oc r v := by
  cases r with
  | v d => exact h
  | fl xs =>
    obtain ⟨p, vs, e, n, h1, h2, h3⟩ := h
    refine ⟨p, vs, e, n, h1, h2, ?_⟩
    rcases h3 with z | z
    · exact s.own p z
    · exact .inr (s.none z)
  | ex _ => exact h
theorem GoS.step (h : GoS c lc W H O Oc m D) (s : Step H O H1 O1) : GoS c lc W H1 O1 Oc m D := by
  cases m with
  | nx ρ' => exact fun σ' H' O' s' k => h σ' H' O' (s.trans s') k
  | bk ρ' => exact fun σ' H' O' s' k => h σ' H' O' (s.trans s') k
  | ct ρ' => exact fun σ' H' O' s' k => h σ' H' O' (s.trans s') k
  | rt r ρ' => exact fun v σ' H' O' s' k q => h v σ' H' O' (s.trans s') k (q.step s)
  | ex e ρ' => exact fun cls d σ' H' O' s' k x => h cls d σ' H' O' (s.trans s') k x
  | no => exact h
/-- behind an expression -/
theorem GoS.of {α δ : Type} {mm : Rs α} {k : α → Env → Out} {P1 : α → Env → δ → Hp → List Addr → Prop} (ps : List Addr) (h : GoS c lc W H O Oc (Out.of mm k) D) :
    Go c lc W σ H O (ps ++ Oc) mm P1 fun v H1 => ∃ a ρ1 O1, Step H O H1 O1 ∧ P1 a ρ1 v H1 O1 ∧ GoS c lc W H O Oc (k a ρ1) D := by
  cases mm with
  | ok a ρ' => exact fun v H' O' s p => ⟨a, ρ', O', s, p, h⟩
  | ex e ρ' => exact fun cls d H' O' s q x => h cls d σ H' O' s (q.sub (List.sublist_append_right _ _)) x
  | no => exact h
theorem GoS.imp (h : GoS c lc W H O Oc m D) (n : ∀ σ H, D.nx σ H → D'.nx σ H) (b : ∀ σ H, D.bk σ H → D'.bk σ H) (t : ∀ σ H, D.ct σ H → D'.ct σ H) (r : ∀ v H, D.rt v H → D'.rt v H) : GoS c lc W H O Oc m D' := by
  cases m with
  | nx ρ' => exact fun σ' H' O' s' k => n _ _ (h σ' H' O' s' k)
  | bk ρ' => exact fun σ' H' O' s' k => b _ _ (h σ' H' O' s' k)
  | ct ρ' => exact fun σ' H' O' s' k => t _ _ (h σ' H' O' s' k)
  | rt _ ρ' => exact fun v σ' H' O' s' k q => r _ _ (h v σ' H' O' s' k q)
  | ex e ρ' => exact h
  | no => exact h
theorem GoS.seq {k : Env → Out} (h : GoS c lc W H O Oc (m.seq k) D) : GoS c lc W H O Oc m { D with nx := rS c lc W k D } := by
  cases m with
  | nx ρ' => exact fun σ' H' O' s ok => ⟨ρ', O', Oc, ok, GoS.step (show GoS c lc W H O Oc (k ρ') D from h) s⟩
  | bk ρ' => exact h
  | ct ρ' => exact h
  | rt _ ρ' => exact h
  | ex e ρ' => exact h
  | no => exact h
end
/-- a def's own frame -/
structure Top (X : Cx) : Prop where
  own : PassesOwn (model X.prog X.w) X.A X.env X.xe
  fn : ∀ x, X.fn x = true
/-- every cell is the frame's own -/
def allF : Str → Bool := fun _ => true
/-! ### the judgements -/
structure JS (nm : Nm) (N : List Str) (sc : Scope) (s : Stmt) (S : S) : Prop where
  s : ∀ (c : Cf) (T : Th) (k : Nat) (X : Cx) (W : WX) (lc : Lc), Cok c T nm k N sc X W lc → Top X → PS X s (rS c lc W (exec T S))
structure JSs (nm : Nm) (N : List Str) (sc : Scope) (ss : List Stmt) (Ss : List S) : Prop where
  s : ∀ (c : Cf) (T : Th) (k : Nat) (X : Cx) (W : WX) (lc : Lc), Cok c T nm k N sc X W lc → Top X → PSs X ss (rS c lc W (execs T Ss))
theorem jss_nil : JSs nm N sc [] [] := by
  refine ⟨fun c T k X W lc C hp => PSs.imp pss_nil fun D σ H ⟨ρ, O, Oc, ok, g⟩ => ?_⟩
  rw [execs] at g
  exact g σ H O (Step.refl _ _) ok
theorem jss_cons {s : Stmt} {ss : List Stmt} {S1 : S} {Ss : List S} (h1 : JS nm N sc s S1) (h2 : JSs nm N sc ss Ss) : JSs nm N sc (s :: ss) (S1 :: Ss) := by
  refine ⟨fun c T k X W lc C hp => PSs.imp (pss_cons (h1.s c T k X W lc C hp) (h2.s c T k X W lc C hp)) fun D σ H ⟨ρ, O, Oc, ok, g⟩ => ?_⟩
  rw [execs] at g
  exact ⟨ρ, O, Oc, ok, GoS.seq g⟩
theorem js_stuck {s : Stmt} : JS nm N sc s .stuck := by
  refine ⟨fun c T k X W lc C hp => ⟨fun pins s σ H D I ⟨ρ, O, Oc, ok, g⟩ => ?_⟩⟩
  rw [exec] at g
  exact g.elim
theorem js_pass {pos : Pos} : JS nm N sc (.Pass pos) .pass := by
  refine ⟨fun c T k X W lc C hp => PS.imp ps_pass fun D σ H ⟨ρ, O, Oc, ok, g⟩ => ?_⟩
  rw [exec] at g
  exact g σ H O (Step.refl _ _) ok
theorem js_brk {pos : Pos} : JS nm N sc (.Break pos) .brk := by
  refine ⟨fun c T k X W lc C hp => PS.imp ps_break fun D σ H ⟨ρ, O, Oc, ok, g⟩ => ?_⟩
  rw [exec] at g
  exact g σ H O (Step.refl _ _) ok
theorem js_cont {pos : Pos} : JS nm N sc (.Continue pos) .cont := by
  refine ⟨fun c T k X W lc C hp => PS.imp ps_continue fun D σ H ⟨ρ, O, Oc, ok, g⟩ => ?_⟩
  rw [exec] at g
  exact g σ H O (Step.refl _ _) ok
def noComp : Expr → Bool
  | .ListComp _ _ _ _ => false
  | .SetComp _ _ _ _ => false
  | .DictComp _ _ _ _ _ => false
  | _ => true
theorem sw_no {e : Expr} (h : noComp e = true) (t : Option Expr) (l : Nat) (env : PySem.Env) : swapsWith e t l env = pure false := by
  cases e <;> first | rfl | (cases h)
theorem js_expr {e : Expr} {E1 : E} {pos : Pos} (hc : noComp e = true) (h : J nm N sc e E1) : JS nm N sc (.Expr e pos) (.expr E1) := by
  refine ⟨fun c T k X W lc C hp => PS.imp (ps_expr (h.je c T k X W lc C) (sw_no hc _ _ _)) fun D σ H ⟨ρ, O, Oc, ok, g⟩ => ?_⟩
  rw [exec] at g
  refine ⟨ρ, O, Oc, ok, (GoS.of [] g).imp fun v H1 ⟨r, ρ1, O1, st, ⟨pr, n⟩, g1⟩ => ?_⟩
  have pr : PR c lc ρ1 σ H1 O1 Oc r v := pr
  exact g1 σ H1 O1 st (pend_sub pr.ok)
theorem js_retN {pos : Pos} : JS nm N sc (.Return none pos) .retN := by
  refine ⟨fun c T k X W lc C hp => PS.imp ps_retN fun D σ H ⟨ρ, O, Oc, ok, g⟩ => ?_⟩
  rw [exec] at g
  exact g .non σ H O (Step.refl _ _) ok .non
theorem js_ret {e : Expr} {E1 : E} {pos : Pos} (h : J nm N sc e E1) : JS nm N sc (.Return (some e) pos) (.ret E1) := by
  refine ⟨fun c T k X W lc C hp => PS.imp (ps_ret (h.je c T k X W lc C)) fun D σ H ⟨ρ, O, Oc, ok, g⟩ => ?_⟩
  rw [exec] at g
  refine ⟨ρ, O, Oc, ok, (GoS.of [] g).imp fun v H1 ⟨r, ρ1, O1, st, ⟨pr, n⟩, g1⟩ => ?_⟩
  have pr : PR c lc ρ1 σ H1 O1 Oc r v := pr
  cases r with
  | v d => exact g1 v σ H1 O1 st pr.ok pr.rr
  | fl xs =>
    obtain ⟨p, vs, rfl, _, h2, h3⟩ := pr.rr
    have k0 : Ok c lc ρ1 σ H1 O1 (p :: Oc) := pr.ok
    have nd : (p :: (O1 ++ Oc)).Nodup := List.perm_middle.nodup_iff.mp k0.nd
    refine g1 _ σ H1 O1 st k0.tail ⟨p, vs, rfl, (List.nodup_cons.mp nd).1, h2, ?_, .inr (n p List.mem_cons_self)⟩
    rw [← Vw.perm (List.perm_middle (a := p) (l₁ := O1) (l₂ := Oc))]
    exact h3
  | br i =>
    have hs : σ[i]? = some (some v) := pr.rr
    have k0 : Ok c lc ρ1 σ H1 O1 Oc := pr.ok
    dsimp only [retR] at g1
    cases e1 : ρ1[i]? with
    | none => rw [e1] at g1; exact g1.elim
    | some s =>
      rw [e1] at g1
      cases s with
      | v d =>
        obtain ⟨v', h1, h2⟩ := k0.atV e1
        rw [hs] at h1
        cases h1
        exact g1 v σ H1 O1 st k0 h2
      | ol xs =>
        obtain ⟨x, Oi, O', h1, h2, h3, h4⟩ := k0.chg e1
        cases h2 with
        | ol e2 r2 =>
          rename_i p vs
          rw [hs] at h1
          cases h1
          have nd : (p :: (O' ++ Oc)).Nodup := (List.Perm.append_right Oc h3).nodup_iff.mp k0.nd
          have l : Le (Vw H1 (O1 ++ Oc)) (Vw H1 (([] ++ O') ++ Oc)) := Vw.sub fun b hb => (List.Perm.append_right Oc h3).mem_iff.mpr (List.mem_cons_of_mem _ hb)
          obtain ⟨O2, p2, k2⟩ := h4 H1 Oc .no (some (.ref p)) [] l (fun _ _ => rfl) (.no _) (List.nodup_cons.mp nd).2 k0.off k0.tabs
          rw [set_same hs] at k2
          have p2 : O2.Perm O' := p2
          have pO : (p :: (O2 ++ Oc)).Perm (O1 ++ Oc) := ((List.Perm.append_right Oc (List.Perm.cons p p2)).trans (List.Perm.append_right Oc h3.symm))
          have hpO : p ∈ O1 := h3.mem_iff.mpr List.mem_cons_self
          have st2 : Step H O H1 O2 := st.trans (Step.less fun b hb => h3.mem_iff.mpr (List.mem_cons_of_mem _ (p2.mem_iff.mp hb)))
          refine g1 _ σ H1 O2 st2 k2 ⟨p, vs, rfl, (List.nodup_cons.mp (pO.nodup_iff.mpr k0.nd)).1, e2, ?_, st.own p hpO⟩
          rw [Vw.perm pO]
          exact r2
      | _ => exact g1.elim
theorem js_if {e : Expr} {a b : List Stmt} {E1 : E} {A B : List S} {pos : Pos} (he : J nm N sc e E1) (ha : JSs nm N sc a A) (hb : JSs nm N sc b B) : JS nm N sc (.If e a b pos) (.ife E1 A B) := by
  refine ⟨fun c T k X W lc C hp => PS.imp (ps_if (he.jt c T k X W lc C) (ha.s c T k X W lc C hp) (hb.s c T k X W lc C hp)) fun D σ H ⟨ρ, O, Oc, ok, g⟩ => ?_⟩
  rw [exec] at g
  refine ⟨ρ, O, Oc, ok, (GoS.of [] g).imp fun b H1 ⟨b', ρ1, O1, st, ⟨e, ok1⟩, g1⟩ => ?_⟩
  have e : b = b' := e
  subst e
  cases b with
  | true => exact ⟨ρ1, O1, Oc, ok1, GoS.step g1 st⟩
  | false => exact ⟨ρ1, O1, Oc, ok1, GoS.step g1 st⟩
theorem js_while {e : Expr} {b : List Stmt} {E1 : E} {B : List S} {pos : Pos} (he : J nm N sc e E1) (hb : JSs nm N sc b B) : JS nm N sc (.While e b [] pos) (.whileS E1 B) := by
  refine ⟨fun c T k X W lc C hp => PS.imp (ps_while hp.own (he.jt c T k X W lc C) (hb.s c T k X W lc C hp)) fun D σ H ⟨ρ, O, Oc, ok, g⟩ => ?_⟩
  rw [exec] at g
  refine ⟨fun n σ' H' => ∃ ρ' O', Ok c lc ρ' σ' H' O' Oc ∧ Step H O H' O' ∧ GoS c lc W H O Oc (whileL (evT T E1) (execs T B) n ρ') D, ⟨T.wf, ρ, O, ok, Step.refl _ _, g⟩, ?_⟩
  rintro n σ' H' ⟨ρ', O', ok', st, g⟩
  cases n with
  | zero => exact g.elim
  | succ n =>
    refine ⟨ρ', O', Oc, ok', ?_⟩
    have g : GoS c lc W H O Oc (match evT T E1 ρ' with
      | .ok true ρ1 => (match execs T B ρ1 with
        | .nx ρ2 => whileL (evT T E1) (execs T B) n ρ2
        | .ct ρ2 => whileL (evT T E1) (execs T B) n ρ2
        | .bk ρ2 => .nx ρ2
        | o => o)
      | .ok false ρ1 => .nx ρ1
      | .ex e ρ1 => .ex e ρ1
      | .no => .no) D := g
    show Go c lc W σ' H' O' Oc (evT T E1 ρ') (PB c lc σ' Oc) _
    cases ht : evT T E1 ρ' with
    | no => rw [ht] at g; exact g.elim
    | ex e ρ1 =>
      rw [ht] at g
      exact fun cls d H2 O2 s2 k2 x => g cls d σ' H2 O2 (st.trans s2) k2 x
    | ok t ρ1 =>
      rw [ht] at g
      intro t' H2 O2 s2 ⟨e, k2⟩
      subst e
      cases t' with
      | false => exact g σ' H2 O2 (st.trans s2) k2
      | true =>
        rw [if_pos rfl]
        refine ⟨fun σ3 H3 => ∃ ρ3 O3, Ok c lc ρ3 σ3 H3 O3 Oc ∧ Step H O H3 O3 ∧ GoS c lc W H O Oc (whileL (evT T E1) (execs T B) n ρ3) D, fun σ3 H3 h => ⟨n, Nat.lt_succ_self n, h⟩, ρ1, O2, Oc, k2, ?_⟩
        dsimp only at g
        have s12 := st.trans s2
        cases hx : execs T B ρ1 with
        | nx ρ2 => rw [hx] at g; exact fun σ3 H3 O3 s3 k3 => ⟨ρ2, O3, k3, s12.trans s3, g⟩
        | ct ρ2 => rw [hx] at g; exact fun σ3 H3 O3 s3 k3 => ⟨ρ2, O3, k3, s12.trans s3, g⟩
        | bk ρ2 => rw [hx] at g; exact fun σ3 H3 O3 s3 k3 => g σ3 H3 O3 (s12.trans s3) k3
        | rt r ρ2 => rw [hx] at g; exact fun v σ3 H3 O3 s3 k3 q => g v σ3 H3 O3 (s12.trans s3) k3 (q.step s12)
        | ex e ρ2 => rw [hx] at g; exact fun cls d σ3 H3 O3 s3 k3 x => g cls d σ3 H3 O3 (s12.trans s3) k3 x
        | no => rw [hx] at g; exact g.elim
theorem forS_eq (T : Th) (k : Ik) (es : List E) (p : Pat) (b : List S) (ρ : Env) : exec T (.forS k es p b) ρ = Out.of (itm T k es ρ) fun xs ρ1 => forL (asgD p) (execs T b) xs ρ1 := by
  rw [exec]
  unfold itm
  cases evf T es ρ with
  | no => rfl
  | ex _ _ => rfl
  | ok ds ρ1 =>
    show (match items k ds with | some xs => _ | none => _) = Out.of (Rs.opt ρ1 (items k ds)) _
    cases items k ds <;> rfl
theorem js_for (hcm : nm.calm = true) {tg iter : Expr} {b : List Stmt} {k : Ik} {Es : List E} {p : Pat} {B : List S} {pos : Pos} (hi : JI nm N sc tg iter k Es) (hp : JP nm N sc allF tg p) (hb : JSs nm N sc b B) : JS nm N sc (.For tg iter b [] pos) (.forS k Es p B) := by
  refine ⟨fun c T kk X W lc C ho => PS.imp (ps_for ho.own (C.calm hcm) (hi.i c T kk X W lc C) (hp.g c T kk X W lc C fun x _ => ho.fn x) (hb.s c T kk X W lc C ho) (hi.fs _)) fun D σ H ⟨ρ, O, Oc, ok, g⟩ => ?_⟩
  rw [forS_eq] at g
  refine ⟨ρ, O, Oc, ok, (GoS.of [] g).imp fun J H1 ⟨xs, ρ1, O1, st, ⟨ok1, it⟩, g1⟩ => ?_⟩
  have ok1 : Ok c lc ρ1 σ H1 O1 Oc := ok1
  have g1 := GoS.step g1 st
  obtain ⟨G, Y, walk, hG, hY⟩ := it
  refine for_it walk (fun i σ' H' => ∃ ρ' O', Ok c lc ρ' σ' H' O' Oc ∧ Step H1 O1 H' O' ∧ GoS c lc W H1 O1 Oc (forL (asgD p) (execs T B) (xs.drop i) ρ') D) ⟨ρ1, O1, ok1, Step.refl _ _, g1⟩ ?_ ?_ ?_
  · rintro i σ' H' _ ⟨ρ', O', k, s, _⟩
    exact hG _ (s.vwO.trans (Vw.le _ _))
  · rintro i x σ' H2 H' hlt ⟨ρ', O', k, s, gg⟩ y
    obtain ⟨d, hd, res⟩ := hY i H2 x H' hlt (s.vwO.trans (Vw.le _ _)) y
    obtain ⟨s', pr⟩ := k.res (List.Sublist.refl _) (res.mono s.vwO)
    have k' : Ok c lc ρ' σ' H' O' Oc := pr.ok
    have rp' : Rp c (Vw H' (O' ++ Oc)) d x := pr.rr
    have hdrop : xs.drop i = d :: xs.drop (i + 1) := by
      obtain ⟨h1, h2⟩ := List.getElem?_eq_some_iff.mp hd
      rw [← h2, List.drop_eq_getElem_cons h1]
    rw [hdrop] at gg
    have gg : GoS c lc W H1 O1 Oc (match asgD p d ρ' with
      | none => .no
      | some ρ1 => match execs T B ρ1 with
        | .nx ρ2 => forL (asgD p) (execs T B) (xs.drop (i + 1)) ρ2
        | .ct ρ2 => forL (asgD p) (execs T B) (xs.drop (i + 1)) ρ2
        | .bk ρ2 => .nx ρ2
        | o => o) D := gg
    cases ha : asgD p d ρ' with
    | none => rw [ha] at gg; exact gg.elim
    | some ρ3 =>
      rw [ha] at gg
      dsimp only at gg
      refine ⟨d, ρ', ρ3, O', Oc, k', rp', ha, fun σ2 O2 hO2 ok2 _ => ⟨ρ3, O2, Oc, ok2, ?_⟩⟩
      have s12 : Step H1 O1 H' O2 := (s.trans s').trans (Step.less hO2)
      cases hx : execs T B ρ3 with
      | nx ρ2 => rw [hx] at gg; exact fun σ3 H3 O3 s3 k3 => ⟨ρ2, O3, k3, s12.trans s3, gg⟩
      | ct ρ2 => rw [hx] at gg; exact fun σ3 H3 O3 s3 k3 => ⟨ρ2, O3, k3, s12.trans s3, gg⟩
      | bk ρ2 => rw [hx] at gg; exact fun σ3 H3 O3 s3 k3 => gg σ3 H3 O3 (s12.trans s3) k3
      | rt r ρ2 => rw [hx] at gg; exact fun v σ3 H3 O3 s3 k3 q => gg v σ3 H3 O3 (s12.trans s3) k3 (q.step s12)
      | ex e ρ2 => rw [hx] at gg; exact fun cls d σ3 H3 O3 s3 k3 x => gg cls d σ3 H3 O3 (s12.trans s3) k3 x
      | no => rw [hx] at gg; exact gg.elim
  · rintro σ' H' ⟨ρ', O', k, s, gg⟩
    rw [List.drop_length] at gg
    exact gg σ' H' O' s k
end VL
end
section
set_option maxHeartbeats 4000000
/-! V18: assignments. -/
namespace VL
open PySem PySem.Spec PyProof.Rows L2
variable {nm : Nm} {N : List Str} {sc : Scope}
section
variable {c : Cf} {lc : Lc} {W : WX} {ρ ρ' : Env} {σ : SS} {H H' H1 : Hp} {O O' O1 O2 Oc Oc' : List Addr}
/-- one's own lists, with what is new since H -/
theorem Step.more (s : Step H O H1 O1) (h : ∀ b ∈ O2, b ∈ O1 ∨ H b = Option.none) : Step H O H1 O2 where
  keep := s.keep
  tbl := s.tbl
  own := fun b hb => by
    rcases h b hb with z | z
    · exact s.own b z
    · exact .inr z
  there := s.there
/-- a name gets a value -/
theorem asgR_nm {i : Nat} {r : R} {v : V} (pr : PR c lc ρ σ H O Oc r v) (h : asgR (.nm i) r ρ = some ρ') : ∃ O', (∀ b ∈ O', b ∈ O ∨ b ∈ pend r v) ∧ Ok c lc ρ' (σ.set i (some v)) H O' Oc := by
  cases r with
  | v d =>
    have h : asgD (.nm i) d ρ = some ρ' := h
    rw [asgD] at h
    obtain ⟨O', h1, h2⟩ := Ok.setV (show Ok c lc ρ σ H O Oc from pr.ok) h pr.rr
    exact ⟨O', fun b hb => .inl (h1 b hb), h2⟩
  | fl xs =>
    have h : setSlot i (.ol xs) ρ = some ρ' := h
    obtain ⟨p, vs, rfl, _, e, q⟩ := pr.rr
    obtain ⟨O', h1, h2⟩ := Ok.setO (show Ok c lc ρ σ H O (p :: Oc) from pr.ok) h e q
    exact ⟨O', fun b hb => by
      rcases h1 b hb with z | z
      · exact .inl z
      · exact .inr (by rw [z]; exact List.mem_cons_self), h2⟩
  | br j =>
    have h : (VL.look ρ (.br j)).bind (fun d => (VL.frzS j ρ).bind (setSlot i (.v d))) = some ρ' := h
    cases l1 : VL.look ρ (.br j) with
    | none => rw [l1] at h; cases h
    | some d =>
      rw [l1] at h
      have h : (VL.frzS j ρ).bind (setSlot i (.v d)) = some ρ' := h
      cases l2 : VL.frzS j ρ with
      | none => rw [l2] at h; cases h
      | some ρ1 =>
        rw [l2] at h
        obtain ⟨O1, h1, k1, rp⟩ := Ok.frzS (show Ok c lc ρ σ H O Oc from pr.ok) pr.rr l1 l2
        obtain ⟨O', h2, k2⟩ := k1.setV (show setSlot i (.v d) ρ1 = some ρ' from h) rp
        exact ⟨O', fun b hb => .inl (h1 b (h2 b hb)), k2⟩
/-- a pattern gets a value -/
theorem asgR_tp {ps : List Pat} {r : R} {v : V} (pr : PR c lc ρ σ H O Oc r v) (h : asgR (.tp ps) r ρ = some ρ') : ∃ d, Ok c lc ρ σ H O Oc ∧ Rp c (Vw H (O ++ Oc)) d v ∧ asgD (.tp ps) d ρ = some ρ' := by
  cases r with
  | v d => exact ⟨d, pr.ok, pr.rr, h⟩
  | fl xs =>
    have h : asgDs ps xs ρ = some ρ' := h
    obtain ⟨O', h1, h2, h3⟩ := Ok.frz (r := .fl xs) (d := .lst xs) (ρ' := ρ) pr rfl
    refine ⟨.lst xs, pend_sub pr.ok, ?_, by rw [asgD]; exact h⟩
    obtain ⟨p, vs, rfl, hp, e, q⟩ := pr.rr
    have k0 : Ok c lc ρ σ H O (p :: Oc) := pr.ok
    have nd : (p :: (O ++ Oc)).Nodup := List.perm_middle.nodup_iff.mp k0.nd
    exact .lst (Vw.some_iff.mpr ⟨(List.nodup_cons.mp nd).1, e⟩) (q.mono (Vw.sub fun b hb => by
      rcases List.mem_append.mp hb with z | z
      · exact List.mem_append_left _ z
      · exact List.mem_append_right _ (List.mem_cons_of_mem _ z)))
  | br j => cases h
end
theorem set_read {c : Cf} {T : Th} {W : WX} {lc : Lc} {E1 : E} {i : Nat} (D : Ends) (σ : SS) (H : Hp) (h : rS c lc W (exec T (.asg (.nm i) E1)) D σ H) : rE c lc W (den T E1).v σ H (fun v H1 => gName i v σ H1 D.nx) := by
  obtain ⟨ρ, O, Oc, ok, g⟩ := h
  rw [exec] at g
  refine ⟨ρ, O, Oc, ok, (GoS.of [] g).imp fun v H1 ⟨r, ρ1, O1, st, ⟨pr, n⟩, g1⟩ => ?_⟩
  have pr : PR c lc ρ1 σ H1 O1 Oc r v := pr
  cases e : asgR (.nm i) r ρ1 with
  | none => rw [e] at g1; exact g1.elim
  | some ρ2 =>
    rw [e] at g1
    obtain ⟨O2, h1, k2⟩ := asgR_nm pr e
    exact g1 _ H1 O2 (st.more fun b hb => (h1 b hb).imp id (n b)) k2
theorem js_asg {i : Nat} {x : Str} {e : Expr} {E1 : E} {p pos : Pos} (hN : N[i]? = some x) (hl : WrOk sc allF x) (hc : noComp e = true) (h : J nm N sc e E1) : JS nm N sc (.Assign [.Name x p] e pos) (.asg (.nm i) E1) :=
  ⟨fun c T k X W lc C ho => PS.imp (ps_set (by rw [C.hN]; exact C.nd) (by rw [C.hN]; exact hN) (by rw [C.hsc]; exact hl.loc) (h.je c T k X W lc C) (sw_no hc _ _ _) (hl.hf C.hsc fun x _ => ho.fn x)) fun D σ H h => set_read D σ H h⟩
theorem js_asgLc (hcm : nm.calm = true) {i : Nat} {x : Str} {py spos : Pos} {elt tg iter : Expr} {ifs : List Expr} {scope : Scope} {own : List (Str × Nat)} {pos : Pos} {k : Ik} {Es Cs : List E} {p : Pat} {E1 : E} (hN : N[i]? = some x) (hl : sc.names.lookup x = some .local) (hk : sc.kind = .function) (hln : (py.line == pos.line) = true)
    (ha : (scope.names.any fun (n, k) => n == x && (k == .local || k == .cell)) = false) (hi : JI nm N sc tg iter k Es) (hb : BlkOk N sc scope own) (hown : own.map (·.2) = patSlots p) (hnd : (patSlots p).Nodup)
    (hp : JP nm N (relS scope sc) (fun x => scope.names.lookup x == some .cell) tg p) (hcs : JC nm N (relS scope sc) ifs Cs) (he : J nm N (relS scope sc) elt E1) : JS nm N sc (.Assign [.Name x py] (.ListComp elt [⟨tg, iter, ifs, 0⟩] scope pos) spos) (.asg (.nm i) (.lc k Es p Cs E1)) := by
  refine ⟨fun c T kk X W lc C ho => PS.imp (ps_setLc (own := own) (C.calm hcm) (by rw [C.hN]; exact C.nd) (by rw [C.hN]; exact hN) (by rw [C.hsc]; exact hl) (sw_true (by rw [C.hsc]; exact hk) (by rw [C.hsc]; exact hl) hln ha) (hi.i c T kk X W lc C) (by rw [C.hN, C.hsc]; exact hb) (fun s H A cl fp => hp.g c T kk _ _ lc (C.blk hcm) (fun x h => h)) (fun s H A cl fp => hcs.c c T kk _ _ lc (C.blk hcm)) (fun s H A cl fp => he.je c T kk _ _ lc (C.blk hcm)) (hi.fs _)) fun D σ H h => ?_⟩
  show tLc _ _ _ _ (own.map (·.2)) σ H _
  rw [hown]
  exact lc_read hnd σ H _ (set_read D σ H h)
/-- the name is a cell: no exchange -/
theorem js_asgLcC {i : Nat} {x : Str} {py spos : Pos} {elt : Expr} {gs : List Comprehension} {scope : Scope} {pos : Pos} {E1 : E} (hN : N[i]? = some x) (hl : sc.names.lookup x = some .cell) (h : J nm N sc (.ListComp elt gs scope pos) E1) : JS nm N sc (.Assign [.Name x py] (.ListComp elt gs scope pos) spos) (.asg (.nm i) E1) := by
  refine ⟨fun c T k X W lc C ho => PS.imp (ps_set (by rw [C.hN]; exact C.nd) (by rw [C.hN]; exact hN) (by rw [C.hsc]; exact .inr hl) (h.je c T k X W lc C) ?_ (.inl (ho.fn x))) fun D σ H h => set_read D σ H h⟩
  have hk : (X.env.kindOf x == some .local) = false := by
    unfold PySem.Env.kindOf
    rw [C.hsc, hl]
    rfl
  unfold swapsWith
  simp only [hk, Bool.and_false, Bool.false_and]
/-- how the stores of a row of names lie: none where they go in order -/
theorem js_asgT (hcm : nm.calm = true) {ts : List Expr} {ps : List Pat} {e : Expr} {E1 : E} {n : Nat} {p pos : Pos} (hw : ∀ env : PySem.Env, swappedStores [.Tuple ts n p] e env = pure none) (hc : noComp e = true) (hp : JPs nm N sc allF ts ps) (h : J nm N sc e E1) : JS nm N sc (.Assign [.Tuple ts n p] e pos) (.asg (.tp ps) E1) := by
  refine ⟨fun c T k X W lc C ho => PS.imp (ps_asg (h.je c T k X W lc C) ((jp_tp hcm hp).g c T k X W lc C fun x _ => ho.fn x) (by unfold swapsWithSole; exact sw_no hc _ _ _) (hw _) rfl) fun D σ H ⟨ρ, O, Oc, ok, g⟩ => ?_⟩
  rw [exec] at g
  refine ⟨ρ, O, Oc, ok, (GoS.of [] g).imp fun v H1 ⟨r, ρ1, O1, st, ⟨pr, nn⟩, g1⟩ => ?_⟩
  have pr : PR c lc ρ1 σ H1 O1 Oc r v := pr
  cases e : asgR (.tp ps) r ρ1 with
  | none => rw [e] at g1; exact g1.elim
  | some ρ2 =>
    rw [e] at g1
    obtain ⟨d, k1, rp, ea⟩ := asgR_tp pr e
    exact ⟨d, ρ1, ρ2, O1, Oc, k1, rp, ea, fun σ' O' hO k2 _ => g1 σ' H1 O' (st.trans (Step.less hO)) k2⟩
/-! ### name op= e -/
theorem js_aug {i : Nat} {x : Str} {e : Expr} {E1 : E} {o : Op} {o' : Operator} {p pos : Pos} (ho : (o = .add ∧ o' = .Add) ∨ (o = .sub ∧ o' = .Sub)) (hN : N[i]? = some x) (hl : WrOk sc allF x) (h : J nm N sc e E1) : JS nm N sc (.AugAssign (.Name x p) o' e pos) (.aug i o E1) := by
  obtain ⟨f, hf, hb⟩ : ∃ f : Int → Int → Int, (∀ X : Cx, PIp X o' (ipI f)) ∧ ∀ a b, (if o = .add ∨ o = .sub then binop o (.int a) (.int b) else none) = some (.v (.int (f a b))) := by
    rcases ho with ⟨rfl, rfl⟩ | ⟨rfl, rfl⟩
    · exact ⟨fun i j => i + j, fun X => ip_add, fun a b => rfl⟩
    · exact ⟨fun i j => i - j, fun X => ip_sub, fun a b => rfl⟩
  refine ⟨fun c T k X W lc C hp => PS.imp (ps_aug (by rw [C.hN]; exact C.nd) (by rw [C.hN]; exact hN) (by rw [C.hsc]; exact hl.loc) (h.je c T k X W lc C) (hf X) (hl.hf C.hsc fun x _ => hp.fn x)) fun D σ H ⟨ρ, O, Oc, ok, g⟩ => ?_⟩
  rw [exec] at g
  cases e1 : ρ[i]? with
  | none => rw [e1] at g; exact g.elim
  | some s =>
    rw [e1] at g
    cases s with
    | v d =>
      cases d with
      | int a =>
        obtain ⟨v0, h1, h2⟩ := ok.atV e1
        cases h2
        refine ⟨_, h1, ρ, O, Oc, ok, (GoS.of [] g).imp fun v H1 ⟨r, ρ1, O1, st, ⟨pr, n⟩, g1⟩ => ?_⟩
        have pr : PR c lc ρ1 σ H1 O1 Oc r v := pr
        cases l1 : look ρ1 r with
        | none => rw [l1] at g1; exact g1.elim
        | some d =>
          rw [l1] at g1
          cases d with
          | int b =>
            dsimp only at g1
            rw [hb a b] at g1
            dsimp only at g1
            cases e2 : setSlot i (.v (.int (f a b))) ρ1 with
            | none => rw [e2] at g1; exact g1.elim
            | some ρ2 =>
              rw [e2] at g1
              obtain ⟨O2, h3, k2⟩ := (pend_sub pr.ok).setV e2 (.int _)
              exact ⟨a, b, rfl, (pr.ok.look pr.rr l1).int, g1 _ H1 O2 (st.trans (Step.less h3)) k2⟩
          | _ => exact g1.elim
      | _ => exact g.elim
    | _ => exact g.elim
end VL
end
section
set_option maxHeartbeats 4000000
/-! V19: rows of names; lists changed. -/
namespace VL
open PySem PySem.Spec PyProof.Rows L2
variable {nm : Nm} {N : List Str} {sc : Scope}
section
variable {c : Cf} {lc : Lc} {W : WX} {ρ ρ' : Env} {σ : SS} {H H' H1 : Hp} {O O' O1 O2 Oc Oc' : List Addr}
theorem Ok.perm (k : Ok c lc ρ σ H O Oc) (p : Oc.Perm Oc') : Ok c lc ρ σ H O Oc' where
  env := by
    rw [← Vw.perm (List.Perm.append_left O p)]
    exact k.env
  nd := (List.Perm.append_left O p).nodup_iff.mp k.nd
  off := fun b hb => k.off b (p.mem_iff.mpr hb)
  tabs := k.tabs
theorem offs_perm : ∀ {a Oc : List Addr} {rs : List R} {vs : List V}, (offs (a ++ Oc) rs vs).Perm (a ++ offs Oc rs vs)
  | a, Oc, [], _ => by unfold offs; exact .refl _
  | a, Oc, _ :: _, [] => by unfold offs; exact .refl _
  | a, Oc, r :: rs, v :: vs => by
    show (offs (pend r v ++ (a ++ Oc)) rs vs).Perm (a ++ offs (pend r v ++ Oc) rs vs)
    refine offs_perm.trans ?_
    refine List.Perm.trans ?_ (List.Perm.append_left a offs_perm.symm)
    refine (List.Perm.append_left _ offs_perm).trans ?_
    rw [← List.append_assoc, ← List.append_assoc]
    exact List.Perm.append_right _ List.perm_append_comm
theorem pend_in : ∀ {Oc : List Addr} {rs : List R} {vs : List V} {r : R} {v : V}, (r, v) ∈ rs.zip vs → ∀ b ∈ pend r v, b ∈ offs Oc rs vs
  | Oc, [], _, _, _, h => by simp at h
  | Oc, _ :: _, [], _, _, h => by simp at h
  | Oc, r :: rs, v :: vs, r', v', h => fun b hb => by
    show b ∈ offs (pend r v ++ Oc) rs vs
    rcases List.mem_cons.mp h with z | z
    · cases z
      exact offs_of b (List.mem_append_left _ hb)
    · exact pend_in z b hb
/-- rows of results: later, at fewer -/
theorem RRs.less {X X' : List Addr} (hX : ∀ b ∈ X', b ∈ X) (hO : ∀ b ∈ O1, b ∈ O ∨ b ∈ X ∧ b ∉ X') (hσ : True) : ∀ {rs : List R} {vs : List V} {σ' : SS}, brs rs = [] → (∀ r v, (r, v) ∈ rs.zip vs → ∀ b ∈ pend r v, b ∈ X') → Le (Vw H (O ++ X)) (Vw H (O1 ++ X')) → RRs c σ H O X rs vs → RRs c σ' H O1 X' rs vs
  | [], [], _, _, _, _, _ => trivial
  | [], _ :: _, _, _, _, _, q => q.elim
  | _ :: _, [], _, _, _, _, q => q.elim
  | r :: rs, v :: vs, σ', hb, hp, l, q => by
    cases r with
    | br i => cases hb
    | v d => exact ⟨Rp.mono l q.1, RRs.less hX hO hσ hb (fun r' v' h => hp r' v' (List.mem_cons_of_mem _ h)) l q.2⟩
    | fl xs =>
      obtain ⟨p, ws, rfl, h1, h2, h3⟩ := q.1
      exact ⟨⟨p, ws, rfl, hp _ _ List.mem_cons_self p List.mem_cons_self, h2, h3.mono l⟩, RRs.less hX hO hσ hb (fun r' v' h => hp r' v' (List.mem_cons_of_mem _ h)) l q.2⟩
/-- several targets, several results -/
def rGRs (c : Cf) (lc : Lc) (ps : List Pat) : TGs := fun vs σ H Q => ∃ rs ρ ρ' O Oc, Ok c lc ρ σ H O (offs Oc rs vs) ∧ RRs c σ H O (offs Oc rs vs) rs vs ∧ brs rs = [] ∧ asgRs ps rs ρ = some ρ' ∧ ∀ σ' O', (∀ b ∈ O', b ∈ O ∨ b ∈ offs Oc rs vs) → Ok c lc ρ' σ' H O' Oc → Q σ' H
def rGR (c : Cf) (lc : Lc) (p : Pat) : TG := fun v σ H Q => ∃ r ρ ρ' O Oc, PR c lc ρ σ H O Oc r v ∧ brs [r] = [] ∧ asgR p r ρ = some ρ' ∧ ∀ σ' O', (∀ b ∈ O', b ∈ O ∨ b ∈ pend r v) → Ok c lc ρ' σ' H O' Oc → Q σ' H
end
structure JQ (nm : Nm) (N : List Str) (sc : Scope) (tg : Expr) (p : Pat) : Prop where
  g : ∀ (c : Cf) (T : Th) (k : Nat) (X : Cx) (W : WX) (lc : Lc), Cok c T nm k N sc X W lc → Top X → PG X tg (rGR c lc p)
structure JQs (nm : Nm) (N : List Str) (sc : Scope) (tgs : List Expr) (ps : List Pat) : Prop where
  g : ∀ (c : Cf) (T : Th) (k : Nat) (X : Cx) (W : WX) (lc : Lc), Cok c T nm k N sc X W lc → Top X → PGs X tgs (rGRs c lc ps)
  n : ∀ env, (assignEach tgs env).length = ps.length
  s : ∀ env, (assignEach tgs env).findIdx? (·.1) = none
theorem jq_nm {i : Nat} {x : Str} {pos : Pos} (hN : N[i]? = some x) (hl : WrOk sc allF x) : JQ nm N sc (.Name x pos) (.nm i) := by
  refine ⟨fun c T k X W lc C ho => ?_⟩
  refine PG.imp (pg_name (i := i) (by rw [C.hN]; exact C.nd) (by rw [C.hN]; exact hN) (by rw [C.hsc]; exact hl.loc) (hl.hf C.hsc fun x _ => ho.fn x)) fun v σ H Q ⟨r, ρ, ρ', O, Oc, pr, _, e, q⟩ => ?_
  obtain ⟨O', h1, h2⟩ := asgR_nm pr e
  exact q _ O' h1 h2
theorem jq_tp (hcm : nm.calm = true) {es : List Expr} {ps : List Pat} {n : Nat} {pos : Pos} (h : JPs nm N sc allF es ps) : JQ nm N sc (.Tuple es n pos) (.tp ps) := by
  refine ⟨fun c T k X W lc C ho => PG.imp ((jp_tp hcm h).g c T k X W lc C fun x _ => ho.fn x) fun v σ H Q ⟨r, ρ, ρ', O, Oc, pr, _, e, q⟩ => ?_⟩
  obtain ⟨d, k1, rp, ea⟩ := asgR_tp pr e
  exact ⟨d, ρ, ρ', O, Oc, k1, rp, ea, fun σ' O' hO k2 _ => q σ' O' (fun b hb => .inl (hO b hb)) k2⟩
theorem jqs_nil : JQs nm N sc [] [] := by
  refine ⟨fun c T k X W lc C _ => PGs.imp pgs_nil fun v σ H Q ⟨rs, ρ, ρ', O, Oc, ok, r, _, e, q⟩ => ?_, fun _ => rfl, fun _ => rfl⟩
  cases rs with
  | nil =>
    cases e
    cases v with
    | nil => exact ⟨rfl, q σ O (fun _ z => .inl z) ok⟩
    | cons _ _ => exact r.elim
  | cons _ _ => cases e
theorem jqs_cons {e : Expr} {es : List Expr} {p : Pat} {ps : List Pat} (he : plainT e = true) (h1 : JQ nm N sc e p) (h2 : JQs nm N sc es ps) : JQs nm N sc (e :: es) (p :: ps) := by
  refine ⟨fun c T k X W lc C ho => PGs.imp (pgs_cons (h1.g c T k X W lc C ho) (h2.g c T k X W lc C ho) (by rw [each_cons _ he]; rfl)) fun v σ H Q ⟨rs, ρ, ρ', O, Oc, ok, rr, hb, e, q⟩ => ?_, fun env => by rw [each_cons _ he, List.length_cons, h2.n, List.length_cons], fun env => by rw [each_cons _ he, List.findIdx?_cons, h2.s]; rfl⟩
  cases rs with
  | nil => cases e
  | cons r rs =>
    cases v with
    | nil => exact rr.elim
    | cons v vs =>
      have e : (asgR p r ρ).bind (asgRs ps rs) = some ρ' := e
      cases e1 : asgR p r ρ with
      | none => rw [e1] at e; cases e
      | some ρ1 =>
        rw [e1] at e
        have nb : brs [r] = [] ∧ brs rs = [] := by
          cases r with
          | br i => cases hb
          | v _ => exact ⟨rfl, hb⟩
          | fl _ => exact ⟨rfl, hb⟩
        have pm : (offs Oc (r :: rs) (v :: vs)).Perm (pend r v ++ offs Oc rs vs) := offs_perm
        have ok' : Ok c lc ρ σ H O (pend r v ++ offs Oc rs vs) := ok.perm pm
        have rr1 : RR c σ H O (pend r v ++ offs Oc rs vs) r v := by
          have q1 : RR c σ H O (offs Oc (r :: rs) (v :: vs)) r v := rr.1
          cases r with
          | v d =>
            show Rp c (Vw H (O ++ _)) d v
            rw [← Vw.perm (List.Perm.append_left O pm)]
            exact q1
          | br i => exact q1
          | fl xs =>
            obtain ⟨a, ws, z1, z2, z3, z4⟩ := q1
            exact ⟨a, ws, z1, pm.mem_iff.mp z2, z3, by rw [← Vw.perm (List.Perm.append_left O pm)]; exact z4⟩
        refine ⟨v, vs, rfl, r, ρ, ρ1, O, offs Oc rs vs, ⟨ok', rr1⟩, nb.1, e1, fun σ1 O1 hO1 ok1 => ?_⟩
        have lv : Le (Vw H (O ++ offs Oc (r :: rs) (v :: vs))) (Vw H (O1 ++ offs Oc rs vs)) := Vw.sub fun b hb => by
          rcases List.mem_append.mp hb with z | z
          · rcases hO1 b z with y | y
            · exact List.mem_append_left _ y
            · exact List.mem_append_right _ (pm.mem_iff.mpr (List.mem_append_left _ y))
          · exact List.mem_append_right _ (pm.mem_iff.mpr (List.mem_append_right _ z))
        have hX : ∀ b ∈ offs Oc rs vs, b ∈ offs Oc (r :: rs) (v :: vs) := fun b hb => pm.mem_iff.mpr (List.mem_append_right _ hb)
        refine ⟨rs, ρ1, ρ', O1, Oc, ok1, RRs.less hX (fun b hb => ?_) trivial nb.2 (fun r' v' h => pend_in h) lv rr.2, nb.2, e, fun σ2 O2 hO2 ok2 => q σ2 O2 (fun b hb => ?_) ok2⟩
        · rcases hO1 b hb with z | z
          · exact .inl z
          · exact .inr ⟨pm.mem_iff.mpr (List.mem_append_left _ z), fun y => ok1.dis b y hb⟩
        · rcases hO2 b hb with z | z
          · rcases hO1 b z with y | y
            · exact .inl y
            · exact .inr (pm.mem_iff.mpr (List.mem_append_left _ y))
          · exact .inr (hX b z)
end VL
end
section
set_option maxHeartbeats 4000000
/-! V20: a, b = x, y; lists changed. -/
namespace VL
open PySem PySem.Spec PyProof.Rows L2
variable {nm : Nm} {N : List Str} {sc : Scope}
def isStar : Expr → Bool
  | .Starred .. => true
  | _ => false
/-- how the stores of targets lie -/
def swB (sc : Scope) (ts vs : List Expr) : Option (Option (List Str)) :=
  if !(ts.length == 2 || ts.length == 3) || vs.length != ts.length then some none
  else if vs.any isStar then some none
  else
    let line := (ts.head?.map (·.pos.line)).getD 0
    let names := ts.filterMap fun
      | .Name id pos => if sc.names.lookup id == some .local && pos.line == line then some id else none
      | _ => none
    if names.length != ts.length || names.eraseDups.length != names.length then some none
    else if vs.all (foldedForSure 8) then some none
    else if vs.all (constantsAlone 8) then none
    else some (some names)
theorem sw_eq {env : PySem.Env} {ts vs : List Expr} {n m : Nat} {p q : Pos} {r : Option (List Str)} (hs : env.scope = sc) (hk : sc.kind = .function) (h : swB sc ts vs = some r) : swappedStores [.Tuple ts n p] (.Tuple vs m q) env = pure r := by
  have hb : env.blockKind = .function := by unfold Env.blockKind; rw [hs, hk]; rfl
  have hkd : ∀ id, env.kindOf id = sc.names.lookup id := fun id => by rw [← hs]; rfl
  have hstar : ∀ f : Expr → Bool, (∀ x, f x = isStar x) → vs.any f = vs.any isStar := fun f h => by rw [show f = isStar from funext h]
  unfold swappedStores
  unfold swB at h
  simp only [pure_bind, hb, hkd, bne_self_eq_false, Bool.or_false] at h ⊢
  rw [hstar _ fun x => by cases x <;> rfl]
  revert h
  generalize (!(ts.length == 2 || ts.length == 3) || vs.length != ts.length) = c1
  generalize vs.any isStar = c2
  generalize hnames : (List.filterMap (fun x => match x with
      | .Name id pos => if (sc.names.lookup id == some .local && pos.line == (ts.head?.map (·.pos.line)).getD 0) = true then some id else none
      | _ => none) ts) = names
  generalize (names.length != ts.length || names.eraseDups.length != names.length) = c3
  generalize vs.all (foldedForSure 8) = c4
  generalize vs.all (constantsAlone 8) = c5
  intro h
  cases c1 <;> cases c2 <;> cases c3 <;> cases c4 <;> cases c5 <;> simp at h ⊢ <;> first | (subst h; rfl) | rw [← h]
section
variable {c : Cf} {lc : Lc} {W : WX} {ρ ρ' : Env} {σ : SS} {H H' H1 : Hp} {O O' O1 O2 Oc Oc' X : List Addr}
/-- what is borrowed stays: the row without loans -/
theorem stay_ok (k : Ok c lc ρ' σ H O' X) (hO : ∀ b ∈ O', b ∈ O) : ∀ {rs rs' : List R} {vs : List V}, stay ρ rs = some rs' → RRs c σ H O X rs vs → (∀ i ∈ brs rs, ∀ d, look ρ (.br i) = some d → ρ'[i]? = some (.v d)) →
    RRs c σ H O' X rs' vs ∧ brs rs' = [] ∧ ∀ Oc, offs Oc rs' vs = offs Oc rs vs
  | [], rs', vs, h, q, _ => by
    cases h
    cases vs with
    | nil => exact ⟨trivial, rfl, fun _ => rfl⟩
    | cons _ _ => exact q.elim
  | r :: rs, rs', [], h, q, _ => q.elim
  | r :: rs, rs', v :: vs, h, q, hb => by
    have lv : Le (Vw H (O ++ X)) (Vw H (O' ++ X)) := Vw.sub fun b hb => by
      rcases List.mem_append.mp hb with z | z
      · exact List.mem_append_left _ (hO b z)
      · exact List.mem_append_right _ z
    cases r with
    | v d =>
      have h : (stay ρ rs).map (R.v d :: ·) = some rs' := h
      cases e : stay ρ rs with
      | none => rw [e] at h; cases h
      | some rs2 =>
        rw [e] at h
        cases h
        obtain ⟨a1, a2, a3⟩ := stay_ok k hO e q.2 hb
        exact ⟨⟨Rp.mono lv q.1, a1⟩, a2, fun Oc => a3 _⟩
    | fl xs =>
      have h : (stay ρ rs).map (R.fl xs :: ·) = some rs' := h
      cases e : stay ρ rs with
      | none => rw [e] at h; cases h
      | some rs2 =>
        rw [e] at h
        cases h
        obtain ⟨a1, a2, a3⟩ := stay_ok k hO e q.2 hb
        obtain ⟨p, ws, z1, z2, z3, z4⟩ := q.1
        exact ⟨⟨⟨p, ws, z1, z2, z3, z4.mono lv⟩, a1⟩, a2, fun Oc => a3 _⟩
    | br i =>
      have h : (look ρ (.br i)).bind (fun d => (stay ρ rs).map (R.v d :: ·)) = some rs' := h
      cases l1 : look ρ (.br i) with
      | none => rw [l1] at h; cases h
      | some d =>
        rw [l1] at h
        have h : (stay ρ rs).map (R.v d :: ·) = some rs' := h
        cases e : stay ρ rs with
        | none => rw [e] at h; cases h
        | some rs2 =>
          rw [e] at h
          cases h
          obtain ⟨a1, a2, a3⟩ := stay_ok k hO e q.2 fun j hj => hb j (List.mem_cons_of_mem _ hj)
          have e1 : σ[i]? = some (some v) := q.1
          obtain ⟨v', h1, h2⟩ := k.atV (hb i List.mem_cons_self d l1)
          rw [e1] at h1
          cases h1
          exact ⟨⟨h2, a1⟩, a2, fun Oc => a3 _⟩
/-- several results, about to be stored -/
theorem go_asgs {T : Th} {ps : List Pat} {es : List E} {D : Ends} {B : List V → Hp → Prop} (h : rS c lc W (exec T (.asgs ps es)) D σ H)
    (hB : ∀ rs vs ρ ρ' H1 O1 Oc, Ok c lc ρ σ H1 O1 (offs Oc rs vs) → RRs c σ H1 O1 (offs Oc rs vs) rs vs → brs rs = [] → asgRs ps rs ρ = some ρ' → (∀ σ' H2 O', Step H1 O1 H2 O1 → (∀ b ∈ O', b ∈ O1 ∨ b ∈ offs Oc rs vs) → Ok c lc ρ' σ' H2 O' Oc → D.nx σ' H2) → B vs H1) : rA c lc W (evs T es) σ H B := by
  obtain ⟨ρ, O, Oc, ok, g⟩ := h
  rw [exec] at g
  refine ⟨ρ, O, Oc, ok, (GoS.of [] g).imp fun vs H1 ⟨rs, ρ1, O1, st, ⟨ok1, rr, n⟩, g1⟩ => ?_⟩
  have ok1 : Ok c lc ρ1 σ H1 O1 (offs Oc rs vs) := ok1
  have rr : RRs c σ H1 O1 (offs Oc rs vs) rs vs := rr
  cases e1 : stay ρ1 rs with
  | none => rw [e1] at g1; exact g1.elim
  | some rs' =>
    rw [e1] at g1
    cases e2 : frzAll (brs rs) ρ1 with
    | none => rw [e2] at g1; exact g1.elim
    | some ρ2 =>
      rw [e2] at g1
      have g1 : GoS c lc W H O Oc (.opt (asgRs ps rs' ρ2)) D := g1
      cases e3 : asgRs ps rs' ρ2 with
      | none => rw [e3] at g1; exact g1.elim
      | some ρ3 =>
        rw [e3] at g1
        obtain ⟨O2, hO, k2⟩ := frzAll_ok ok1 e2
        obtain ⟨a1, a2, a3⟩ := stay_ok k2 hO e1 rr fun i hi d hd => (frzAll_v e2 i d hd).2.2 hi
        refine hB rs' vs ρ2 ρ3 H1 O2 Oc (by rw [a3]; exact k2) (by rw [a3]; exact a1) a2 e3 fun σ' H2 O' s2 hb k3 => ?_
        rw [a3] at hb
        refine g1 σ' H2 O' ((st.trans ((Step.less hO).trans s2)).more fun b z => ?_) k3
        rcases hb b z with y | y
        · exact .inl y
        · rcases n b y with w | w
          · exact absurd z fun z => k3.dis b w z
          · exact .inr w
theorem asgRs_len : ∀ {ps : List Pat} {rs : List R} {ρ ρ' : Env}, asgRs ps rs ρ = some ρ' → rs.length = ps.length
  | [], [], _, _, _ => rfl
  | [], _ :: _, _, _, h => by cases h
  | _ :: _, [], _, _, h => by cases h
  | p :: ps, r :: rs, ρ, ρ', h => by
    have h : (asgR p r ρ).bind (asgRs ps rs) = some ρ' := h
    cases e : asgR p r ρ with
    | none => rw [e] at h; cases h
    | some ρ1 => rw [e] at h; exact congrArg (· + 1) (asgRs_len (show asgRs ps rs ρ1 = some ρ' from h))
theorem RRs.len : ∀ {rs : List R} {vs : List V}, RRs c σ H O X rs vs → rs.length = vs.length
  | [], [], _ => rfl
  | [], _ :: _, q => q.elim
  | _ :: _, [], q => q.elim
  | _ :: rs, _ :: vs, q => congrArg (· + 1) (RRs.len q.2)
def setsS : SS → List Nat → List V → SS
  | σ, i :: is, v :: vs => setsS (σ.set i (some v)) is vs
  | σ, _, _ => σ
theorem asgRs_nms : ∀ {is : List Nat} {rs : List R} {vs : List V} {ρ ρ' : Env} {σ : SS} {O Oc : List Addr}, Ok c lc ρ σ H O (offs Oc rs vs) → RRs c σ H O (offs Oc rs vs) rs vs → brs rs = [] → asgRs (is.map .nm) rs ρ = some ρ' →
    ∃ O', (∀ b ∈ O', b ∈ O ∨ b ∈ offs Oc rs vs) ∧ Ok c lc ρ' (setsS σ is vs) H O' Oc
  | [], [], [], ρ, ρ', σ, O, Oc, k, _, _, e => by
    cases e
    exact ⟨O, fun _ z => .inl z, k⟩
  | [], [], _ :: _, _, _, _, _, _, _, q, _, _ => q.elim
  | [], _ :: _, _, _, _, _, _, _, _, _, _, e => by cases e
  | _ :: _, [], _, _, _, _, _, _, _, _, _, e => by cases e
  | _ :: _, _ :: _, [], _, _, _, _, _, _, q, _, _ => q.elim
  | i :: is, r :: rs, v :: vs, ρ, ρ', σ, O, Oc, ok, rr, hb, e => by
    have e : (asgR (.nm i) r ρ).bind (asgRs (is.map .nm) rs) = some ρ' := e
    cases e1 : asgR (.nm i) r ρ with
    | none => rw [e1] at e; cases e
    | some ρ1 =>
      rw [e1] at e
      have nb : brs rs = [] := by
        cases r with
        | br i => cases hb
        | v _ => exact hb
        | fl _ => exact hb
      have pm : (offs Oc (r :: rs) (v :: vs)).Perm (pend r v ++ offs Oc rs vs) := offs_perm
      have ok' : Ok c lc ρ σ H O (pend r v ++ offs Oc rs vs) := ok.perm pm
      have rr1 : RR c σ H O (pend r v ++ offs Oc rs vs) r v := by
        have q1 : RR c σ H O (offs Oc (r :: rs) (v :: vs)) r v := rr.1
        cases r with
        | v d =>
          show Rp c (Vw H (O ++ _)) d v
          rw [← Vw.perm (List.Perm.append_left O pm)]
          exact q1
        | br i => exact q1
        | fl xs =>
          obtain ⟨a, ws, z1, z2, z3, z4⟩ := q1
          exact ⟨a, ws, z1, pm.mem_iff.mp z2, z3, by rw [← Vw.perm (List.Perm.append_left O pm)]; exact z4⟩
      obtain ⟨O1, hO1, ok1⟩ := asgR_nm (show PR c lc ρ σ H O (offs Oc rs vs) r v from ⟨ok', rr1⟩) e1
      have lv : Le (Vw H (O ++ offs Oc (r :: rs) (v :: vs))) (Vw H (O1 ++ offs Oc rs vs)) := Vw.sub fun b hb => by
        rcases List.mem_append.mp hb with z | z
        · rcases hO1 b z with y | y
          · exact List.mem_append_left _ y
          · exact List.mem_append_right _ (pm.mem_iff.mpr (List.mem_append_left _ y))
        · exact List.mem_append_right _ (pm.mem_iff.mpr (List.mem_append_right _ z))
      have hX : ∀ b ∈ offs Oc rs vs, b ∈ offs Oc (r :: rs) (v :: vs) := fun b hb => pm.mem_iff.mpr (List.mem_append_right _ hb)
      have rr2 : RRs c (σ.set i (some v)) H O1 (offs Oc rs vs) rs vs := RRs.less hX (fun b hb => by
        rcases hO1 b hb with z | z
        · exact .inl z
        · exact .inr ⟨pm.mem_iff.mpr (List.mem_append_left _ z), fun y => ok1.dis b y hb⟩) trivial nb (fun r' v' h => pend_in h) lv rr.2
      obtain ⟨O2, hO2, ok2⟩ := asgRs_nms ok1 rr2 nb (show asgRs (is.map .nm) rs ρ1 = some ρ' from e)
      refine ⟨O2, fun b hb => ?_, ok2⟩
      rcases hO2 b hb with z | z
      · rcases hO1 b z with y | y
        · exact .inl y
        · exact .inr (pm.mem_iff.mpr (List.mem_append_left _ y))
      · exact .inr (hX b z)
end
theorem RRs.later1 {c : Cf} {σ : SS} {H H' : Hp} {O X : List Addr} (l : Le (Vw H (O ++ X)) (Vw H' (O ++ X))) (kp : ∀ b u, H b = some u → H' b = some u) : ∀ {rs : List R} {vs : List V}, brs rs = [] → RRs c σ H O X rs vs → RRs c σ H' O X rs vs
  | [], [], _, _ => trivial
  | [], _ :: _, _, q => q.elim
  | _ :: _, [], _, q => q.elim
  | r :: rs, v :: vs, hb, q => by
    cases r with
    | br i => cases hb
    | v d => exact ⟨Rp.mono l q.1, RRs.later1 l kp hb q.2⟩
    | fl xs =>
      obtain ⟨p, ws, rfl, h1, h2, h3⟩ := q.1
      exact ⟨⟨p, ws, rfl, h1, kp _ _ h2, h3.mono l⟩, RRs.later1 l kp hb q.2⟩
/-- a, b = x, y -/
theorem js_par2 (hcm : nm.calm = true) {i j : Nat} {x y : Str} {a b : Expr} {Es : List E} {px py pt : Pos} {kt k2 : Nat} {pt2 pos : Pos} (hsw : swB sc [.Name x px, .Name y py] [a, b] = some (some [x, y])) (hk : sc.kind = .function) (hi : N[i]? = some x) (hj : N[j]? = some y) (hij : i ≠ j)
    (hx : sc.names.lookup x = some .local) (hy : sc.names.lookup y = some .local) (h : JA nm N sc [a, b] Es) : JS nm N sc (.Assign [.Tuple [.Name x px, .Name y py] kt pt] (.Tuple [a, b] k2 pt2) pos) (.asgs [.nm i, .nm j] Es) := by
  refine ⟨fun c T k X W lc C ho => PS.imp (ps_par (C.calm hcm) (by rw [C.hN]; exact C.nd) (by rw [C.hN]; exact hi) (by rw [C.hN]; exact hj) hij (by rw [C.hsc]; exact hx) (by rw [C.hsc]; exact hy) (h.a c T k X W lc C) (sw_eq C.hsc hk hsw) (by unfold swapsWithSole; rfl)) fun D σ H hh => ?_⟩
  refine go_asgs hh fun rs vs ρ ρ' H1 O1 Oc k1 rr nb e fin => ?_
  obtain ⟨O', h1, h2⟩ := asgRs_nms (is := [i, j]) k1 rr nb e
  have hl := rr.len
  rw [asgRs_len e] at hl
  match vs, hl, h2, h1, fin with
  | [v, w], _, h2, h1, fin => exact ⟨v, w, rfl, fin _ H1 O' (Step.refl _ _) h1 h2⟩
theorem js_par3 (hcm : nm.calm = true) {i j l : Nat} {x y z : Str} {a b d : Expr} {Es : List E} {px py pz pt : Pos} {kt k2 : Nat} {pt2 pos : Pos} (hsw : swB sc [.Name x px, .Name y py, .Name z pz] [a, b, d] = some (some [x, y, z])) (hk : sc.kind = .function) (hi : N[i]? = some x) (hj : N[j]? = some y) (hl : N[l]? = some z) (hij : i ≠ j) (hil : i ≠ l) (hjl : j ≠ l)
    (hx : sc.names.lookup x = some .local) (hy : sc.names.lookup y = some .local) (hz : sc.names.lookup z = some .local) (h : JA nm N sc [a, b, d] Es) : JS nm N sc (.Assign [.Tuple [.Name x px, .Name y py, .Name z pz] kt pt] (.Tuple [a, b, d] k2 pt2) pos) (.asgs [.nm i, .nm j, .nm l] Es) := by
  refine ⟨fun c T k X W lc C ho => PS.imp (ps_par3 (C.calm hcm) (by rw [C.hN]; exact C.nd) (by rw [C.hN]; exact hi) (by rw [C.hN]; exact hj) (by rw [C.hN]; exact hl) hij hil hjl (by rw [C.hsc]; exact hx) (by rw [C.hsc]; exact hy) (by rw [C.hsc]; exact hz) (h.a c T k X W lc C) (sw_eq C.hsc hk hsw) (by unfold swapsWithSole; rfl)) fun D σ H hh => ?_⟩
  refine go_asgs hh fun rs vs ρ ρ' H1 O1 Oc k1 rr nb e fin => ?_
  obtain ⟨O', h1, h2⟩ := asgRs_nms (is := [i, j, l]) k1 rr nb e
  have hl := rr.len
  rw [asgRs_len e] at hl
  match vs, hl, h2, h1, fin with
  | [u, v, w], _, h2, h1, fin => exact ⟨u, v, w, rfl, fin _ H1 O' (Step.refl _ _) h1 h2⟩
/-- (a, b), c = x, y: by a tuple -/
theorem js_asgs (hcm : nm.calm = true) {ts es : List Expr} {ps : List Pat} {Es : List E} {n m : Nat} {p q pos : Pos} (hsw : swB sc ts es = some none) (hk : sc.kind = .function) (hz : ps.length ≤ 100) (hq : JQs nm N sc ts ps) (h : JA nm N sc es Es) : JS nm N sc (.Assign [.Tuple ts n p] (.Tuple es m q) pos) (.asgs ps Es) := by
  refine ⟨fun c T k X W lc C ho => PS.imp (ps_asg (pe_tup (h.a c T k X W lc C)) (pg_tup (C.calm hcm) (hq.g c T k X W lc C ho) (hq.n _) (hq.s _)) (by unfold swapsWithSole; rfl) (sw_eq C.hsc hk hsw) rfl) fun D σ H hh => ?_⟩
  refine go_asgs hh fun rs vs ρ ρ' H1 O1 Oc k1 rr nb e fin => ?_
  have hl := rr.len
  rw [asgRs_len e] at hl
  refine ⟨by rw [← hl]; exact Nat.le_trans hz (by decide), fun a ha => ?_⟩
  have s1 : Step H1 O1 (upd H1 a (.tup vs)) O1 := Step.new ha
  refine ⟨a, vs, rfl, .inl (.inl upd_same), hl.symm, rs, ρ, ρ', O1, Oc, k1.new ha, ?_, nb, e, fun σ' O' hO k2 => fin σ' _ O' s1 hO k2⟩
  refine RRs.later1 ?_ ?_ nb rr
  · exact s1.vwO
  · exact fun b u hb => by rw [upd_ne (ne_of_none hb ha)]; exact hb
end VL
end
section
set_option maxHeartbeats 4000000
/-! V21: lists changed. -/
namespace VL
open PySem PySem.Spec PyProof.Rows L2
variable {nm : Nm} {N : List Str} {sc : Scope}
section
variable {c : Cf} {lc : Lc} {W : WX} {ρ ρ' : Env} {σ : SS} {H H' H1 : Hp} {O O' O1 O2 Oc Oc' X : List Addr}
theorem chg_inv {i : Nat} {d : D} {f : List D → Option (List D)} (h : chg i d f ρ = some ρ') : ∃ s xs ys, ρ[i]? = some s ∧ isOwn s xs ∧ f xs = some ys ∧ ρ' = ρ.set i (ownLike s ys) ∧ ((∃ zs, s = .ln zs) → noL d = true) := by
  unfold chg at h
  cases e : ρ[i]? with
  | none => rw [e] at h; cases h
  | some s =>
    rw [e] at h
    cases s with
    | ol xs =>
      dsimp only at h
      cases hf : f xs with
      | none => rw [hf] at h; cases h
      | some ys =>
        rw [hf] at h
        cases h
        exact ⟨_, xs, ys, rfl, rfl, hf, rfl, fun ⟨_, z⟩ => by cases z⟩
    | ln xs =>
      dsimp only at h
      cases hn : noL d with
      | false => rw [hn] at h; cases h
      | true =>
        rw [hn, if_pos rfl] at h
        cases hf : f xs with
        | none => rw [hf] at h; cases h
        | some ys =>
          rw [hf] at h
          cases h
          exact ⟨_, xs, ys, rfl, rfl, hf, rfl, fun _ => rfl⟩
    | _ => cases h
theorem kp_ln {i : Nat} {s : Sl} {xs : List D} {p : Addr} {vs : List V} (k : Ok c lc ρ σ H O Oc) (hi : ρ[i]? = some s) (ho : isOwn s xs) (hp : σ[i]? = some (some (.ref p))) (hH : H p = some (.lst vs)) (hz : ∃ zs, s = .ln zs) : Kp lc.x0 lc.v0 xs vs := by
  obtain ⟨zs, rfl⟩ := hz
  obtain rfl : zs = xs := ho
  obtain ⟨vs2, q1, _, q3, _, q5⟩ := k.atLK hi
  rw [hp] at q1
  cases q1
  rw [hH] at q3
  cases q3
  exact q5
theorem Kp.set {x0 xs : List D} {v0 vs : List V} (h : Kp x0 v0 xs vs) {j : Nat} {d : D} {v : V} (hd : noL d = true) : Kp x0 v0 (xs.set j d) (vs.set j v) := fun k d' v' h1 h2 => by
  by_cases e : j = k
  · subst e
    rw [List.getElem?_set] at h1
    rw [if_pos rfl] at h1
    split at h1
    · cases h1; exact .inl hd
    · cases h1
  · rw [List.getElem?_set_ne e] at h1 h2
    exact h k d' v' h1 h2
theorem Kp.app {x0 xs : List D} {v0 vs : List V} (h : Kp x0 v0 xs vs) (hl : xs.length = vs.length) {d : D} {v : V} (hd : noL d = true) : Kp x0 v0 (xs ++ [d]) (vs ++ [v]) := fun k d' v' h1 h2 => by
  by_cases e : k < xs.length
  · rw [List.getElem?_append_left e] at h1
    rw [List.getElem?_append_left (by omega)] at h2
    exact h k d' v' h1 h2
  · rw [List.getElem?_append_right (by omega)] at h1
    cases hk : k - xs.length with
    | zero => rw [hk] at h1; cases h1; exact .inl hd
    | succ n => rw [hk] at h1; simp at h1
/-- a list of one's own, behind a value that stays -/
theorem go_own {T : Th} {E1 : E} {W : WX} {DD : Ends} {fin : D → Env → Out} (ok : Ok c lc ρ σ H O Oc) (g : GoS c lc W H O Oc (.of (ev T E1 ρ) fun r ρ1 => .of (frz r ρ1) fin) DD) {Q : V → Hp → Prop}
    (hQ : ∀ d ρ2 v H1 O2, Step H O H1 O2 → Ok c lc ρ2 σ H1 O2 Oc → Rp c (Vw H1 (O2 ++ Oc)) d v → GoS c lc W H O Oc (fin d ρ2) DD → Q v H1) : rE c lc W (den T E1).v σ H Q := by
  refine ⟨ρ, O, Oc, ok, (GoS.of [] g).imp fun v H1 ⟨r, ρ1, O1, st, ⟨pr, n⟩, g1⟩ => ?_⟩
  have pr : PR c lc ρ1 σ H1 O1 Oc r v := pr
  cases h : VL.frz r ρ1 with
  | no => rw [h] at g1; exact g1.elim
  | ex e ρ' => exact (frz_ex h).elim
  | ok d ρ2 =>
    rw [h] at g1
    obtain ⟨O2, h1, h2, h3⟩ := Ok.frz pr h
    exact hQ d ρ2 v H1 O2 (st.trans (Step.less h1)) h2 h3 g1
end
theorem js_app {x : Str} {i : Nat} {e : Expr} {E1 : E} {p apos cpos pos : Pos} (hN : N[i]? = some x) (hv : Vis sc x) (hd : (x == ("__debug__" : Str)) = false) (hcd : (x == ("__classdict__" : Str)) = false) (hline : (apos.endLine == cpos.line) = true) (h : J nm N sc e E1) :
    JS nm N sc (.Expr (.Call (.Attribute (.Name x p) "append" apos) [e] [] cpos) pos) (.app i E1) := by
  refine ⟨fun c T k X W lc C hp => ?_⟩
  have pb := pe_bm (X := X) (apos := apos) (cpos := cpos) PySem.F.plainAttrs_list PySem.F.slot_list_append PySem.F.type_list_append mt_append (pe_var (X := X) (i := i) (pos := p) (by rw [C.hN]; exact hN) (by rw [C.hsc]; exact hv) hd hcd) (pa_cons (h.je c T k X W lc C) pa_nil (starE_cons h.js)) rfl (by rw [starE_cons h.js]; rfl) hline (starE_cons h.js) rfl
  refine PS.imp (ps_expr pb rfl) fun D σ H ⟨ρ, O, Oc, ok, g⟩ => ?_
  rw [exec] at g
  cases hs : slotL i ρ with
  | none => rw [hs] at g; exact g.elim
  | some xs0 =>
    rw [hs] at g
    obtain ⟨s0, hi0, ho0⟩ := slotL_own hs
    obtain ⟨a, vs0, ha, hpO, hH0, _⟩ := ok.own hi0 ho0
    refine ⟨.ref a, ha, .inl ⟨rfl, vs0, SqL.of hH0⟩, go_own ok g fun d ρ2 v H1 O2 st k2 rp g1 => ?_⟩
    cases e : chg i d (fun xs => if xs.length < LINE then some (xs ++ [d]) else none) ρ2 with
    | none => rw [e] at g1; exact g1.elim
    | some ρ3 =>
      rw [e] at g1
      obtain ⟨s, xs, ys, hi, ho, hf, rfl, hln⟩ := chg_inv e
      obtain ⟨a', vs, ha', haO, hH, rx⟩ := k2.own hi ho
      rw [ha] at ha'
      cases ha'
      by_cases hz : xs.length < LINE
      · rw [if_pos hz] at hf
        cases hf
        obtain ⟨O3, _, st3, k3⟩ := k2.putU (ws := vs ++ [v]) hi ho ha hH haO (rx.append (.cons rp .nil)) fun z => (kp_ln k2 hi ho ha hH z).app rx.length (hln z)
        exact ⟨a, vs, v, rfl, rfl, hH, by rw [← rx.length]; exact Nat.lt_of_lt_of_le hz (by rw [sizeLine_eq]; decide), g1 σ _ O3 (st.trans st3) k3⟩
      · rw [if_neg hz] at hf; cases hf
theorem js_ext {x : Str} {i : Nat} {e : Expr} {E1 : E} {p apos cpos pos : Pos} (hN : N[i]? = some x) (hv : Vis sc x) (hd : (x == ("__debug__" : Str)) = false) (hcd : (x == ("__classdict__" : Str)) = false) (hline : (apos.endLine == cpos.line) = true) (h : J nm N sc e E1) :
    JS nm N sc (.Expr (.Call (.Attribute (.Name x p) "extend" apos) [e] [] cpos) pos) (.ext i E1) := by
  refine ⟨fun c T k X W lc C hp => ?_⟩
  have pb := pe_bm (X := X) (apos := apos) (cpos := cpos) PySem.F.plainAttrs_list PySem.F.slot_list_extend PySem.F.type_list_extend mt_extend (pe_var (X := X) (i := i) (pos := p) (by rw [C.hN]; exact hN) (by rw [C.hsc]; exact hv) hd hcd) (pa_cons (h.je c T k X W lc C) pa_nil (starE_cons h.js)) rfl (by rw [starE_cons h.js]; rfl) hline (starE_cons h.js) rfl
  refine PS.imp (ps_expr pb rfl) fun D σ H ⟨ρ, O, Oc, ok, g⟩ => ?_
  rw [exec] at g
  cases hs : slotL i ρ with
  | none => rw [hs] at g; exact g.elim
  | some xs0 =>
    rw [hs] at g
    obtain ⟨s0, hi0, ho0⟩ := slotL_own hs
    obtain ⟨a, vs0, ha, hpO, hH0, _⟩ := ok.own hi0 ho0
    refine ⟨.ref a, ha, .inl ⟨rfl, vs0, SqL.of hH0⟩, go_own ok g fun d ρ2 v H1 O2 st k2 rp g1 => ?_⟩
    cases d with
    | lst zs =>
      dsimp only at g1
      cases e : chg i (.lst zs) (fun xs => if xs.length + zs.length ≤ LINE then some (xs ++ zs) else none) ρ2 with
      | none => rw [e] at g1; exact g1.elim
      | some ρ3 =>
        rw [e] at g1
        obtain ⟨s, xs, ys, hi, ho, hf, rfl, hln⟩ := chg_inv e
        obtain ⟨a', vs, ha', haO, hH, rx⟩ := k2.own hi ho
        rw [ha] at ha'
        cases ha'
        obtain ⟨b, rfl, ws, hb, rz⟩ := rp.lstI
        by_cases hz : xs.length + zs.length ≤ LINE
        · rw [if_pos hz] at hf
          cases hf
          obtain ⟨O3, _, st3, k3⟩ := k2.putU (ws := vs ++ ws) hi ho ha hH haO (rx.append rz) fun z => by
            have := hln z
            rw [noL] at this
            cases this
          exact ⟨a, b, vs, ws, rfl, rfl, hH, le_lst (Vw.le _ _) hb, by rw [← rx.length, ← rz.length]; exact Nat.le_trans hz (by rw [sizeLine_eq]; decide), g1 σ _ O3 (st.trans st3) k3⟩
        · rw [if_neg hz] at hf; cases hf
    | _ => exact g1.elim
/-- xs[k] = e -/
theorem js_set {x : Str} {i : Nat} {e e2 : Expr} {E1 E2 : E} {p spos pos : Pos} (hN : N[i]? = some x) (hv : Vis sc x) (hd : (x == ("__debug__" : Str)) = false) (hcd : (x == ("__classdict__" : Str)) = false) (hc : noComp e = true) (hns : ∀ a b c q, e2 ≠ .Slice a b c q) (h2 : J nm N sc e2 E2) (h : J nm N sc e E1) :
    JS nm N sc (.Assign [.Subscript (.Name x p) e2 spos] e pos) (.set i E2 E1) := by
  refine ⟨fun c T k X W lc C hp => ?_⟩
  have pg := pg_sub (X := X) (pos := spos) (pe_var (X := X) (i := i) (pos := p) (by rw [C.hN]; exact hN) (by rw [C.hsc]; exact hv) hd hcd) (h2.je c T k X W lc C) set_list (by intro v; cases e2 <;> first | rfl | exact absurd rfl (hns _ _ _ _))
  refine PS.imp (ps_asg (h.je c T k X W lc C) pg (by unfold swapsWithSole; exact sw_no hc _ _ _) (by unfold swappedStores; rfl) rfl) fun D σ H ⟨ρ, O, Oc, ok, g⟩ => ?_
  rw [exec] at g
  refine go_own ok g fun d ρ2 v H1 O2 st k2 rp g1 => ?_
  cases hs : slotL i ρ2 with
  | none => rw [hs] at g1; exact g1.elim
  | some xs0 =>
    rw [hs] at g1
    obtain ⟨s0, hi0, ho0⟩ := slotL_own hs
    obtain ⟨a, vs0, ha, hpO, hH0, _⟩ := k2.own hi0 ho0
    refine ⟨.ref a, ha, ρ2, O2, Oc, k2, ?_⟩
    have g2 := GoS.step g1 st
    refine (GoS.of [] g2).imp fun y H3 ⟨r, ρ3, O3, st3, ⟨pr, n⟩, g3⟩ => ?_
    have pr : PR c lc ρ3 σ H3 O3 Oc r y := pr
    cases l1 : look ρ3 r with
    | none => rw [l1] at g3; exact g3.elim
    | some dy =>
      rw [l1] at g3
      cases dy with
      | int kk =>
        dsimp only at g3
        have ey := (pr.ok.look pr.rr l1).int
        have k3 := pend_sub pr.ok
        cases e : chg i d (fun xs => (placeOf xs.length kk).map fun j => xs.set j d) ρ3 with
        | none => rw [e] at g3; exact g3.elim
        | some ρ4 =>
          rw [e] at g3
          obtain ⟨s, xs, ys, hi, ho, hf, rfl, hln⟩ := chg_inv e
          obtain ⟨a', vs, ha', haO, hH, rx⟩ := k3.own hi ho
          rw [ha] at ha'
          cases ha'
          cases hj : placeOf xs.length kk with
          | none => rw [hj] at hf; cases hf
          | some j =>
            rw [hj] at hf
            cases hf
            obtain ⟨O4, _, st4, k4⟩ := k3.putU (ws := vs.set j v) hi ho ha hH haO (rx.set j (rp.mono st3.vwO)) fun z => (kp_ln k3 hi ho ha hH z).set (hln z)
            exact ⟨a, vs, kk, j, rfl, ey, hH, by rw [← rx.length]; exact hj, g3 σ _ O4 (st3.trans st4) k4⟩
      | _ => exact g3.elim
end VL
end
section
set_option maxHeartbeats 4000000
/-! V22: defs. -/
namespace VL
open PySem PySem.Spec PyProof.Rows L2
theorem room190 {k : Nat} {A : PySem.Around} (r : L2.Room k A) : A.units + 190 < PySem.cLine := by have := r.un; omega
variable {nm : Nm} {N : List Str} {sc : Scope}
theorem lk_cons {n : Str} {a : Str} {v : Value} {l : List (Str × Value)} : ((a, v) :: l).lookup n = if n == a then some v else l.lookup n := by
  rw [List.lookup_cons]
  cases n == a <;> rfl
theorem zip_lk : ∀ {ps : List Str} {us : List Value} {n : Str}, us.length = ps.length → n ∈ ps → ((ps.zip us).lookup n).isSome = true
  | p :: ps, u :: us, n, hl, h => by
    rw [List.zip_cons_cons, lk_cons]
    by_cases e : (n == p) = true
    · rw [if_pos e]; rfl
    · rw [if_neg e]
      refine zip_lk (by simpa using hl) ?_
      rcases List.mem_cons.mp h with z | z
      · exact absurd (by rw [z]; exact beq_self_eq_true p) e
      · exact z
  | [], _, _, _, h => by cases h
  | _ :: _, [], _, hl, _ => by simp at hl
theorem zip_fm : ∀ {ps : List Str} {us : List Value} {l : List (Str × Value)}, us.length = ps.length → ps.Nodup → (∀ p ∈ ps, l.lookup p = (ps.zip us).lookup p) → ps.filterMap (fun n => (l.lookup n).map (n, ·)) = ps.zip us
  | [], [], _, _, _, _ => rfl
  | p :: ps, u :: us, l, hl, nd, h => by
    obtain ⟨n1, n2⟩ := List.nodup_cons.mp nd
    have e : l.lookup p = some u := by
      rw [h p List.mem_cons_self, List.zip_cons_cons, lk_cons, if_pos (beq_self_eq_true p)]
    rw [List.filterMap_cons, e]
    show (p, u) :: _ = _
    rw [List.zip_cons_cons, zip_fm (l := l) (us := us) (by simpa using hl) n2 fun q hq => ?_]
    rw [h q (List.mem_cons_of_mem _ hq), List.zip_cons_cons, lk_cons, if_neg]
    intro z
    rw [beq_iff_eq] at z
    exact n1 (z ▸ hq)
  | [], _ :: _, _, hl, _, _ => by simp at hl
  | _ :: _, [], _, hl, _, _ => by simp at hl
theorem bind_plain {x qual : Str} {params : Arguments} {body : List Stmt} {scope : Scope} {kV doc pm : Value} {an : Option Addr} {cdv ct : Value} {ps : List Str} {us : List Value} (h1 : params.posonlyargs = []) (h2 : params.vararg = none) (h3 : params.kwonlyargs = []) (h4 : params.kwarg = none) (h5 : params.args.map (·.arg) = ps) (nd : ps.Nodup) (hl : us.length = ps.length) :
    bindArgs (PySem.W.fnOf x qual params body scope .none kV doc pm an cdv ct) ⟨us, []⟩ = pure (ps.zip us) := by
  have e1 : ps.filter (fun n => ((ps.zip us).lookup n).isNone) = [] := List.filter_eq_nil_iff.mpr fun n hn => by
    have := zip_lk hl hn
    cases q : (ps.zip us).lookup n with
    | none => rw [q] at this; cases this
    | some _ => simp
  have e2 := zip_fm hl nd (l := ps.zip us) fun p _ => rfl
  have e3 : ¬ ps.length < us.length := by omega
  unfold bindArgs
  simp [PySem.W.fnOf, h1, h2, h3, h4, h5, seqItems?, e3, hl]
  rw [show notAStandIn Value.none = pure () from rfl]
  rw [pure_bind]
  split
  · rename_i hc
    simp [h1, h5, e1] at hc
  · rw [e2]
/-! ### the text -/
/-- what is known of the text's names, everywhere -/
structure Glo (c : Cf) (nm : Nm) (w : World) (K : PySem.W.Frag) (mg : Str → Option Value) (sub : Nat → Nat → Bool) : Prop where
  cl : ClsF c.C K mg nm.cls nm.own sub
  con : ∀ p ∈ nm.cons, ∃ u v, mg p.1 = some u ∧ RelV v u ∧ Rp c (fun _ => none) p.2 v
  fnm : ∀ p ∈ nm.fns, mg p.1 = some (.ref (c.A p.2))
  free : ∀ x ∈ nm.free, mg x = none
  tab : ∀ p ∈ nm.tabs, ∃ d, mg p.1 = some (.ref d) ∧ (∃ es n, KDict K w d es n) ∧ ∀ z : Str, ∃ r, PySem.W.nsIn K d z = some r ∧ match tabGet z p.2 with
    | none => r = none
    | some dv => ∃ u v, r = some u ∧ RelV v u ∧ Rp c (fun _ => none) dv v
  kp : ∀ n, PySem.W.keepIn K (.ref (c.A n)) = true
/-- a def of the text, read -/
structure Dj (nm : Nm) (d : He.DefD) (fd : FD) (N ps : List Str) : Prop where
  S : FnScope N ps d.scope
  np : fd.np = ps.length
  ns : fd.ns = N.length
  io : fd.io = true → 1 ≤ fd.np
  js : JSs nm N d.scope d.body fd.body
  dfl : d.dfl = []
  kwd : d.kwd = []
  p1 : d.params.posonlyargs = []
  p2 : d.params.vararg = none
  p3 : d.params.kwonlyargs = []
  p4 : d.params.kwarg = none
  p5 : d.params.args.map (·.arg) = ps
section
variable {c : Cf} {lc : Lc} {H H' : Hp} {O O' Oc : List Addr}
theorem env_start {F : Hp} : ∀ {ds : List D} {vs : List V} (n : Nat), Rps c F ds vs → EnvR c lc F H (ds.map Sl.v ++ List.replicate n Sl.no) (vs.map some ++ List.replicate n none) []
  | [], _, 0, .nil => .nil
  | [], _, n + 1, .nil => .cons (.no none) (env_start n .nil)
  | _ :: _, _ :: _, n, .cons r t => .cons (.v r) (env_start n t)
theorem Rps.len0 {F : Hp} {ds : List D} {vs : List V} (h : Rps c F ds vs) : ds.length = vs.length := h.length
/-- at a def's entry -/
theorem start_ok {fd : FD} {N : List Str} {ds : List D} {vs : List V} {pl : Addr} {xs : List D} {vl : List V} {Z : Sl → Option V → Prop} (ar : ArgR c H Oc pl xs vl fd.io ds vs) (hl : ds.length = fd.np) (hn : fd.ns = N.length) (nd : (lentO fd.io pl ++ Oc).Nodup) (off : ∀ b ∈ Oc, ∃ u, H b = some u ∧ isOff u) (tb : LamX.Tabs c.T H) :
    Ok c ⟨Z, pl, xs, vl⟩ (start0 fd ds) (L2.start N vs) H (lentO fd.io pl) Oc ∧ vs.length = fd.np := by
  cases hio : fd.io with
  | false =>
    rw [hio] at ar nd
    have ar : Rps c (Vw H Oc) ds vs := ar
    have lv := ar.length
    refine ⟨⟨?_, nd, off, tb⟩, by omega⟩
    unfold start0 L2.start
    rw [hio]
    show EnvR c _ (Vw H ([] ++ Oc)) H (ds.map Sl.v ++ List.replicate (fd.ns - fd.np) Sl.no) (vs.map some ++ List.replicate (N.length - vs.length) none) []
    rw [hn, ← hl, ← lv]
    exact env_start _ ar
  | true =>
    rw [hio] at ar nd
    obtain ⟨ds', vs', rfl, rfl, e, r1, r2⟩ := ar
    have lv := r2.length
    have hl : ds'.length + 1 = fd.np := hl
    refine ⟨⟨?_, nd, off, tb⟩, by simp; omega⟩
    unfold start0 L2.start
    rw [hio]
    show EnvR c _ (Vw H ([pl] ++ Oc)) H (Sl.ln xs :: (ds'.map Sl.v ++ List.replicate (fd.ns - fd.np) Sl.no)) (some (.ref pl) :: (vs'.map some ++ List.replicate (N.length - (vs'.length + 1)) none)) ([pl] ++ [])
    rw [hn, ← hl, lv]
    exact .cons (.ln e r1 (Kp.refl _ _)) (env_start _ r2)
end
/-- a def's end -/
theorem end_go {c : Cf} {lc : Lc} {fd : FD} {H : Hp} {Oc : List Addr} {o : Out} {rt : Rt} {cc : D} {Q : VK} {E : XK} (hr : (match o with
    | .nx ρ => (fin fd ρ).map fun c => (Rt.v .non, c)
    | .rt r ρ => (fin fd ρ).map fun c => (r, c)
    | .ex e ρ => (fin fd ρ).map fun c => (Rt.ex e, c)
    | _ => none) = some (rt, cc))
    (h : ∀ H', Step H (lentO fd.io lc.pl) H' (lentO fd.io lc.pl) → LamX.Tabs c.T H' → FinR c H' Oc lc.pl lc.x0 lc.v0 fd.io cc → EndR c H (lentO fd.io lc.pl ++ Oc) Q E H' rt) :
    GoS c lc (fun cls d _ H => E cls d H) H (lentO fd.io lc.pl) Oc o { nx := fun _ H' => Q .non H', rt := Q } := by
  have sub : ∀ {ρ : Env} {σ : SS} {H' : Hp} {O' : List Addr} {c' : D}, fin fd ρ = some c' → Ok c lc ρ σ H' O' Oc → (∀ b ∈ lentO fd.io lc.pl, b ∈ O') ∧ FinR c H' Oc lc.pl lc.x0 lc.v0 fd.io c' := fun {ρ σ H' O' c'} hf k => by
    unfold fin at hf
    cases hio : fd.io with
    | false => exact ⟨fun b hb => by simp [lentO] at hb, trivial⟩
    | true =>
      rw [hio] at hf
      dsimp only at hf
      cases e : (List.head? ρ : Option Sl) with
      | none => rw [e] at hf; cases hf
      | some s =>
        rw [e] at hf
        cases s with
        | ln xs =>
          cases hf
          have e0 : ρ[0]? = some (.ln xs) := by rw [← List.head?_eq_getElem?]; exact e
          obtain ⟨vs, q1, q2, q3, q4, q5⟩ := k.atLK e0
          refine ⟨fun b hb => by rw [List.mem_singleton.mp hb]; exact q2, xs, vs, rfl, q3, q4.mono (Vw.sub fun b hb => ?_), q5⟩
          rcases List.mem_cons.mp hb with z | z
          · rw [z]; exact List.mem_append_left _ q2
          · exact List.mem_append_right _ z
        | _ => cases hf
  have stp : ∀ {H' : Hp} {O' : List Addr}, Step H (lentO fd.io lc.pl) H' O' → Step H (lentO fd.io lc.pl) H' (lentO fd.io lc.pl) := fun s => ⟨s.keep, s.tbl, fun b hb => .inl hb, s.there⟩
  cases o with
  | nx ρ =>
    intro σ' H' O' s k
    have hr : (fin fd ρ).map (fun c => (Rt.v .non, c)) = some (rt, cc) := hr
    cases hf : fin fd ρ with
    | none => rw [hf] at hr; cases hr
    | some c' =>
      rw [hf] at hr
      cases hr
      obtain ⟨h1, h2⟩ := sub hf k
      exact h H' (stp s) k.tabs h2 .non .non
  | rt r ρ =>
    intro v σ' H' O' s k q
    have hr : (fin fd ρ).map (fun c => (r, c)) = some (rt, cc) := hr
    cases hf : fin fd ρ with
    | none => rw [hf] at hr; cases hr
    | some c' =>
      rw [hf] at hr
      cases hr
      obtain ⟨h1, h2⟩ := sub hf k
      have hE := h H' (stp s) k.tabs h2
      have lv : ∀ X : List Addr, Le (Vw H' (X ++ (O' ++ Oc))) (Vw H' (X ++ (lentO fd.io lc.pl ++ Oc))) := fun X => Vw.sub fun b hb => by
        rcases List.mem_append.mp hb with z | z
        · exact List.mem_append_left _ z
        · rcases List.mem_append.mp z with z | z
          · exact List.mem_append_right _ (List.mem_append_left _ (h1 b z))
          · exact List.mem_append_right _ (List.mem_append_right _ z)
      cases rt with
      | v d => exact hE v (Rp.mono (lv []) q)
      | fl xs =>
        obtain ⟨p, vs, rfl, n, e, r1, z⟩ := q
        refine hE p vs ?_ e (r1.mono (lv [p]))
        rcases z with z | z
        · exact absurd (List.mem_append_left _ (h1 p z)) n
        · exact z
      | ex _ => exact q.elim
  | ex e ρ =>
    intro cls d σ' H' O' s k x
    have hr : (fin fd ρ).map (fun c => (Rt.ex e, c)) = some (rt, cc) := hr
    cases hf : fin fd ρ with
    | none => rw [hf] at hr; cases hr
    | some c' =>
      rw [hf] at hr
      cases hr
      obtain ⟨h1, h2⟩ := sub hf k
      exact h H' (stp s) k.tabs h2 cls d x
  | bk ρ => cases hr
  | ct ρ => cases hr
  | no => cases hr
def Nm.lm (nm : Nm) (b : Bool) : Nm := { nm with lam := b }
theorem Glo.lm {c : Cf} {nm : Nm} {w : World} {K : PySem.W.Frag} {mg : Str → Option Value} {sub : Nat → Nat → Bool} (G : Glo c nm w K mg sub) (b : Bool) : Glo c (nm.lm b) w K mg sub := ⟨G.cl, G.con, G.fnm, G.free, G.tab, G.kp⟩
/-- the defs that take a thunk keep their promise -/
def WdsOk (c : Cf) (nm : Nm) (P : Program) (w : World) (mg : Str → Option Value) (base : Heap) (T : Th) (k : Nat) : Prop := ∀ p ∈ nm.wds, ∃ a g Ng bg sg cdv, ∀ Y : Cx, Y.prog = P → Y.w = w → Y.K = c.K → Y.mg = mg → Y.base = base → Room (3 * k + 2) Y.A → WdAt Y p.1 a g Ng bg sg cdv (TTw c T p.2)
abbrev lamQd (qual : Str) : Str := (qual ++ Str.ofString ".<locals>.") ++ "<lambda>"
/-- a def's code and its table of code objects -/
def LamAtD (c : Cf) (qual : Str) (K : PySem.W.Frag) (mg : Str → Option Value) (base : Heap) (f : Addr) : Prop := ∃ c0 P0, (∀ (oc : Value) (od : Option Addr) (fd : FuncData) (osl : Array (Option Value)), K.lookup f = some ⟨oc, od, .func fd, osl⟩ → fd.code = .ref c0) ∧ LamX.TabB base mg c0 P0 ∧ (P0, lamQd qual) ∈ c.T ∧ ∀ p ∈ c.T, p.1 = P0 → p.2 = lamQd qual
/-- a def keeps its promise, if those that it calls do -/
theorem def_ok {c : Cf} {nm : Nm} {P : Program} {w : World} {mg : Str → Option Value} {base : Heap} {X : Tx} (G : Glo c nm w c.K mg X.sub) {k : Nat}
    (ih : ∀ f ds r, call X k f ds = some r → ∃ fdd ps, FnOk P w c.K mg base (L2.CX P w) (3 * k) (c.A f) fdd ps (spF c (th X k) f) ∧ Binds c.K fdd ps []) (ihw : WdsOk c nm P w mg base (th X k) k)
    {f : Nat} {fd : FD} {d : He.DefD} {N ps : List Str} {fdd : FuncData} (hf : X.fs[f]? = some fd) (J : Dj nm d fd N ps) (hlam : nm.lam = true → LamAtD c d.qual c.K mg base (c.A f)) (F : FunD c.K d.name d.qual d.params d.body d.scope [] [] (c.A f) fdd) :
    FnOk P w c.K mg base (L2.CX P w) (3 * (k + 1)) (c.A f) fdd ps (spF c (th X (k + 1)) f) := by
  have hio : (th X (k + 1)).io f = fd.io := by
    show ((X.fs[f]?).map (·.io)).getD false = fd.io
    rw [hf]; rfl
  have hrun : ∀ ds' r', (th X (k + 1)).fn f ds' = some r' → runF (th X k) fd ds' = some r' := fun ds' r' h' => by
    have h' : call X (k + 1) f ds' = some r' := h'
    rw [VL.call, hf] at h'
    exact h'
  have len : ∀ vs H Q E, spF c (th X (k + 1)) f vs H Q E → vs.length = ps.length := by
    rintro vs H Q E ⟨ds', pl, Oc, rt, cc, xs, vl, ar, nd, off, tb, hT, hE⟩
    have hr := hrun ds' _ hT
    unfold runF at hr
    by_cases hl : ds'.length = fd.np
    · rw [hio] at ar nd
      rw [← J.np]
      exact (start_ok (Z := fun _ _ => False) (N := N) ar hl J.ns nd off tb).2
    · rw [if_neg hl] at hr; cases hr
  obtain ⟨oc, od, dV, kV, doc, pm, an, cdv, ct, osl, efd, lk, hcd, _, _⟩ := F.ex
  subst efd
  rw [show 3 * (k + 1) = 3 * k + 2 + 1 from by omega]
  refine fn_of (k := 3 * k + 2) lk hcd J.S len fun A outer s H vs Q E room hsp => ?_
  obtain ⟨ds', pl, Oc, rt, cc, xs, vl, ar, nd, off, tb, hT, hE⟩ := hsp
  have hr := hrun ds' _ hT
  unfold runF at hr
  by_cases hl : ds'.length = fd.np
  · rw [if_pos hl] at hr
    rw [hio] at ar nd hE
    obtain ⟨ok, _⟩ := start_ok (Z := fun _ _ => False) (N := N) ar hl J.ns nd off tb
    have C : Cok c (th X k) nm k N d.scope (cxOf (L2.CX P w) P w c.K mg base N d.qual d.scope (c.A f) cdv A outer s H E) (fun cls d _ H => E cls d H) ⟨fun _ _ => False, pl, xs, vl⟩ := {
      hK := rfl
      hN := rfl
      nd := J.S.nd
      hsc := rfl
      room := fun _ => room.mono (by omega)
      room2 := fun _ => room
      lam := fun hl => by
        obtain ⟨c0, P0, hc0, h1, h2, h3⟩ := hlam hl
        have e1 := hc0 _ _ _ _ lk
        exact ⟨c0, P0, e1, h1, h2, h3⟩
      wd := ihw
      un := room190 room
      calm := fun _ => rfl
      tk := takes_of rfl rfl rfl rfl
      con := G.con
      fnm := G.fnm
      free := G.free
      tab := G.tab
      kp := G.kp
      cl := G.cl
      zex := fun _ _ _ h => h.elim
      call := ih }
    exact ⟨_, J.js.s c (th X k) k _ _ ⟨fun _ _ => False, pl, xs, vl⟩ C ⟨passes_of rfl, fun _ => rfl⟩, start0 fd ds', lentO fd.io pl, Oc, ok, end_go hr hE⟩
  · rw [if_neg hl] at hr; cases hr
/-- every def keeps its promise -/
theorem defs_ok {c : Cf} {nm : Nm} {P : Program} {w : World} {mg : Str → Option Value} {base : Heap} {X : Tx} (G : Glo c nm w c.K mg X.sub)
    (D : ∀ f fd, X.fs[f]? = some fd → (∀ T ds, runF T fd ds = none) ∨ ∃ b d N ps, Dj (nm.lm b) d fd N ps ∧ (b = true → LamAtD c d.qual c.K mg base (c.A f)) ∧ ∃ fdd, FunD c.K d.name d.qual d.params d.body d.scope [] [] (c.A f) fdd)
    (hw : ∀ k, (∀ f ds r, call X k f ds = some r → ∃ fdd ps, FnOk P w c.K mg base (L2.CX P w) (3 * k) (c.A f) fdd ps (spF c (th X k) f) ∧ Binds c.K fdd ps []) → WdsOk c nm P w mg base (th X k) k → WdsOk c nm P w mg base (th X (k + 1)) (k + 1))
    (hw0 : WdsOk c nm P w mg base (th X 0) 0) :
    ∀ k, (∀ f ds r, call X k f ds = some r → ∃ fdd ps, FnOk P w c.K mg base (L2.CX P w) (3 * k) (c.A f) fdd ps (spF c (th X k) f) ∧ Binds c.K fdd ps []) ∧ WdsOk c nm P w mg base (th X k) k := by
  intro k
  induction k with
  | zero =>
    refine ⟨fun f ds r h => ?_, hw0⟩
    rw [VL.call] at h
    cases h
  | succ k ih =>
    refine ⟨fun f ds r h => ?_, hw k ih.1 ih.2⟩
    rw [VL.call] at h
    cases hf : X.fs[f]? with
    | none => rw [hf] at h; cases h
    | some fd =>
      rw [hf] at h
      rcases D f fd hf with hn | ⟨b, d, N, ps, J, hl, fdd, F⟩
      · have h : runF (th X k) fd ds = some r := h
        rw [hn] at h
        cases h
      · exact ⟨fdd, ps, def_ok (nm := nm.lm b) (G.lm b) ih.1 ih.2 hf J hl F, F.bindsN fun kV doc pm an cdv ct us hl => bind_plain J.p1 J.p2 J.p3 J.p4 J.p5 (by
          have := J.S.nd
          rw [← J.S.pre]
          exact this.sublist (List.take_sublist _ _)) hl⟩
end VL
end
section
set_option maxHeartbeats 4000000
/-! V26: exceptions: raised, looked at; counts and places of flat items. -/
namespace VL
open PySem PySem.Spec PyProof.Rows L2
/-! ### X() -/
section
variable {X : Cx} {C : Addr} {bmB : List Value} {B newId initId : String}
theorem pmk_own0 {x : Str} {p pos : Pos} (F : ExcBaseFacts B newId initId bmB) (q : PySem.W.excIn X.K C bmB newId = true) (gC : X.mg x = some (.ref C)) (kC : PySem.W.keepIn X.K (.ref C) = true) (r : Raises X (.ref C)) (hg : Gl X x)
    (hdb : (x == ("__debug__" : Str)) = false) : PMk X (.Call (.Name x p) [] [] pos) (fun _ H Q => Q (.ref C) none H) := by
  intro pins s σ H Q I h
  refine wpAny_Call_Name_kw (ld_glob I hg gC ?_ hdb)
  refine PySem.W.callWith_K0 I.kIn kC ?_
  show wpAny _ _ (PySem.call (.ref C) []) _ _ _
  obtain ⟨bm, N, nm, qn, bs, hdct, sn, sub, ab, col, dd, k0, k1, k2, k3, k5, mN, hC, hN, hni, T⟩ := exc_obj I.kIn q
  refine wpAny_call_exc_subT F T hC hN hni (fun h' e hm => ?_) (by show 0 ≤ sizeLine; exact Nat.zero_le _)
  exact mk_of I hm r h (I.hok.gone hm.new)
end
variable {nm : Nm} {N : List Str} {sc : Scope}
theorem js_raise (hcm : nm.calm = true) {x : Str} {n : Nat} {p pos pos2 : Pos} (hm : (x, n) ∈ nm.cls) (ho : n ∈ nm.own) (hg : sc.names.lookup x = some .globalImplicit) (hd : (x == ("__debug__" : Str)) = false) : JS nm N sc (.Raise (some (.Call (.Name x p) [] [] pos)) none pos2) (.raise n) := by
  refine ⟨fun c T k X W lc C ht => PS.imp (ps_raise (C.calm hcm) C.tk (pmk_own0 PySem.F.excBase_ValueError (C.cl.own _ hm ho) (C.cl.gm _ hm) (C.cl.kp _ hm) (raises_own (C.cl.exc _ hm).hs (C.cl.ty _ hm)) (show X.env.scope.names.lookup x = _ by rw [C.hsc]; exact hg) hd)) fun D σ H ⟨ρ, O, Oc, ok, g⟩ => ?_⟩
  rw [exec] at g
  exact g (.ref (c.C n)) none σ H O (Step.refl _ _) ok ⟨rfl, rfl, rfl⟩
/-! ### isinstance(e, X) -/
def rIsx (X : Cx) (c : Cf) (lc : Lc) : List V → Hp → VK → Prop := fun xs H Q => ∃ e a, lc.Z (.ex e) (some (V.ref a)) ∧ rIsE X.K (c.C e.cls) a xs H Q
theorem cr_isx {c : Cf} {T : Th} {k : Nat} {X : Cx} {W : WX} {lc : Lc} (C : Cok c T nm k N sc X W lc) (hcm : nm.calm = false) : CallR X (.builtin "isinstance") (rIsx X c lc) := by
  intro pins s σ H vs us Q I r ⟨e, a, z, h⟩
  obtain ⟨a', ha, _, cr⟩ := C.zex hcm e _ z
  obtain rfl := V.ref.inj (Option.some.inj ha)
  exact cr pins s σ H vs us Q I r h
theorem Ok.atE {c : Cf} {lc : Lc} {ρ : Env} {σ : SS} {H : Hp} {O Oc : List Addr} {i : Nat} {e : Ex} (k : Ok c lc ρ σ H O Oc) (h : ρ[i]? = some (.ex e)) : ∃ x, σ[i]? = some x ∧ lc.Z (.ex e) x := by
  obtain ⟨x, Oi, O', h1, h2, _⟩ := k.env.split h
  cases h2 with
  | ex z => exact ⟨x, h1, z⟩
/-- isinstance(e, X), X a class of the text -/
theorem j_isx (hcm : nm.calm = false) {i : Nat} {y x : Str} {n : Nat} {p p2 p3 pos : Pos} (hN : N[i]? = some y) (hv : Vis sc y) (hdy : (y == ("__debug__" : Str)) = false) (hcy : (y == ("__classdict__" : Str)) = false)
    (hi : ("isinstance" : Str) ∈ nm.free) (hig : sc.names.lookup ("isinstance" : Str) = some .globalImplicit) (hm : (x, n) ∈ nm.cls) (hg : sc.names.lookup x = some .globalImplicit) (hd : (x == ("__debug__" : Str)) = false) :
    J nm N sc (.Call (.Name "isinstance" p) [.Name y p2, .Name x p3] [] pos) (.isx i n) := by
  have h : JE nm N sc (.Call (.Name "isinstance" p) [.Name y p2, .Name x p3] [] pos) (.isx i n) := by
    intro c T k X W lc C
    have base := pe_callB (pos := pos) (p := p) (cr_isx C hcm) (show X.env.scope.names.lookup _ = _ by rw [C.hsc]; exact hig) (C.free _ hi) (by decide +kernel) (pa_cons (pe_var (pos := p2) (i := i) (by rw [C.hN]; exact hN) (by rw [C.hsc]; exact hv) hdy hcy) (pa_cons (pe_glob (pos := p3) (v := .ref (c.C n)) (show X.env.scope.names.lookup x = _ by rw [C.hsc]; exact hg) (C.cl.gm _ hm) rfl hd) pa_nil))
    refine PE.imp base fun σ H Q ⟨ρ, O, Oc, ok, g⟩ => ?_
    rw [den] at g
    simp only [Den.of] at g
    cases e1 : ρ[i]? with
    | none => rw [e1] at g; exact g.elim
    | some s =>
      rw [e1] at g
      cases s with
      | ex e =>
        obtain ⟨x0, h1, h2⟩ := ok.atE e1
        obtain ⟨a, rfl, ⟨q, hq, hqe⟩, _⟩ := C.zex hcm e _ h2
        refine ⟨.ref a, h1, e, a, h2, .ref (c.C n), .ref (c.C n), T.sub e.cls n, rfl, fun u hu => hu, ?_, g _ H O (Step.refl _ _) ⟨⟨ok, .bl _⟩, fun b hb => by cases hb⟩⟩
        rw [← hqe]
        exact C.cl.kit _ hq _ hm
      | _ => exact g.elim
  exact ⟨h, jt_of h (fun _ => by rw [den] <;> rfl) fun _ _ => rfl, rfl⟩
/-- isinstance(e, ValueError) -/
theorem j_isxV (hcm : nm.calm = false) {i : Nat} {y : Str} {p p2 p3 pos : Pos} (hN : N[i]? = some y) (hv : Vis sc y) (hdy : (y == ("__debug__" : Str)) = false) (hcy : (y == ("__classdict__" : Str)) = false)
    (hi : ("isinstance" : Str) ∈ nm.free) (hig : sc.names.lookup ("isinstance" : Str) = some .globalImplicit) (hm : ("ValueError" : Str) ∈ nm.free) (hg : sc.names.lookup ("ValueError" : Str) = some .globalImplicit) :
    J nm N sc (.Call (.Name "isinstance" p) [.Name y p2, .Name "ValueError" p3] [] pos) (.isx i 0) := by
  have h : JE nm N sc (.Call (.Name "isinstance" p) [.Name y p2, .Name "ValueError" p3] [] pos) (.isx i 0) := by
    intro c T k X W lc C
    have base := pe_callB (pos := pos) (p := p) (cr_isx C hcm) (show X.env.scope.names.lookup _ = _ by rw [C.hsc]; exact hig) (C.free _ hi) (by decide +kernel) (pa_cons (pe_var (pos := p2) (i := i) (by rw [C.hN]; exact hN) (by rw [C.hsc]; exact hv) hdy hcy) (pa_cons (pe_bltn (pos := p3) (v := .ty "ValueError") (u := .type "ValueError") (show X.env.scope.names.lookup _ = _ by rw [C.hsc]; exact hg) (C.free _ hm) (by decide +kernel) rfl (by decide +kernel) (by decide +kernel)) pa_nil))
    refine PE.imp base fun σ H Q ⟨ρ, O, Oc, ok, g⟩ => ?_
    rw [den] at g
    simp only [Den.of] at g
    cases e1 : ρ[i]? with
    | none => rw [e1] at g; exact g.elim
    | some s =>
      rw [e1] at g
      cases s with
      | ex e =>
        obtain ⟨x0, h1, h2⟩ := ok.atE e1
        obtain ⟨a, rfl, ⟨q, hq, hqe⟩, _⟩ := C.zex hcm e _ h2
        refine ⟨.ref a, h1, e, a, h2, .ty "ValueError", .type "ValueError", T.sub e.cls 0, rfl, fun u hu => hu, ?_, g _ H O (Step.refl _ _) ⟨⟨ok, .bl _⟩, fun b hb => by cases hb⟩⟩
        rw [← hqe]
        exact C.cl.kitV _ hq
      | _ => exact g.elim
  exact ⟨h, jt_of h (fun _ => by rw [den] <;> rfl) fun _ _ => rfl, rfl⟩
/-! ### xs.count(y), xs.index(y): flat items -/
section
variable {X : Cx}
def rCntV (K : PySem.W.Frag) : V → List V → Hp → VK → Prop := fun x xs H Q => ∃ (p : Addr) (ys : List V) (y : V), x = .ref p ∧ xs = [y] ∧ SqL K H p ys ∧ flatV y = true ∧ ys.all flatV = true ∧ Q (.int (ys.countP (eqV · y) : Nat)) H
theorem count_eqU {x : V} : ∀ {xs : List V} {us : List Value}, Vals xs us → xs.all flatV = true → us.countP (eqU x) = xs.countP (eqV · x)
  | _, _, .nil, _ => rfl
  | y :: xs, u :: us, .cons r t, f => by
    rw [List.all_cons, Bool.and_eq_true] at f
    rw [List.countP_cons, List.countP_cons, eqU_of r f.1, count_eqU t f.2]
theorem mt_countV : MtR X "list.count" (rCntV X.K) := by
  intro pins s σ H x xs v us Q I rx rxs h
  obtain ⟨p, ys, y, rfl, rfl, hs, fy, fys, q⟩ := h
  cases rx
  obtain ⟨u, rfl, ru⟩ := rxs.one
  obtain ⟨its, rv, ⟨⟨cls, dd, data, sl⟩, n, ho, hc, hdn, hd⟩, hlen⟩ := I.list hs
  simp only at hc hd
  subst hc hd
  refine call_meets PySem.F.slot_list_count ⟨_, ho, rfl⟩ PySem.F.entry_list_count (PySem.F.args_list_count_2 _ _) (SeqAt.list_countAt p its.toArray n dd sl u (eqU y)) ⟨ho, fun w hw => mem_eqAt ru fy rv fys w (by simpa using hw), ?_⟩
  have ec : its.toArray.toList.countP (eqU y) = ys.countP (eqV · y) := count_eqU rv fys
  refine ⟨.int (ys.countP (eqV · y) : Nat), H, I.tok _, ⟨s.toks, ?_⟩, q⟩
  show Value.int ((its.toArray.toList.countP (eqU y) : Nat) : Int) s.toks = _
  rw [ec]
end
section
variable {c : Cf} {F H : Hp}
theorem flat_rel {d : D} {v : V} (r : Rp c F d v) (f : flat0 d = true) : flatV v = true := by
  cases r <;> first | rfl | cases f
theorem eq_rel {d e : D} {v w : V} (r : Rp c F d v) (f : flat0 d = true) (r2 : Rp c F e w) (f2 : flat0 e = true) : eqV v w = eqD d e := by
  cases r <;> first | (cases f; done) | (cases r2 <;> first | (cases f2; done) | rfl | (simp [eqV, eqD]; done))
theorem flats_rel : ∀ {ds : List D} {vs : List V}, Rps c F ds vs → ds.all flat0 = true → vs.all flatV = true
  | _, _, .nil, _ => rfl
  | _, _, .cons r t, f => by
    rw [List.all_cons, Bool.and_eq_true] at f
    rw [List.all_cons, flat_rel r f.1, flats_rel t f.2]
    rfl
theorem count_rel {e : D} {w : V} (r2 : Rp c F e w) (f2 : flat0 e = true) : ∀ {ds : List D} {vs : List V}, Rps c F ds vs → ds.all flat0 = true → vs.countP (eqV · w) = ds.countP (eqD · e)
  | _, _, .nil, _ => rfl
  | _, _, .cons r t, f => by
    rw [List.all_cons, Bool.and_eq_true] at f
    rw [List.countP_cons, List.countP_cons, eq_rel r f.1 r2 f2, count_rel r2 f2 t f.2]
theorem idx_rel {e : D} {w : V} (r2 : Rp c F e w) (f2 : flat0 e = true) : ∀ {ds : List D} {vs : List V} {j : Nat}, Rps c F ds vs → ds.all flat0 = true → idxD e ds = some j → ∃ z, vs[j]? = some z ∧ eqV z w = true ∧ ∀ m z', m < j → vs[m]? = some z' → eqV z' w = false
  | _, _, j, .nil, _, h => by cases h
  | d :: ds, v :: vs, j, .cons r t, f, h => by
    rw [List.all_cons, Bool.and_eq_true] at f
    rw [idxD] at h
    have e1 := eq_rel r f.1 r2 f2
    by_cases hq : eqD d e = true
    · rw [if_pos hq] at h
      cases h
      exact ⟨v, rfl, by rw [e1]; exact hq, fun m z' hm _ => by omega⟩
    · rw [if_neg hq] at h
      cases hi : idxD e ds with
      | none => rw [hi] at h; cases h
      | some k =>
        rw [hi] at h
        cases h
        obtain ⟨z, h1, h2, h3⟩ := idx_rel r2 f2 t f.2 hi
        refine ⟨z, by simpa using h1, h2, fun m z' hm hz => ?_⟩
        cases m with
        | zero =>
          have : v = z' := by simpa using hz
          subst this
          rw [e1]
          simpa using hq
        | succ m =>
          have hm : m + 1 < k + 1 := hm
          exact h3 m z' (by omega) (by simpa using hz)
end
end VL
end
section
set_option maxHeartbeats 4000000
/-! V26b: xs.count(y), xs.index(y) read. -/
namespace VL
open PySem PySem.Spec PyProof.Rows L2
variable {nm : Nm} {N : List Str} {sc : Scope}
def rMt (c : Cf) (m : Mt) : V → List V → Hp → VK → Prop := fun x xs H Q => ∃ F d e r v, Le F H ∧ RC c F H d x ∧ xs = [v] ∧ RC c F H e v ∧ mtop m d [e] = some (.v (.int r)) ∧ Q (.int r) H
theorem RC.flat {c : Cf} {F H : Hp} {d : D} {v : V} (h : RC c F H d v) (f : flat0 d = true) : Rp c F d v := h.rp fun ds e => by rw [e] at f; cases f
theorem mtop_inv {m : Mt} {d e : D} {r : R} (h : mtop m d [e] = some r) : ∃ xs k, d = .lst xs ∧ flat0 e = true ∧ xs.all flat0 = true ∧ r = .v (.int k) ∧ (m = .count → k = (xs.countP (eqD · e) : Nat)) ∧ (m = .index → ∃ j : Nat, idxD e xs = some j ∧ k = (j : Nat)) := by
  cases d with
  | lst xs =>
    cases m with
    | count =>
      have h : (if flat0 e && xs.all flat0 then some (R.v (.int (xs.countP (eqD · e)))) else none) = some r := h
      by_cases hf : (flat0 e && xs.all flat0) = true
      · rw [if_pos hf] at h
        rw [Bool.and_eq_true] at hf
        cases h
        exact ⟨xs, _, rfl, hf.1, hf.2, rfl, fun _ => rfl, fun z => nomatch z⟩
      · rw [if_neg hf] at h; cases h
    | index =>
      have h : (if flat0 e && xs.all flat0 then (idxD e xs).map (fun k => R.v (.int k)) else none) = some r := h
      by_cases hf : (flat0 e && xs.all flat0) = true
      · rw [if_pos hf] at h
        rw [Bool.and_eq_true] at hf
        cases hi : idxD e xs with
        | none => rw [hi] at h; cases h
        | some j =>
          rw [hi] at h
          cases h
          exact ⟨xs, _, rfl, hf.1, hf.2, rfl, (fun z => nomatch z), fun _ => ⟨j, hi, rfl⟩⟩
      · rw [if_neg hf] at h; cases h
  | _ => cases m <;> cases h
theorem mtr_count {X : Cx} {c : Cf} : MtR X "list.count" (rMt c .count) := by
  intro pins s σ H x xs v us Q I rx rxs ⟨F, d, e, r, w, l, h1, e1, h2, hm, q⟩
  subst e1
  obtain ⟨ds, k, rfl, f1, f2, hr, hc, _⟩ := mtop_inv hm
  cases hr
  obtain ⟨a, vs, rfl, ha, rs⟩ := h1.lst l
  have r2 := h2.flat f1
  refine mt_countV pins s σ H _ _ v us Q I rx rxs ⟨a, vs, w, rfl, rfl, SqL.of ha, flat_rel r2 f1, flats_rel rs f2, ?_⟩
  rw [count_rel r2 f1 rs f2, ← hc rfl]
  exact q
theorem mtr_index {X : Cx} {c : Cf} : MtR X "list.index" (rMt c .index) := by
  intro pins s σ H x xs v us Q I rx rxs ⟨F, d, e, r, w, l, h1, e1, h2, hm, q⟩
  subst e1
  obtain ⟨ds, k, rfl, f1, f2, hr, _, hx⟩ := mtop_inv hm
  cases hr
  obtain ⟨j, hj, rfl⟩ := hx rfl
  obtain ⟨a, vs, rfl, ha, rs⟩ := h1.lst l
  have r2 := h2.flat f1
  obtain ⟨z, z1, z2, z3⟩ := idx_rel r2 f1 rs f2 hj
  exact mt_index pins s σ H _ _ v us Q I rx rxs ⟨a, vs, w, j, z, rfl, rfl, SqL.of ha, flat_rel r2 f1, flats_rel rs f2, z1, z2, z3, q⟩
theorem j_mt {m : Mt} {name : Str} {id : String} {o e : Expr} {A E1 : E} {apos cpos : Pos} (slot : Slot "list" name id) (hty : typeOf (.builtin id) = pure (.type "method_descriptor")) (hmt : ∀ (X : Cx) (c : Cf), MtR X id (rMt c m)) (hbase : ∀ env : PySem.Env, attributeBase o name env (eval o env) = eval o env)
    (ho : J nm N sc o A) (h : J nm N sc e E1) (hline : (apos.endLine == cpos.line) = true) : J nm N sc (.Call (.Attribute o name apos) [e] [] cpos) (.mt m A [E1]) := by
  have hj : JE nm N sc (.Call (.Attribute o name apos) [e] [] cpos) (.mt m A [E1]) := by
    intro c T k X W lc C
    have pb := pe_bm (X := X) (apos := apos) (cpos := cpos) PySem.F.plainAttrs_list slot hty (hmt X c) (ho.je c T k X W lc C) (pa_cons (h.je c T k X W lc C) pa_nil (starE_cons h.js)) (hbase _) (by rw [starE_cons h.js]; rfl) hline (starE_cons h.js) rfl
    refine PE.imp pb fun σ H Q ⟨ρ, O, Oc, ok, g⟩ => ?_
    rw [den] at g
    simp only [Den.of] at g
    refine ⟨ρ, O, Oc, ok, (Go.bind [] g).imp fun v H1 ⟨x, ρ1, O1, st1, ⟨pr1, n1⟩, g1⟩ => ?_⟩
    have pr1 : PR c lc ρ1 σ H1 O1 Oc x v := pr1
    cases l0 : look ρ1 x with
    | none => rw [l0] at g1; exact g1.elim
    | some d0 =>
      rw [l0] at g1
      cases d0 with
      | lst xs0 =>
        have l1 := pr1.ok.look pr1.rr l0
        obtain ⟨a, vs, rfl, ha, _⟩ := l1.lst (Vw.le _ _)
        refine ⟨.inl ⟨rfl, vs, SqL.of ha⟩, ?_⟩
        rw [evs] at g1
        rw [Rs.bind_assoc] at g1
        refine ⟨ρ1, O1, pend x (.ref a) ++ Oc, pr1.ok, (Go.bind (pend x (.ref a)) g1).imp fun w H2 ⟨y, ρ2, O2, st2, ⟨pr2, n2⟩, g2⟩ => ?_⟩
        rw [evs] at g2
        simp only [Rs.bind_ok] at g2
        have rx := pr1.rr.later (Oc' := pend y w ++ (pend x (.ref a) ++ Oc)) st2 pr1.ok.dis (fun b hb => List.mem_append_right _ hb) fun b hb => by
          rcases List.mem_append.mp hb with z | z
          · exact .inr (n2 b z)
          · exact .inl z
        cases k1 : look ρ2 y with
        | none =>
          rw [show looks ρ2 [y] = none from by show (look ρ2 y).bind _ = none; rw [k1]; rfl] at g2
          exact g2.elim
        | some e2 =>
          rw [show looks ρ2 [y] = some [e2] from by show (look ρ2 y).bind _ = _; rw [k1]; rfl] at g2
          cases k2 : look ρ2 x with
          | none => rw [k2] at g2; exact g2.elim
          | some d2 =>
            rw [k2] at g2
            have g2 : Go c lc W σ H2 O2 Oc (Rs.opt ρ2 (mtop m d2 [e2])) (PV c lc σ Oc H) Q := g2
            cases hm : mtop m d2 [e2] with
            | none => rw [hm] at g2; exact g2.elim
            | some r =>
              rw [hm] at g2
              obtain ⟨ds, kk, rfl, f1, f2, rfl, _, _⟩ := mtop_inv hm
              have c1 := pr2.ok.look rx k2
              have c2 := pr2.ok.look pr2.rr k1
              exact ⟨_, _, e2, kk, w, Vw.le _ _, c1, rfl, c2, hm, g2 _ H2 O2 (Step.refl _ _) ⟨⟨pr2.ok.sub subl2, .int _⟩, fun b hb => by cases hb⟩⟩
      | _ => exact g1.elim
  exact ⟨hj, jt_of hj (fun _ => by rw [den] <;> rfl) fun _ _ => rfl, rfl⟩
end VL
end
section
set_option maxHeartbeats 4000000
/-! V27: a lambda handed to a def: its making as a Step. -/
namespace VL
open PySem PySem.Spec PyProof.Rows L2
section
variable {X : Cx} {pins : List (Addr × Obj)} {σ : L2.St} {H : Hp} {s : Shared}
abbrev lamO (X : Cx) (params : Arguments) (body : Expr) (scope : Scope) (pm : Value) (c' : Addr) (ctv : Value) : Obj := PySem.W.kla_obj "<lambda>" (lamQ X) params body scope (cloFrom X.env.cells scope.names []) pm c' ctv
/-- what is known of the function object at f -/
structure LamAt (X : Cx) (params : Arguments) (body : Expr) (scope : Scope) (f c' : Addr) (pm ctv : Value) (H1 : Hp) (s' : Shared) : Prop where
  ob : s'.heap.get? f = some (lamO X params body scope pm c' ctv)
  no : H1 f = none
  fr : f ∉ frs X.stack
  co : H1 c' = some (LamX.CodeO c' (lamQ X))
theorem step_tab {P c : Addr} {q : Str} {ps ps' : Array Value} (hP : H P = some (.tbl ps)) (nC : H c = none) : Step H [] (upd (upd H P (.tbl ps')) c (LamX.CodeO c q)) [] where
  keep := fun b u e _ t => by
    have n1 : b ≠ c := ne_of_none e nC
    have n2 : b ≠ P := fun z => by
      subst z
      rw [hP] at e
      exact t ps (Option.some.inj e).symm
    rw [upd_ne n1, upd_ne n2, e]
  tbl := fun b qs e => by
    rw [upd_ne (ne_of_none e nC)]
    by_cases z : b = P
    · subst z; exact ⟨ps', upd_same⟩
    · exact ⟨qs, by rw [upd_ne z, e]⟩
  own := fun b hb => by cases hb
  there := fun b hb => by cases hb
theorem lam_make3 {T : List (Addr × Str)} {c P : Addr} {params : Arguments} {body : Expr} {scope : Scope} {pos : Pos} {E Q : Value → Shared → Prop} (I : Inv X pins σ H s) (TB : LamX.TabB X.base X.mg c P) (hcode : X.env.code = .ref c) (hm : (P, lamQ X) ∈ T) (hu : ∀ p ∈ T, p.1 = P → p.2 = lamQ X)
    (hT : LamX.Tabs T H) (hdef : defaultsOf params X.env = ([], [])) (hfree : ∀ y ∈ scope.names, y.2 = .free → ∃ c, X.env.cells.lookup y.1 = some c)
    (h : ∀ (f c' : Addr) (pm ctv : Value) (H1 : Hp) (s' : Shared), Inv X pins σ H1 s' → Step H [] H1 [] → LamX.Tabs T H1 → LamAt X params body scope f c' pm ctv H1 s' → Q (.ref f) s') : wpAny (model X.prog X.w) X.A (eval (.Lambda params body scope pos) X.env) Q E s := by
  obtain ⟨ps, hP, ht, ha⟩ := hT _ hm
  have bP : s.heap.BuiltinsAt X.mg P := TB.bm.keeps I.bk
  have oP : s.heap.get? P = some { cls := .none, data := .fields ps } := I.hok P _ hP
  have nfr : ∀ f, s.heap.objs.size ≤ f → f ∉ frs X.stack := fun f hf z => (List.mem_cons.mp (I.stkSub _ z)).elim (fun e => by
    have h1 := I.lt
    rw [← e] at h1
    exact Nat.lt_irrefl _ (Nat.lt_of_lt_of_le h1 hf)) (I.nofs hf)
  refine PySem.W.kla_eval hdef ?_
  cases hc : codeAmong pos ps.toList with
  | some cv =>
    obtain ⟨c', rfl, hco⟩ := ha pos cv hc
    refine PySem.W.kla_makeFunctionHit (mg := X.mg) (c := c) (P := P) (ps := ps) (closure_ok hfree) I.ok.glob (I.mod.glob.keeps I.bk) hcode (TB.code.keeps I.bk) oP ht hc bP fun ctv h' tk hx hsz => ?_
    exact h h'.objs.size c' _ ctv H _ (I.kept fun b o e => Heap.get?_push_of_some _ (hx b o e)) (Step.refl _ _) hT ⟨Heap.get?_push_size _ rfl, I.hok.fresh hsz, nfr _ hsz, hco⟩
  | none =>
    refine PySem.W.kla_makeFunction (mg := X.mg) (c := c) (P := P) (ps := ps) (closure_ok hfree) I.ok.glob (I.mod.glob.keeps I.bk) hcode (TB.code.keeps I.bk) oP ht hc TB.gP bP fun c' ctv h' tk hx hge hlt hrec htb => ?_
    obtain ⟨c2, oc, vs, t, e2, hoc, hd, hv⟩ := hrec
    cases e2
    have hsz : s.heap.objs.size ≤ h'.objs.size := by omega
    have nC : H c' = none := I.hok.fresh hge
    have st : Step H [] (upd (upd H P (.tbl (ps ++ #[rawInt pos.line, rawInt pos.col, .ref c']))) c' (LamX.CodeO c' (lamQ X))) [] := step_tab hP nC
    have kq : ∀ c0, H c0 = some (LamX.CodeO c0 (lamQ X)) → upd (upd H P (.tbl (ps ++ #[rawInt pos.line, rawInt pos.col, .ref c']))) c' (LamX.CodeO c' (lamQ X)) c0 = some (LamX.CodeO c0 (lamQ X)) := fun c0 e => st.keep _ _ e (by simp) LamX.codeO_ne
    refine h h'.objs.size c' ((X.mg "__name__").getD .none) ctv _ _ (LamX.inv_table (t' := tk) (more := #[rawInt pos.line, rawInt pos.col, .ref c']) (h' := h'.push (lamO X params body scope ((X.mg "__name__").getD .none) c' ctv)) I hP (fun b o hb e => Heap.get?_push_of_some _ (hx b o hb e)) (Heap.get?_push_of_some _ htb) hge
      ⟨oc, vs, t, Heap.get?_push_of_some _ hoc, hd, hv⟩) st (fun p hp => ?_) ⟨Heap.get?_push_size _ rfl, ?_, nfr _ hsz, upd_same⟩
    · by_cases hb : p.1 = P
      · rw [hu p hp hb, hb]
        have eL : (ps ++ #[rawInt pos.line, rawInt pos.col, .ref c']).toList = ps.toList ++ [rawInt pos.line, rawInt pos.col, .ref c'] := by simp
        refine ⟨ps ++ #[rawInt pos.line, rawInt pos.col, .ref c'], by rw [upd_ne (ne_of_none hP nC)]; exact upd_same, by rw [eL]; exact PySem.TriplesOk_snoc _ _ _ _ ht, fun p' cv hcv => ?_⟩
        rw [eL] at hcv
        rcases LamX.among_app _ ht hcv with z | z
        · obtain ⟨c0, e1, e2⟩ := ha p' cv z
          exact ⟨c0, e1, kq c0 e2⟩
        · exact ⟨c', z, upd_same⟩
      · obtain ⟨ps', a1, a2, a3⟩ := hT p hp
        refine ⟨ps', by rw [upd_ne (ne_of_none a1 nC), upd_ne hb, a1], a2, fun p' cv hcv => ?_⟩
        obtain ⟨c0, e1, e2⟩ := a3 p' cv hcv
        exact ⟨c0, e1, st.keep _ _ e2 (by simp) LamX.codeO_ne⟩
    · rw [upd_ne (Nat.ne_of_gt hlt), upd_ne (Nat.ne_of_gt (Nat.lt_of_lt_of_le (Heap.lt_size oP) hsz))]
      exact I.hok.fresh hsz
end
end VL
end
section
set_option maxHeartbeats 4000000
/-! V28: x(lambda: e); try, except as e. -/
namespace VL
open PySem PySem.Spec PyProof.Rows L2
variable {nm : Nm} {N : List Str} {sc : Scope}
def tLam3 (T : List (Addr × Str)) (TT : TlT → Hp → VK → Prop) (t : XK → TE) : TE := fun σ H Q => LamX.Tabs T H ∧ ∀ H1, Step H [] H1 [] → LamX.Tabs T H1 → TT (fun E H' Q' => t E σ H' Q') H1 Q
theorem pe_lamcall3 {X : Cx} {T : List (Addr × Str)} {TT : TlT → Hp → VK → Prop} {x a : Str} {g c P : Addr} {k : Nat} {bg : List Stmt} {sg : Scope} {cdv : Value} {Ng : List Str} {params : Arguments} {body : Expr} {scope : Scope} {t : XK → TE} {p lpos pos : Pos}
    (hg : Gl X x) (G : WdAt X x a g Ng bg sg cdv TT) (TB : LamX.TabB X.base X.mg c P) (hcode : X.env.code = .ref c) (hmT : (P, lamQ X) ∈ T) (hu : ∀ p ∈ T, p.1 = P → p.2 = lamQ X) (hr : Room (k + 2) X.A) (L : LamX.LamS X.env.scope scope) (hdef : defaultsOf params X.env = ([], []))
    (hbind : ∀ (q : Str) (cl : List (Str × Addr)) (pm cv ctv : Value), bindArgs (PySem.W.kla_fn "<lambda>" q params body scope cl pm cv ctv) ⟨[], []⟩ = pure [])
    (hbody : ∀ (A : Around) (outer : List PySem.Env) (s : Shared) (H : Hp) (E : XK) (f c' : Addr), Room k (A.deeper (LamX.lamEnv X scope s.heap.objs.size f c')) → PE (LamX.lamCx X A outer s H E scope f c') body (t E))
    (hdb : (x == ("__debug__" : Str)) = false) :
    PE X (.Call (.Name x p) [.Lambda params body scope lpos] [] pos) (tLam3 T TT t) := by
  refine ⟨fun pins s σ H Q I ⟨hT, h⟩ => ?_⟩
  obtain ⟨oc, od, pg, dV, kV, doc, pm0, ct, an, osl, lk, hb⟩ := G.lk
  refine wpAny_Call_Name_kw (ld_glob I hg G.gm ?_ hdb)
  refine PySem.W.callWith_K (h₀ := X.base) I.ok.mod.kin G.kp ?_ (by rfl) (by rfl)
  show wpAny _ _ (spliced ((false, eval (.Lambda params body scope lpos) X.env) :: backTo pos (starEach [] X.env))) _ _ s
  refine Calls.spliced_cons (lam_make3 I TB hcode hmT hu hT hdef (L.has I.ok) fun f c' pm' ctv H1 s' I1 st T1 A1 => ?_)
  refine Calls.spliced_nil ⟨I1.kIn, ?_⟩
  have rc : codeAny (model X.prog X.w) X.A (.call (.ref g) ⟨[.ref f], []⟩) (CR C8.CX0 X.stack X.prog X.w H1 s' Q C8.E0) s' := by
    refine LamX.run_ofS (N := Ng) (ps := [a]) (us := [.ref f]) (vs := [.ref f]) lk G.cd G.S hr I1.env0 (hb s' [.ref f] I1.kIn rfl) (.cons rfl .nil) rfl fun hr' => ?_
    obtain ⟨t', ht', hq'⟩ := G.gives f c' s' H1 Q (fun E H' Q' => t E σ H' Q') (fun W pn xe E p1 p2 tk hW => LamX.pe_act (i := 0) I1 L A1.ob A1.no A1.fr (hbind _ _ _ _ _) tk hW hr' (fun A outer s H hr2 => hbody A outer s H E f c' hr2) G.n0 G.va G.d1 G.d2) A1.co (h H1 st T1)
    exact ⟨t', ht'.nox, hq'⟩
  refine wpAny_call (codeAny_mono rc fun r s2 hq => ?_)
  cases r with
  | error e => exact (show False from hq).elim
  | ok fl =>
    cases fl with
    | ret u => exact I1.after hq
    | next => exact False.elim hq
    | brk => exact False.elim hq
    | cont => exact False.elim hq
/-! ### the except suite -/
def Nm.sui (nm : Nm) : Nm := { nm with calm := false, lam := false }
abbrev lcE1 (lc : Lc) (e : Ex) (a : Addr) : Lc := ⟨fun s x => s = .ex e ∧ x = some (V.ref a), lc.pl, lc.x0, lc.v0⟩
theorem Cok.suite {c : Cf} {T : Th} {k : Nat} {X : Cx} {W : WX} {lc lc2 : Lc} (C : Cok c T nm k N sc X W lc) {a : Addr} {oe : Obj} {pn : List (Addr × Obj)} {e : Ex} (hz : Zc (.ref (c.C e.cls)) none oe) (hf : ∃ vs, oe.data = .fields vs) (hk : ∃ p ∈ nm.cls, p.2 = e.cls) :
    Cok c T nm.sui k N sc (X.suite a ((a, oe) :: pn)) (fun _ _ _ _ => False) (lcE1 lc2 e a) where
  hK := C.hK
  hN := C.hN
  nd := C.nd
  hsc := C.hsc
  room := fun h => by cases h
  room2 := fun h => by cases h
  lam := fun h => by cases h
  wd := C.wd
  un := C.un
  calm := fun h => by cases h
  tk := LamX.takes0
  con := C.con
  fnm := C.fnm
  free := C.free
  tab := C.tab
  kp := C.kp
  cl := C.cl
  zex := fun _ e' x ⟨h1, h2⟩ => by
    cases h1
    obtain ⟨p, hp, hpe⟩ := hk
    refine ⟨a, h2, ⟨p, hp, hpe⟩, ?_⟩
    rw [← hpe] at hz ⊢
    exact call_isE (C.cl.exc _ hp) hz hf
  call := C.call
theorem env_no {c : Cf} {lc : Lc} {F H : Hp} : ∀ (n : Nat) {σ : SS}, σ.length = n → EnvR c lc F H (List.replicate n Sl.no) σ []
  | 0, [], _ => .nil
  | n + 1, x :: σ, h => .cons (.no x) (env_no n (Nat.succ.inj h))
theorem suite_start {c : Cf} {lc : Lc} {H : Hp} {Oc : List Addr} {σ : SS} {i n : Nat} {e : Ex} {a : Addr} (h : OffOk c H Oc) (hl : σ.length = n) (hi : i < n) : Ok c (lcE1 lc e a) ((List.replicate n Sl.no).set i (.ex e)) (σ.set i (some (V.ref a))) H [] Oc := by
  have e0 := env_no (c := c) (lc := lcE1 lc e a) (F := Vw H ([] ++ Oc)) (H := H) n hl
  have hs : (List.replicate n Sl.no)[i]? = some .no := by simp [hi]
  obtain ⟨x, Oi, O', h1, h2, h3, h4⟩ := e0.split hs
  obtain ⟨O2, k1, k2⟩ := h4 _ H (Le.refl _) (fun b _ => rfl) (.ex e) (some (V.ref a)) [] (.ex ⟨rfl, rfl⟩)
  have hO : O' = [] := by
    have := h3.length_eq
    simp only [List.length_nil, List.length_append] at this
    exact List.length_eq_zero_iff.mp (by omega)
  subst hO
  have hO2 : O2 = [] := by simpa using k2
  subst hO2
  exact ⟨k1, h.nd, h.off, h.tabs⟩
end VL
end
section
set_option maxHeartbeats 4000000
/-! V29: the def that tries what it got. -/
namespace VL
open PySem PySem.Spec PyProof.Rows L2
variable {nm : Nm} {N : List Str} {sc : Scope}
/-- what an except suite asks -/
def SuW (c : Cf) (T : Th) (lc : Lc) (n i cn : Nat) (Hs : List S) (D : Ends) (e : Ex) (H : Hp) : Prop := T.sub e.cls cn = true ∧ ∃ Oc, OffOk c H Oc ∧ ∀ a, GoS c (lcE1 lc e a) (fun _ _ _ _ => False) H [] Oc (execs T Hs ((List.replicate n Sl.no).set i (.ex e))) D
abbrev dAs (i : Nat) (D : Ends) : Ends := { nx := fun σ' H' => D.nx (σ'.set i none) H', rt := D.rt, bk := fun σ' H' => D.bk (σ'.set i none) H', ct := fun σ' H' => D.ct (σ'.set i none) H' }
theorem ps_try_w {X : Cx} {c : Cf} {T : Th} {k : Nat} {W : WX} {lc : Lc} (C : Cok c T nm k N sc X W lc) (hfn : ∀ x, X.fn x = true) (hst : X.stack = X.env :: X.outer) (hfr : X.env.frame = some X.env.locals) {x n a : Str} {cn i : Nat} {b0 : Stmt} {su : List Stmt} {Hs : List S} {p1 p2 p3 np pos pos' : Pos}
    (hi : N[i]? = some n) (hln : sc.names.lookup n = some .local) (hm : (x, cn) ∈ nm.cls) (hg : sc.names.lookup x = some .globalImplicit) (hd : (x == ("__debug__" : Str)) = false) (hsu : JSs nm.sui N sc (b0 :: su) Hs) {f c' : Addr} {q : Str} {tl : TlT}
    (act : ∀ (W : WX) (pn : List (Addr × Obj)) (xe : Value → Shared → Prop) (E : XK) (p1 p2 : Pos), Takes (X.tr pn xe) W → (∀ cls d σ' H', E cls d H' → W cls d σ' H') → PE (X.tr pn xe) (.Call (.Name a p1) [] [] p2) (fun σZ HZ Q => σZ[0]? = some (some (.ref f)) ∧ HZ c' = some (LamX.CodeO c' q) ∧ tl E HZ Q)) :
    PS X (.Try [.Expr (.Call (.Name a p1) [] [] p2) p3] [.ExceptHandler (some (.Name x np)) (some n) (b0 :: su) pos'] [] [] pos)
      (fun D σ H => σ[0]? = some (some (.ref f)) ∧ H c' = some (LamX.CodeO c' q) ∧ ∃ E : XK, (∀ cls d H', E cls d H' → ∃ e, XR c e cls d ∧ SuW c T lc N.length i cn Hs (dAs i D) e H') ∧ tl E H (fun _ H' => D.nx σ H')) := by
  have hin : i < N.length := (List.getElem?_eq_some_iff.mp hi).1
  refine PS.imp (ps_try_as (i := i) (c := .ref (c.C cn)) (Wout := fun _ _ _ _ => False)
    (tb := fun W D σ H => ∃ E : XK, (∀ cls d σ' H', E cls d H' → W cls d σ' H') ∧ σ[0]? = some (some (.ref f)) ∧ H c' = some (LamX.CodeO c' q) ∧ tl E H (fun _ H' => D.nx σ H'))
    (ts := fun a cls d D σ H => ∃ e, XR c e cls d ∧ (∃ p ∈ nm.cls, p.2 = e.cls) ∧ (σ.length = N.length → rS c (lcE1 lc e a) (fun _ _ _ _ => False) (execs T Hs) D σ H))
    hst hfr (by rw [C.hN]; exact C.nd) (by rw [C.hN]; exact hi) (show X.env.scope.names.lookup n = _ by rw [C.hsc]; exact hln) ⟨show X.env.scope.names.lookup x = _ by rw [C.hsc]; exact hg, hd, .inl (C.cl.gm _ hm)⟩ LamX.takes0 (fun W pn xe tk _ => ?_) (fun a oe cls d pn hz hf => ?_)) fun D σ H ⟨h1, h2, E, hE, ht⟩ => ?_
  · refine ⟨fun pins s' σ H' D I h' => ?_⟩
    obtain ⟨E, hW, h1, h2, h3⟩ := h'
    exact (pss_one (ps_expr (pos := p3) (act W pn xe E p1 p2 tk hW) rfl)).run pins s' σ H' D I ⟨h1, h2, h3⟩
  · refine ⟨fun pins s' σ H' D I ⟨e, ⟨x1, x2, x3⟩, hk, h'⟩ => ?_⟩
    subst x1 x3
    have C2 := C.suite (lc2 := lc) (pn := pn) (a := a) (oe := oe) hz hf hk
    have hl : σ.length = N.length := by
      have := I.len
      rw [this]
      show X.N.length = _
      rw [C.hN]
    exact (hsu.s c T k _ _ _ C2 ⟨PassesOwn.never, hfn⟩).run pins s' σ H' D I (h' hl)
  · refine ⟨E, fun cls d σ' H' he => ?_, h1, h2, ht⟩
    obtain ⟨e, xr, hs, Oc, off, g⟩ := hE cls d H' he
    obtain ⟨p, hp, hpe⟩ := C.cl.known _ _ hs
    refine ⟨true, ?_, fun _ a _ => ⟨e, xr, ⟨p, hp, hpe⟩, fun hl => ?_⟩, fun z => by cases z⟩
    · have := C.cl.exm _ hp _ hm
      rw [hpe, hs] at this
      rw [xr.1]
      exact this
    · have hl' : σ'.length = N.length := by simpa using hl
      exact ⟨_, [], Oc, suite_start off hl' hin, g a⟩
end VL
end
section
set_option maxHeartbeats 4000000
/-! V30: x(lambda: e) read; the def that takes it keeps its promise. -/
namespace VL
open PySem PySem.Spec PyProof.Rows L2
variable {nm : Nm} {N : List Str} {sc : Scope}
theorem Cok.lamb {c : Cf} {T : Th} {k : Nat} {X : Cx} {W : WX} {lc : Lc} (C : Cok c T nm k N sc X W lc) (hcm : nm.calm = true) {A : Around} {outer : List PySem.Env} {s : Shared} {H : Hp} {E : XK} {scope : Scope} {f c' : Addr} (hr : Room (3 * k) (A.deeper (LamX.lamEnv X scope s.heap.objs.size f c'))) :
    Cok c T (nm.lm false) k N scope (LamX.lamCx X A outer s H E scope f c') (fun cls d _ H => E cls d H) lc where
  hK := C.hK
  hN := C.hN
  nd := C.nd
  hsc := rfl
  room := fun _ => hr
  room2 := fun h => by cases h
  lam := fun h => by cases h
  wd := C.wd
  un := room190 hr
  calm := fun _ => rfl
  tk := takes_of rfl rfl rfl rfl
  con := C.con
  fnm := C.fnm
  free := C.free
  tab := C.tab
  kp := C.kp
  cl := C.cl
  zex := fun h => by
    have h : nm.calm = false := h
    rw [hcm] at h
    cases h
  call := C.call
theorem Ok.offOk {c : Cf} {lc : Lc} {ρ : Env} {σ : SS} {H : Hp} {O Oc : List Addr} (k : Ok c lc ρ σ H O Oc) : OffOk c H (O ++ Oc) := ⟨k.nd, fun b hb => by
  rcases List.mem_append.mp hb with z | z
  · obtain ⟨vs, e⟩ := k.env.ofO b z
    exact ⟨_, e, trivial⟩
  · exact k.off b z, k.tabs⟩
theorem j_word (hcm : nm.calm = true) (hlm : nm.lam = true) {x : Str} {f : Nat} {params : Arguments} {body : Expr} {scope : Scope} {E1 : E} {p lpos pos : Pos} (hm : (x, f) ∈ nm.wds) (hg : sc.names.lookup x = some .globalImplicit) (hd : (x == ("__debug__" : Str)) = false)
    (L : LamX.LamS sc scope) (hdef : ∀ env : PySem.Env, defaultsOf params env = ([], [])) (hbind : ∀ (q : Str) (cl : List (Str × Addr)) (pm cv ctv : Value), bindArgs (PySem.W.kla_fn "<lambda>" q params body scope cl pm cv ctv) ⟨[], []⟩ = pure [])
    (h : J (nm.lm false) N scope body E1) : J nm N sc (.Call (.Name x p) [.Lambda params body scope lpos] [] pos) (.word f E1) := by
  have hj : JE nm N sc (.Call (.Name x p) [.Lambda params body scope lpos] [] pos) (.word f E1) := by
    intro c T k X W lc C
    obtain ⟨a, g, Ng, bg, sg, cdv, hw⟩ := C.wd _ hm
    have hr := C.room2 hlm
    obtain ⟨c0, P, h1, h2, h3, h4⟩ := C.lam hlm
    have base := pe_lamcall3 (p := p) (lpos := lpos) (pos := pos) (t := fun E => rE c lc (fun cls d _ H => E cls d H) (den T E1).v) (show X.env.scope.names.lookup x = _ by rw [C.hsc]; exact hg) (hw X rfl rfl rfl rfl rfl hr) h2 h1 h3 h4 hr (by rw [C.hsc]; exact L) (hdef _) hbind
      (fun A outer s H E f c' hr => h.je c T k _ _ lc (C.lamb hcm hr)) hd
    refine PE.imp base fun σ H Q ⟨ρ, O, Oc, ok, g⟩ => ⟨ok.tabs, fun H1 st T1 => ?_⟩
    rw [den] at g
    simp only [Den.of] at g
    have stO : Step H O H1 O := st.wide ok.env.ofO
    have ok1 := ok.after st T1
    cases e1 : (den T E1).v ρ with
    | no => rw [e1] at g; exact g.elim
    | ok r ρ1 =>
      rw [e1] at g
      cases e2 : T.wd f none with
      | none => rw [e2] at g; exact g.elim
      | some d =>
        rw [e2] at g
        refine ⟨none, d, e2, fun E Q' hE hQ => ⟨ρ, O, Oc, ok1, ?_⟩⟩
        rw [e1]
        intro v H' O' st2 pv
        have k1 : Ok c lc ρ1 σ H' O' Oc := pend_sub pv.1.ok
        refine hQ v H' rfl ⟨O' ++ Oc, k1.offOk, fun u H'' st3 T3 rp => ?_⟩
        exact g u H'' O' ((stO.trans st2).trans (st3.wide k1.env.ofO)) ⟨⟨k1.after st3 T3, rp⟩, fun b hb => by cases hb⟩
    | ex e ρ1 =>
      rw [e1] at g
      have g : Go c lc W σ H O Oc (match T.wd f (some e) with | some d => Rs.ok (R.v d) ρ1 | none => Rs.no) (PV c lc σ Oc H) Q := g
      cases e2 : T.wd f (some e) with
      | none => rw [e2] at g; exact g.elim
      | some d =>
        rw [e2] at g
        refine ⟨some e, d, e2, fun E Q' hE hQ => ⟨ρ, O, Oc, ok1, ?_⟩⟩
        rw [e1]
        intro cls dd H' O' st2 k1 xr
        refine hE cls dd H' ⟨e, rfl, xr, O' ++ Oc, k1.offOk, fun u H'' st3 T3 rp => ?_⟩
        exact g u H'' O' ((stO.trans st2).trans (st3.wide k1.env.ofO)) ⟨⟨k1.after st3 T3, rp⟩, fun b hb => by cases hb⟩
  exact ⟨hj, jt_of hj (fun _ => by rw [den] <;> rfl) fun _ _ => rfl, rfl⟩
end VL
end
section
set_option maxHeartbeats 4000000
/-! V31: the def that tries what it got keeps its promise. -/
namespace VL
open PySem PySem.Spec PyProof.Rows L2
variable {nm : Nm} {N : List Str} {sc : Scope}
abbrev W0 : WX := fun _ _ _ _ => False
/-- try: a() / except x as n: .. -/
def TryJ (nm : Nm) (N : List Str) (sc : Scope) (a : Str) (st : Stmt) (i cn : Nat) (Hs : List S) : Prop := ∃ x n b0 su p1 p2 p3 np pos' pos, st = .Try [.Expr (.Call (.Name a p1) [] [] p2) p3] [.ExceptHandler (some (.Name x np)) (some n) (b0 :: su) pos'] [] [] pos ∧ N[i]? = some n ∧ sc.names.lookup n = some .local ∧ (x, cn) ∈ nm.cls ∧ sc.names.lookup x = some .globalImplicit ∧ (x == ("__debug__" : Str)) = false ∧ JSs nm.sui N sc (b0 :: su) Hs
/-- y = "..", perhaps; the try; what follows -/
inductive WdJ (nm : Nm) (N : List Str) (sc : Scope) (a : Str) : List Stmt → List S → Prop
  | go {st : Stmt} {post : List Stmt} {i cn : Nat} {Hs postS : List S} : TryJ nm N sc a st i cn Hs → JSs nm N sc post postS → WdJ nm N sc a (st :: post) (.tryw i cn Hs :: postS)
  | set {y z : Str} {j jj : Nat} {py pc pp : Pos} {st : Stmt} {post : List Stmt} {i cn : Nat} {Hs postS : List S} : N[j]? = some y → j ≠ 0 → sc.names.lookup y = some .local → PyData.strOk z = true → TryJ nm N sc a st i cn Hs → JSs nm N sc post postS → WdJ nm N sc a (.Assign [.Name y py] (.Constant (.str z) jj pc) pp :: st :: post) (.asg (.nm j) (.con (.str z)) :: .tryw i cn Hs :: postS)
section
variable {c : Cf} {T : Th} {k : Nat} {d : D} {Q : VK} {postS : List S}
abbrev D0 (Q : VK) : Ends := { nx := fun _ H' => Q .non H', rt := Q }
def tPost (c : Cf) (T : Th) (postS : List S) : TS := fun D σ H => ∃ lc, rS c lc W0 (execs T postS) D σ H
theorem pss_post {X : Cx} {post : List Stmt} (hC : ∀ lc, Cok c T nm k N sc X W0 lc) (ho : Top X) (h : JSs nm N sc post postS) : PSs X post (tPost c T postS) :=
  ⟨fun pins s σ H D I ⟨lc, h'⟩ => (h.s c T k X W0 lc (hC lc) ho).run pins s σ H D I h'⟩
theorem Step.nil {H H' : Hp} {O' : List Addr} (h : Step H [] H' O') : Step H [] H' [] := ⟨h.keep, h.tbl, (fun b hb => by cases hb), (fun b hb => by cases hb)⟩
/-- what is handed back, behind the thunk's end at H' -/
theorem end_rst {lc : Lc} {H' H1 : Hp} {O Oc : List Addr} {ρ : Env} {D : Ends} (hD : D.rt = Q) (hr : ∀ v H'', Step H' [] H'' [] → LamX.Tabs c.T H'' → Rp c (Vw H'' Oc) d v → Q v H'') (st : Step H' [] H1 O) : GoS c lc W0 H1 O Oc (.rt (.v d) ρ) D := by
  intro v σ' H'' O' st2 ok rt
  rw [hD]
  have rt : Rp c (Vw H'' (O' ++ Oc)) d v := rt
  exact hr v H'' (st.trans st2).nil ok.tabs (rt.mono (Vw.sub fun b hb => List.mem_append_right _ hb))
theorem ok_no {lc : Lc} {H : Hp} {Oc : List Addr} {σ : SS} {n : Nat} (h : OffOk c H Oc) (hl : σ.length = n) : Ok c lc (List.replicate n Sl.no) σ H [] Oc := ⟨env_no n hl, h.nd, h.off, h.tabs⟩
theorem ok_set {lc : Lc} {H : Hp} {Oc : List Addr} {σ : SS} {n j : Nat} {z : Str} (h : OffOk c H Oc) (hl : σ.length = n) (hj : j < n) (hz : PyData.strOk z = true) : Ok c lc ((List.replicate n Sl.no).set j (.v (.str z))) (σ.set j (some (.str z))) H [] Oc := by
  have e0 := env_no (c := c) (lc := lc) (F := Vw H ([] ++ Oc)) (H := H) n hl
  have hs : (List.replicate n Sl.no)[j]? = some .no := by simp [hj]
  obtain ⟨x, Oi, O', h1, h2, h3, h4⟩ := e0.split hs
  obtain ⟨O2, k1, k2⟩ := h4 _ H (Le.refl _) (fun b _ => rfl) (.v (.str z)) (some (.str z)) [] (.v (.str hz))
  have hO : O' = [] := by
    have := h3.length_eq
    simp only [List.length_nil, List.length_append] at this
    exact List.length_eq_zero_iff.mp (by omega)
  subst hO
  have hO2 : O2 = [] := by simpa using k2
  subst hO2
  exact ⟨k1, h.nd, h.off, h.tabs⟩
/-- the suite, then what follows -/
theorem suite_go {lc : Lc} {e : Ex} {a : Addr} {i n : Nat} {Hs : List S} {H' : Hp} {Oc : List Addr} {ρ9 : Env} (hr : ∀ v H'', Step H' [] H'' [] → LamX.Tabs c.T H'' → Rp c (Vw H'' Oc) d v → Q v H'')
    (hx : ((clr i (execs T Hs ((List.replicate n Sl.no).set i (.ex e)))).seq (execs T postS)) = .rt (.v d) ρ9) : GoS c (lcE1 lc e a) W0 H' [] Oc (execs T Hs ((List.replicate n Sl.no).set i (.ex e))) (dAs i { D0 Q with nx := tPost c T postS (D0 Q) }) := by
  cases h : execs T Hs ((List.replicate n Sl.no).set i (.ex e)) with
  | rt r ρ =>
    rw [h] at hx
    have hx : Out.rt r (ρ.set i .no) = .rt (.v d) ρ9 := hx
    cases hx
    exact end_rst rfl hr (Step.refl _ _)
  | nx ρ =>
    rw [h] at hx
    have hx : execs T postS (ρ.set i .no) = .rt (.v d) ρ9 := hx
    intro σ' H'' O' st ok
    show tPost c T postS (D0 Q) (σ'.set i none) H''
    by_cases hi : i < ρ.length
    · obtain ⟨x, Oi, Or, h1, h2, h3, h4⟩ := ok.env.split (List.getElem?_eq_getElem hi)
      obtain ⟨O2, k1, k2⟩ := h4 _ H'' (Le.refl _) (fun b _ => rfl) .no none [] (.no none)
      have sub2 : ∀ b ∈ O2, b ∈ O' := fun b hb => h3.mem_iff.mpr (List.mem_append_right _ (by simpa using k2.mem_iff.mp hb))
      have le2 : Le (Vw H'' (O' ++ Oc)) (Vw H'' (O2 ++ Oc)) := Vw.sub fun b hb => by
        rcases List.mem_append.mp hb with z | z
        · exact List.mem_append_left _ (sub2 b z)
        · exact List.mem_append_right _ z
      have nd2 : (O2 ++ Oc).Nodup := by
        have h5 : O2.Perm Or := by simpa using k2
        have h6 : (Oi ++ Or ++ Oc).Nodup := (List.Perm.append_right Oc h3).nodup_iff.mp ok.nd
        have h7 : (Or ++ Oc).Nodup := by
          rw [List.append_assoc] at h6
          exact (List.nodup_append.mp h6).2.1
        exact (List.Perm.append_right Oc h5).nodup_iff.mpr h7
      refine ⟨lcE1 lc e a, ρ.set i .no, O2, Oc, ⟨k1.mono le2 (fun b _ => rfl), nd2, ok.off, ok.tabs⟩, ?_⟩
      rw [hx]
      exact end_rst rfl hr (st.trans (Step.less sub2))
    · have e1 : ρ.set i .no = ρ := List.set_eq_of_length_le (by omega)
      have e2 : σ'.set i none = σ' := List.set_eq_of_length_le (by have := ok.len; omega)
      rw [e1] at hx
      rw [e2]
      refine ⟨lcE1 lc e a, ρ, O', Oc, ok, ?_⟩
      rw [hx]
      exact end_rst rfl hr st
  | bk ρ => rw [h] at hx; cases hx
  | ct ρ => rw [h] at hx; cases hx
  | ex e' ρ => rw [h] at hx; cases hx
  | no => rw [h] at hx; cases hx
end
theorem tryw_ex {T : Th} {e : Ex} {n i cn : Nat} {Hs postS : List S} {d : D} {ρ ρ9 : Env} (hn : 1 ≤ n) (hl : ρ.length = n - 1) (h : execs T (.tryw i cn Hs :: postS) (Sl.th (some e) :: ρ) = .rt (.v d) ρ9) : T.sub e.cls cn = true ∧ ((clr i (execs T Hs ((List.replicate n Sl.no).set i (.ex e)))).seq (execs T postS)) = .rt (.v d) ρ9 := by
  rw [execs, exec] at h
  have h : (if T.sub e.cls cn then clr i (execs T Hs ((List.replicate (ρ.length + 1) Sl.no).set i (.ex e))) else Out.no).seq (execs T postS) = .rt (.v d) ρ9 := h
  rw [hl, show n - 1 + 1 = n by omega] at h
  by_cases hs : T.sub e.cls cn = true
  · rw [if_pos hs] at h
    exact ⟨hs, h⟩
  · rw [if_neg hs] at h
    cases h
theorem tryw_no {T : Th} {i cn : Nat} {Hs postS : List S} {d : D} {ρ ρ9 : Env} (h : execs T (.tryw i cn Hs :: postS) (Sl.th none :: ρ) = .rt (.v d) ρ9) : execs T postS (Sl.no :: ρ) = .rt (.v d) ρ9 := by
  rw [execs, exec] at h
  exact h
theorem asg_pre {T : Th} {o : Option Ex} {n j : Nat} {z : Str} {ss : List S} {d : D} {ρ9 : Env} (h0 : j ≠ 0) (hj : j < n) (h : execs T (.asg (.nm j) (.con (.str z)) :: ss) (Sl.th o :: List.replicate (n - 1) Sl.no) = .rt (.v d) ρ9) : execs T ss (Sl.th o :: (List.replicate (n - 1) Sl.no).set (j - 1) (.v (.str z))) = .rt (.v d) ρ9 := by
  cases j with
  | zero => exact absurd rfl h0
  | succ j =>
    have h1 : (Sl.th o :: List.replicate (n - 1) Sl.no)[j + 1]? = some .no := by
      show (List.replicate (n - 1) Sl.no)[j]? = some .no
      rw [List.getElem?_replicate, if_pos (by omega)]
    have h2 : setSlot (j + 1) (.v (.str z)) (Sl.th o :: List.replicate (n - 1) Sl.no) = some (Sl.th o :: (List.replicate (n - 1) Sl.no).set j (.v (.str z))) := by
      unfold setSlot
      rw [h1]
      rfl
    rw [execs, exec] at h
    have h3 : ev T (.con (.str z)) (Sl.th o :: List.replicate (n - 1) Sl.no) = .ok (.v (.str z)) (Sl.th o :: List.replicate (n - 1) Sl.no) := by
      show (den T (.con (.str z))).v _ = _
      rw [den]
      rfl
    rw [h3] at h
    have h : (Out.opt (asgD (.nm (j + 1)) (.str z) (Sl.th o :: List.replicate (n - 1) Sl.no))).seq (execs T ss) = .rt (.v d) ρ9 := h
    rw [asgD, h2] at h
    exact h
/-- the def keeps its promise -/
theorem wd_gives {Y : Cx} {c : Cf} {T : Th} {k f0 : Nat} {x a : Str} {g : Addr} {cdv : Value} {body : List Stmt} {fd : FD} {TT : Th} (hS : FnScope N [a] sc) (hns : fd.ns = N.length) (J : WdJ nm N sc a body fd.body)
    (hC : ∀ (s : Shared) (H : Hp) (lc : Lc), Cok c T nm k N sc (cxOf C8.CX0 Y.prog Y.w Y.K Y.mg Y.base N x sc g cdv Y.A Y.stack s H C8.E0).nox W0 lc) (hrun : ∀ o d, TT.wd f0 o = some d → runW T fd o = some d) : LamX.GivesTo Y N x sc g cdv body a (lamQ Y) (TTw c TT f0) := by
  intro f c' s H Q tl act hc ⟨o, d, hT, h⟩
  have hr := hrun o d hT
  unfold runW at hr
  have hn1 : 1 ≤ N.length := by
    have := hS.pre
    cases N with
    | nil => simp at this
    | cons _ _ => simp
  have ho : Top (cxOf C8.CX0 Y.prog Y.w Y.K Y.mg Y.base N x sc g cdv Y.A Y.stack s H C8.E0).nox := ⟨PassesOwn.never, fun _ => rfl⟩
  have hl0 : (L2.start N [V.ref f]).length = N.length := by
    have := hS.pre
    simp [L2.start]
    omega
  have hs0 : (L2.start N [V.ref f])[0]? = some (some (V.ref f)) := rfl
  cases hb : execs T fd.body (Sl.th o :: List.replicate (fd.ns - 1) Sl.no) with
  | rt r ρ9 =>
    rw [hb] at hr
    cases r with
    | v d' =>
      have hr : (if noL d' then some d' else none) = some d := hr
      by_cases hnl : noL d' = true
      · rw [if_pos hnl] at hr
        cases hr
        rw [hns] at hb
        generalize hB : fd.body = B at J hb
        cases J with
        | @go st post i cn Hs postS tj hp =>
          obtain ⟨xx, n, b0, su, p1, p2, p3, np, pos', pos, rfl, hi, hln, hm, hg, hd, hsu⟩ := tj
          refine ⟨_, pss_cons (ps_try_w (lc := ⟨fun _ _ => False, 0, [], []⟩) (hC s H _) (fun _ => rfl) rfl rfl hi hln hm hg hd hsu act) (pss_post (hC s H) ho hp), ?_⟩
          refine ⟨hs0, hc, fun cls dd H' => ∃ e, o = some e ∧ XR c e cls dd ∧ Rst c d Q H', fun cls dd H' he => ?_, h _ _ (fun _ _ _ z => z) fun v H' hno hrst => ?_⟩
          · obtain ⟨e, rfl, xr, Oc, off, hq⟩ := he
            obtain ⟨h1, h2⟩ := tryw_ex hn1 (ρ := List.replicate (N.length - 1) Sl.no) (by simp) hb
            exact ⟨e, xr, h1, Oc, off, fun a => suite_go hq h2⟩
          · subst hno
            obtain ⟨Oc, off, hq⟩ := hrst
            have h2 := tryw_no hb
            have e0 : (Sl.no :: List.replicate (N.length - 1) Sl.no) = List.replicate N.length Sl.no := by
              rw [← List.replicate_succ]
              congr 1
              omega
            rw [e0] at h2
            refine ⟨⟨fun _ _ => False, 0, [], []⟩, _, [], Oc, ok_no off hl0, ?_⟩
            rw [h2]
            exact end_rst rfl hq (Step.refl _ _)
        | @set y z j jj py pc pp st post i cn Hs postS hj hj0 hly hz tj hp =>
          obtain ⟨xx, n, b0, su, p1, p2, p3, np, pos', pos, rfl, hi, hln, hm, hg, hd, hsu⟩ := tj
          have hjn : j < N.length := (List.getElem?_eq_some_iff.mp hj).1
          refine ⟨_, pss_cons (ps_set (X := (cxOf C8.CX0 Y.prog Y.w Y.K Y.mg Y.base N x sc g cdv Y.A Y.stack s H C8.E0).nox) (i := j) hS.nd hj (.inl hly) pe_str (by rfl) (.inl rfl)) (pss_cons (ps_try_w (lc := ⟨fun _ _ => False, 0, [], []⟩) (hC s H _) (fun _ => rfl) rfl rfl hi hln hm hg hd hsu act) (pss_post (hC s H) ho hp)), ?_⟩
          have hs1 : ((L2.start N [V.ref f]).set j (some (V.str z)))[0]? = some (some (V.ref f)) := by
            rw [List.getElem?_set_ne hj0]
            exact hs0
          have e1 : execs T (.tryw i cn Hs :: postS) (Sl.th o :: (List.replicate (N.length - 1) Sl.no).set (j - 1) (.v (.str z))) = .rt (.v d) ρ9 := asg_pre hj0 hjn hb
          refine ⟨hs1, hc, fun cls dd H' => ∃ e, o = some e ∧ XR c e cls dd ∧ Rst c d Q H', fun cls dd H' he => ?_, h _ _ (fun _ _ _ z => z) fun v H' hno hrst => ?_⟩
          · obtain ⟨e, rfl, xr, Oc, off, hq⟩ := he
            obtain ⟨h1, h2⟩ := tryw_ex hn1 (by simp) e1
            exact ⟨e, xr, h1, Oc, off, fun a => suite_go hq h2⟩
          · subst hno
            obtain ⟨Oc, off, hq⟩ := hrst
            have h2 := tryw_no e1
            have e0 : (Sl.no :: (List.replicate (N.length - 1) Sl.no).set (j - 1) (.v (.str z))) = (List.replicate N.length Sl.no).set j (.v (.str z)) := by
              have e9 : List.replicate N.length Sl.no = Sl.no :: List.replicate (N.length - 1) Sl.no := by
                rw [← List.replicate_succ]
                congr 1
                omega
              cases j with
              | zero => exact absurd rfl hj0
              | succ j => rw [e9]; rfl
            rw [e0] at h2
            refine ⟨⟨fun _ _ => False, 0, [], []⟩, _, [], Oc, ok_set off hl0 hjn hz, ?_⟩
            rw [h2]
            exact end_rst rfl hq (Step.refl _ _)
      · rw [if_neg hnl] at hr; cases hr
    | _ => cases hr
  | _ => rw [hb] at hr; cases hr
end VL
end
section
set_option maxHeartbeats 4000000
/-! V32: all defs keep their promise, those that take a thunk too. -/
namespace VL
open PySem PySem.Spec PyProof.Rows L2
/-- a def that takes a thunk, read -/
structure WdD (nm : Nm) (K : PySem.W.Frag) (A : Nat → Addr) (p : Str × Nat) (d : He.DefD) (fd : FD) (N : List Str) (a : Str) : Prop where
  S : FnScope N [a] d.scope
  ns : fd.ns = N.length
  j : WdJ (nm.lm false) N d.scope a d.body fd.body
  nam : d.name = p.1
  qua : d.qual = p.1
  p1 : d.params.posonlyargs = []
  p2 : d.params.vararg = none
  p3 : d.params.kwonlyargs = []
  p4 : d.params.kwarg = none
  p5 : d.params.args.map (·.arg) = [a]
  n0 : N[0]? = some a
  va : Vis d.scope a
  d1 : (a == ("__debug__" : Str)) = false
  d2 : (a == ("__classdict__" : Str)) = false
  fn : p ∈ nm.fns
  ex : ∃ fdd, FunD K d.name d.qual d.params d.body d.scope [] [] (A p.2) fdd
theorem wds_step {c : Cf} {nm : Nm} (hcm : nm.calm = true) {P : Program} {w : World} {mg : Str → Option Value} {base : Heap} {X : Tx} (G : Glo c nm w c.K mg X.sub) (DW : ∀ p ∈ nm.wds, ∃ d fd N a, X.fs[p.2]? = some fd ∧ WdD nm c.K c.A p d fd N a) (k : Nat)
    (ih : ∀ f ds r, call X k f ds = some r → ∃ fdd ps, FnOk P w c.K mg base (L2.CX P w) (3 * k) (c.A f) fdd ps (spF c (th X k) f) ∧ Binds c.K fdd ps []) (ihw : WdsOk c nm P w mg base (th X k) k) : WdsOk c nm P w mg base (th X (k + 1)) (k + 1) := by
  intro p hp
  obtain ⟨d, fd, N, a, hf, D⟩ := DW p hp
  obtain ⟨fdd, F⟩ := D.ex
  have hbn : Binds c.K fdd [a] [] := F.bindsN fun kV doc pm an cdv ct us hl => bind_plain D.p1 D.p2 D.p3 D.p4 D.p5 (by simp) hl
  obtain ⟨oc, od, dV, kV, doc, pm, an, cdv, ct, osl, efd, lk, hcd, _, _⟩ := F.ex
  refine ⟨a, c.A p.2, N, d.body, d.scope, cdv, fun Y h1 h2 h3 h4 h5 hr => ?_⟩
  subst h1 h2 h4 h5 efd
  have lk' := lk
  rw [D.nam, D.qua] at lk hbn
  rw [D.qua] at hcd
  refine ⟨G.fnm _ D.fn, by rw [h3]; exact F.kp, ⟨oc, od, d.params, dV, kV, doc, pm, ct, an, osl, by rw [h3]; exact lk, by rw [h3]; exact hbn⟩, by rw [h3]; exact hcd, D.S, D.n0, D.va, D.d1, D.d2, ?_⟩
  refine wd_gives (nm := nm.lm false) (T := th X k) (k := k) (fd := fd) D.S D.ns D.j (fun s H lc => ?_) (fun o d' ho => ?_)
  · have room : Room (3 * k) (Y.A.deeper (envOfC p.1 d.scope s.heap.objs.size (c.A p.2) cdv)) := by
      have h9 : Room (3 * k + 4 + 1) Y.A := by
        have e : 3 * (k + 1) + 2 = 3 * k + 4 + 1 := by omega
        rw [← e]; exact hr
      exact (h9.deeper _).mono (by omega)
    exact {
      hK := h3
      hN := rfl
      nd := D.S.nd
      hsc := rfl
      room := fun _ => room
      room2 := fun h => by cases h
      lam := fun h => by cases h
      wd := fun q hq => by
        obtain ⟨a', g', N', b', s', c', hh⟩ := ihw q hq
        exact ⟨a', g', N', b', s', c', fun Z z1 z2 z3 z4 z5 z6 => hh Z z1 z2 (z3.trans h3) z4 z5 z6⟩
      un := room190 room
      calm := fun _ => rfl
      tk := LamX.takes0
      con := G.con
      fnm := G.fnm
      free := G.free
      tab := fun q hq => by
        obtain ⟨dd, e1, e2⟩ := G.tab q hq
        have key : ∀ K' : PySem.W.Frag, K' = c.K → (∃ es n, KDict K' Y.w dd es n) ∧ ∀ z : Str, ∃ r, PySem.W.nsIn K' dd z = some r ∧ match tabGet z q.2 with
            | none => r = none
            | some dv => ∃ u v, r = some u ∧ RelV v u ∧ Rp c (fun _ => none) dv v := fun K' h => by
          subst h
          exact e2
        exact ⟨dd, e1, key Y.K h3⟩
      kp := fun n => by
        show PySem.W.keepIn Y.K _ = true
        rw [h3]; exact G.kp n
      cl := by
        show ClsF c.C Y.K Y.mg _ _ _
        rw [h3]; exact G.cl
      zex := fun h => by
        have h : nm.calm = false := h
        rw [hcm] at h
        cases h
      call := fun f ds r hc => by
        obtain ⟨fdd, ps, q1, q2⟩ := ih f ds r hc
        refine ⟨fdd, ps, ?_, ?_⟩
        · show FnOk Y.prog Y.w Y.K Y.mg Y.base (L2.CX Y.prog Y.w) (3 * k) (c.A f) fdd ps (spF c (th X k) f)
          rw [h3]; exact q1
        · show Binds Y.K fdd ps []
          rw [h3]; exact q2 }
  · have ho : wcall X (k + 1) p.2 o = some d' := ho
    rw [wcall, hf] at ho
    exact ho
theorem wds_zero {c : Cf} {nm : Nm} {P : Program} {w : World} {mg : Str → Option Value} {base : Heap} {X : Tx} (G : Glo c nm w c.K mg X.sub) (DW : ∀ p ∈ nm.wds, ∃ d fd N a, X.fs[p.2]? = some fd ∧ WdD nm c.K c.A p d fd N a) : WdsOk c nm P w mg base (th X 0) 0 := by
  intro p hp
  obtain ⟨d, fd, N, a, hf, D⟩ := DW p hp
  obtain ⟨fdd, F⟩ := D.ex
  have hbn : Binds c.K fdd [a] [] := F.bindsN fun kV doc pm an cdv ct us hl => bind_plain D.p1 D.p2 D.p3 D.p4 D.p5 (by simp) hl
  obtain ⟨oc, od, dV, kV, doc, pm, an, cdv, ct, osl, efd, lk, hcd, _, _⟩ := F.ex
  refine ⟨a, c.A p.2, N, d.body, d.scope, cdv, fun Y h1 h2 h3 h4 h5 hr => ?_⟩
  subst h1 h2 h4 h5 efd
  rw [D.nam, D.qua] at lk hbn
  rw [D.qua] at hcd
  refine ⟨G.fnm _ D.fn, by rw [h3]; exact F.kp, ⟨oc, od, d.params, dV, kV, doc, pm, ct, an, osl, by rw [h3]; exact lk, by rw [h3]; exact hbn⟩, by rw [h3]; exact hcd, D.S, D.n0, D.va, D.d1, D.d2, ?_⟩
  intro f c' s H Q tl act hc ⟨o, d', hT, _⟩
  have hT : wcall X 0 p.2 o = some d' := hT
  rw [wcall] at hT
  cases hT
end VL
end
section
set_option maxHeartbeats 4000000
/-! V34: sorted of a row of ints; list(range(..)). -/
namespace VL
open PySem PySem.Spec PyProof.Rows L2 SrtO
section
variable {prog : Program} {w : World} {A : Around} {E : Value → Shared → Prop} {s : Shared}
/-- the heap with a copy of a row at its end -/
abbrev cpy (h : Heap) (vs : List Value) : Heap := Heap.update (h.push (seqObj "list" #[] 0)) h.objs.size (Obj.mapSeq (· ++ vs.toArray))
theorem collect_tupV {l : Addr} {vs : List Value} {Q : List Value → Shared → Prop} (hl : s.heap.IsTuple l vs.toArray) (hz : vs.length ≤ sizeLine)
    (q : Q vs { s with heap := cpy s.heap vs }) : wpAny (model prog w) A (collect (.ref l)) Q E s := by
  obtain ⟨o, ho, hc, n, hd⟩ := hl
  unfold collect
  refine wpAny_bind (wpAny_runValue (codeAny_builtin F.entry_proto_collect ?_))
  rw [Around.under_plainId F.plain_proto_collect _]
  show wpAny _ A.in1 (bind (newList []) fun z => again (.builtin "list.__iadd__" ⟨[z, .ref l], []⟩)) _ _ s
  refine wpAny_bind (wpAny_newObj_type (wpAny_pure ⟨plainId_quiet F.plain_list_iadd _, codeAny_builtin F.entry_list_iadd ?_⟩))
  rw [Around.under_plainId F.plain_list_iadd _]
  show wpAny _ A.in1 (Builtin.List.listExtendWith (.ref s.heap.objs.size) (.ref l) (.ref s.heap.objs.size)) _ _ { s with heap := s.heap.push (seqObj "list" #[] 0) }
  have k := wpAny_extend_seq (prog := prog) (w := w) (A := A) (s := { s with heap := s.heap.push (seqObj "list" #[] 0) }) s.heap.objs.size l (.ref s.heap.objs.size) 0
    (R := fun rr s' => rr = .ok (.ret (.ref s.heap.objs.size)) ∧ s' = { s with heap := cpy s.heap vs }) (.inr rfl) (Heap.get?_push_size _ rfl) (Heap.get?_push_of_some _ ho) hc hd ⟨rfl, rfl⟩ (by simpa using hz)
  obtain ⟨ep, at_⟩ : ∃ ep, (cpy s.heap vs).get? s.heap.objs.size = some (seqObj "list" (#[] ++ vs.toArray) ep) := ⟨_, get?_update_seq (Heap.get?_push_size _ rfl) _⟩
  have done : wpAny (model prog w) A (load s.heap.objs.size >>= fun o => (match o.data with
      | .seq xs _ => pure xs.toList
      | _ => unsupported "internal:collect" : Sem _)) Q E { s with heap := cpy s.heap vs } := by
    refine wpAny_bind (wpAny_load at_ ?_)
    show wpAny _ _ (pure (#[] ++ vs.toArray).toList) _ _ _
    have e : ((#[] : Array Value) ++ vs.toArray).toList = vs := by simp
    exact wpAny_pure (e.symm ▸ q)
  refine wpAny_mono k (fun fin s' h => ?_) fun e s' h => absurd h.1 (by simp)
  cases fin with
  | done f =>
    obtain ⟨e, rfl⟩ := h
    cases e
    exact done
  | again c' =>
    refine ⟨h.1, codeAny_mono h.2 fun rr s'' hr => ?_⟩
    obtain ⟨rfl, rfl⟩ := hr
    exact done
theorem sorted_ordT {l : Addr} {vs : List Value} {lt : Value → Value → Bool} {Q : Value → Shared → Prop} (O : Swo lt) (hl : s.heap.IsTuple l vs.toArray) (hz : vs.length ≤ sizeLine)
    (hS : 2 ≤ vs.length → ∀ (h : Heap) (a : Addr), SortableO prog w A.in1.in1 { s with heap := h } a vs lt)
    (q : ∀ out : List Value, Srtd lt out → Stb lt out vs → Q (.ref (s.heap.objs.size + 1)) { s with heap := sortedAll s.heap vs out.toArray }) :
    wpAny (model prog w) A (PySem.call (.builtin "sorted") [.ref l]) Q E s := by
  have size1 : (cpy s.heap vs).objs.size = s.heap.objs.size + 1 := (Heap.size_update ..).trans (size_push' ..)
  have top : ((cpy s.heap vs).push (seqObj "list" vs.toArray 0)).get? (s.heap.objs.size + 1) = some (seqObj "list" vs.toArray 0) := size1 ▸ Heap.get?_push_size _ rfl
  refine Calls.call_function_entry kind_sorted plain_sorted entry_sorted (args_sorted1 _) ?_
  unfold Builtin.«sorted»
  refine wpAny_bind (m := checkCount "sorted" 1 1 _) (wpAny_pure (wpAny_bind (collect_tupV hl hz (wpAny_bind (wpAny_newList ?_ hz)))))
  show wpAny _ _ _ _ _ { s with heap := (cpy s.heap vs).push (seqObj "list" vs.toArray 0) }
  rw [size1]
  exact wpAny_bind (wpAny_holding (wpAny_call_entry slot_list_sort ⟨_, top, rfl⟩ entry_list_sort (list_sort_ord O top hz (fun h2 => hS h2 _ _) fun out a b => ⟨_, rfl, wpAny_pure ⟨_, rfl, q out a b⟩⟩) (args_list_sort _)))
end
section
variable {X : Cx}
/-- sorted(row), ints -/
def rSortR (K : PySem.W.Frag) : List V → Hp → VK → Prop := fun vs H Q => ∃ (a : Addr) (ns : List Int), vs = [V.ref a] ∧ SqT K H a (ns.map V.int) ∧
  ∀ (ms : List Int) (p : Addr), ms.Perm ns → ms.Pairwise (· ≤ ·) → H p = none → Q (.ref p) (upd H p (.lst (ms.map V.int)))
theorem cr_sortedR : CallR X (.builtin "sorted") (rSortR X.K) := by
  intro pins s σ H vs us Q I r ⟨a, ns, e, hs, q⟩
  subst e
  obtain ⟨its, rv, hl, hz⟩ := I.tuple hs
  rw [Vals.ref1 r]
  have hi := rv.ints
  refine sorted_ordT swo_int hl (rv.length ▸ hz) (fun h2 h a => ints_sortable hi h2) fun out h1 h2 => ?_
  obtain ⟨k1, k2, k3⟩ := ints_out hi h1 h2
  obtain ⟨ep, he⟩ := sortedAll_at s.heap its out.toArray
  have hz' : ((out.map iv).map V.int).length ≤ sizeLine := by
    rw [List.length_map] at hz
    rw [List.length_map, k2.length_eq]
    exact hz
  have I' := I.laid (a := s.heap.objs.size + 1) (o := .lst ((out.map iv).map V.int)) (t' := s.toks) (fun _ _ => sortedAll_old (out := out.toArray)) (Nat.le_succ _) ⟨hz', out, ep, vals_of_ints k1, he⟩
  exact ⟨.ref _, _, I', rfl, q _ _ k2 k3 (I.hok.fresh (Nat.le_succ _))⟩
variable {c : Cf}
theorem cr_sortedD (hK : X.K = c.K) : CallR X (.builtin "sorted") (rBi c (biop .sorted)) := by
  intro pins s σ H vs us Q I r ⟨F, ds, r', l, hx, hb, q⟩
  obtain ⟨d, rfl⟩ := biop_one hb (by decide)
  obtain ⟨v, rfl, h⟩ := hx.one
  have fin : ∀ {is ms : List Int} {p : Addr}, (∀ v H', Res c F H (.fl ((sortI is).map .int)) v H' → Q v H') → ms.Perm is → ms.Pairwise (· ≤ ·) → H p = none → Q (.ref p) (upd H p (.lst (ms.map V.int))) := fun {is ms p} q h1 h2 hp => by
    rw [sorted_uniq (h1.trans (sortI_perm is).symm) h2 (sortI_sorted is)]
    exact q _ _ ⟨p, _, rfl, hp, rfl, Rps.ofInts _⟩
  cases d with
  | lst xs =>
    have hb : (intsD xs).map (fun is => R.fl ((sortI is).map .int)) = some r' := hb
    cases e : intsD xs with
    | none => rw [e] at hb; cases hb
    | some is =>
      rw [e] at hb
      cases hb
      obtain ⟨a, ws, rfl, h1, h2⟩ := h.lst l
      obtain ⟨e1, _⟩ := h2.ints e
      exact cr_sortedI pins s σ H _ us Q I r ⟨a, is, rfl, SqL.of (by rw [← e1]; exact h1), fun ms p h1 h2 hp => fin q h1 h2 hp⟩
  | tup xs =>
    have hb : (intsD xs).map (fun is => R.fl ((sortI is).map .int)) = some r' := hb
    cases e : intsD xs with
    | none => rw [e] at hb; cases hb
    | some is =>
      rw [e] at hb
      cases hb
      obtain ⟨a, ws, rfl, h1, h2⟩ := h.tup
      obtain ⟨e1, _⟩ := h2.ints e
      rw [hK.symm] at h1
      exact cr_sortedR pins s σ H _ us Q I r ⟨a, is, rfl, by rw [← e1]; exact sqT_mono l h1, fun ms p h1 h2 hp => fin q h1 h2 hp⟩
  | _ => cases hb
end
section
variable {c : Cf} {nm : Nm} {N : List Str} {sc : Scope}
theorem rgV_map (n : Int) : rgV 0 n = (rangeL 0 n).map fun d => (match d with | .int i => V.int i | _ => V.non) := by
  unfold rgV rangeL
  rw [List.map_map]
  rfl
theorem rps_range (F : Hp) (n : Int) : Rps c F (rangeL 0 n) (rgV 0 n) := by
  have e1 : rangeL 0 n = ((List.range (n - 0).toNat).map fun k => (0 : Int) + (k : Nat)).map D.int := by unfold rangeL; rw [List.map_map]; rfl
  have e2 : rgV 0 n = ((List.range (n - 0).toNat).map fun k => (0 : Int) + (k : Nat)).map V.int := by unfold rgV; rw [List.map_map]; rfl
  rw [e1, e2]
  exact Rps.ofInts _
theorem j_lrange1 {e : Expr} {E1 : E} {p p2 pos pos2 : Pos} (hcm : nm.calm = true) (hl : ("list" : Str) ∈ nm.free) (hgl : sc.names.lookup ("list" : Str) = some .globalImplicit) (hr : ("range" : Str) ∈ nm.free) (hgr : sc.names.lookup ("range" : Str) = some .globalImplicit) (h1 : J nm N sc e E1) :
    J nm N sc (.Call (.Name "list" p) [.Call (.Name "range" p2) [e] [] pos2] [] pos) (.bi .lrange1 [E1]) := by
  have h : JE nm N sc (.Call (.Name "list" p) [.Call (.Name "range" p2) [e] [] pos2] [] pos) (.bi .lrange1 [E1]) := by
    intro c T k X W lc C
    refine PE.imp (pe_listRg (C.calm hcm) (show X.env.scope.names.lookup _ = _ by rw [C.hsc]; exact hgl) (C.free _ hl) (prg_1 (show X.env.scope.names.lookup _ = _ by rw [C.hsc]; exact hgr) (C.free _ hr) (h1.je c T k X W lc C) (starE_cons h1.js))) fun σ H Q ⟨ρ, O, Oc, ok, g⟩ => ?_
    rw [den] at g
    simp only [Den.of, evs, Rs.bind_assoc, Rs.bind_ok] at g
    refine ⟨ρ, O, Oc, ok, (Go.bind [] g).imp fun v H1 ⟨x, ρ1, O1, st, ⟨pr, _⟩, g1⟩ => ?_⟩
    have pr : PR c lc ρ1 σ H1 O1 Oc x v := pr
    simp only [looks] at g1
    cases l1 : look ρ1 x with
    | none => rw [l1] at g1; exact g1.elim
    | some d =>
      rw [l1] at g1
      cases d with
      | int n =>
        have g1 : Go c lc W σ H1 O1 Oc (Rs.opt ρ1 (if n ≤ LINE ∧ -(2 ^ 62) ≤ n then some (R.fl (rangeL 0 n)) else none)) (PV c lc σ Oc H) Q := g1
        by_cases hn : n ≤ LINE ∧ -(2 ^ 62) ≤ n
        · rw [if_pos hn] at g1
          refine ⟨n, (pr.ok.look pr.rr l1).int, ?_, fun q hq => Go.res pr.ok (List.sublist_append_right _ _) (fun b hb => st.none hb) g1 ⟨q, rgV 0 n, rfl, hq, rfl, rps_range _ n⟩⟩
          obtain ⟨k1, k2⟩ := hn
          exact ⟨by omega, by omega, k2, by unfold LINE at k1; omega, by unfold LINE at k1; omega⟩
        · rw [if_neg hn] at g1; exact g1.elim
      | _ => exact g1.elim
  exact ⟨h, jt_of h (fun _ => by rw [den] <;> rfl) fun _ _ => rfl, rfl⟩
end
end VL
end
section
set_option maxHeartbeats 4000000
/-! V35: rows read from behind. -/
namespace VL
open PySem PySem.Spec PyProof.Rows L2 RZ HT
section
variable {prog : Program} {w : World} {A : Around} {E : Value → Shared → Prop} {s : Shared}
theorem adjust_rev (n : Nat) : Builtin.Slice.sliceAdjust none none (-1) (n : Int) = ((n : Int) - 1, -1) := by
  have h1 : ((-1 : Int) < 0) := by omega
  unfold Builtin.Slice.sliceAdjust
  simp only [h1, if_true]
theorem places_rev (n : Nat) : Builtin.Slice.slicePlaces ((n : Int) - 1) (-1) (-1) = n := by
  unfold Builtin.Slice.slicePlaces
  have h1 : ¬ ((-1 : Int) > 0) := by omega
  have h2 : (-(-1) : Int) = 1 := by omega
  simp only [h1, if_false, h2, Int.ediv_one]
  split <;> omega
theorem sliceApplied_rev {sl : Addr} {vl vu vs : Value} {n : Nat} {Q : Int × Int × Nat → Shared → Prop} (hs : s.heap.IsSliceOf sl vl vu vs) (pl : IsPart vl none) (pu : IsPart vu none) (ps : IsPart vs (some (-1)))
    (h : Q ((n : Int) - 1, -1, n) s) : wpAny (model prog w) A (Builtin.Slice.sliceApplied (.ref sl) (pure (n : Int))) Q E s := by
  obtain ⟨os, hos, hcs, hds⟩ := id hs
  unfold Builtin.Slice.sliceApplied Builtin.Slice.sliceFields
  refine wpAny_bind (wpAny_bind (wpAny_field hos hds (x := vl) rfl (wpAny_bind (wpAny_field hos hds (x := vu) rfl (wpAny_bind (wpAny_field hos hds (x := vs) rfl (wpAny_pure ?_)))))))
  refine wpAny_bind (slicePart_ ps ?_)
  show wpAny _ _ (if ((-1 : Int) == 0) = true then _ else _) _ _ s
  rw [if_neg (by decide)]
  refine wpAny_bind (slicePart_ pl (wpAny_bind (slicePart_ pu (wpAny_bind (wpAny_pure ?_)))))
  show wpAny _ _ (match Builtin.Slice.sliceAdjust none none (-1) (n : Int) with | (lo, hi) => pure (lo, (-1 : Int), Builtin.Slice.slicePlaces lo hi (-1))) _ _ s
  rw [adjust_rev n]
  show wpAny _ _ (pure ((n : Int) - 1, (-1 : Int), Builtin.Slice.slicePlaces ((n : Int) - 1) (-1) (-1))) _ _ s
  rw [places_rev]
  exact wpAny_pure h
theorem fm_congr {α β : Type} {f g : α → Option β} : ∀ {l : List α}, (∀ x ∈ l, f x = g x) → l.filterMap f = l.filterMap g
  | [], _ => rfl
  | x :: l, h => by
    rw [List.filterMap_cons, List.filterMap_cons, h x List.mem_cons_self, fm_congr fun y hy => h y (List.mem_cons_of_mem _ hy)]
theorem pick_rev (xs : Array Value) : ((List.range xs.size).filterMap fun (m : Nat) => xs[((xs.size : Int) - 1 + (m : Int) * (-1)).toNat]?).toArray = xs.toList.reverse.toArray := by
  have e : (List.range xs.size).filterMap (fun (m : Nat) => xs[((xs.size : Int) - 1 + (m : Int) * (-1)).toNat]?) = ((List.range xs.size).map fun k => xs.size - 1 - k).filterMap (xs[·]?) := by
    rw [List.filterMap_map]
    refine fm_congr fun m hm => ?_
    have := List.mem_range.mp hm
    have e2 : ((xs.size : Int) - 1 + (m : Int) * (-1)).toNat = xs.size - 1 - m := by omega
    rw [e2]
    rfl
  rw [e, PySem.W.krv_range, List.filterMap_reverse, PySem.W.krv_all]
theorem getItem_tuple_rev {t sl : Addr} {items : Array Value} {vl vu vs : Value} {Q : Value → Shared → Prop} (ht : IsTup s.heap t items) (hs : s.heap.IsSliceOf sl vl vu vs) (pl : IsPart vl none) (pu : IsPart vu none) (ps : IsPart vs (some (-1)))
    (h : Q (.ref s.heap.objs.size) { s with heap := s.heap.push { cls := .type "tuple", data := .seq items.toList.reverse.toArray } })
    (hsz : items.size ≤ sizeLine) : wpAny (model prog w) A (getItem (.ref t) (.ref sl)) Q E s := by
  have htake : sizeOk (.seq items.toList.reverse.toArray) := by
    show items.toList.reverse.toArray.size ≤ sizeLine
    rw [List.size_toArray, List.length_reverse, Array.length_toList]
    exact hsz
  obtain ⟨os, hos, hcs, hds⟩ := id hs
  have hTs : s.TypeIs (.ref sl) "slice" := ⟨os, hos, hcs⟩
  unfold getItem
  try with_reducible refine wpAny_holding ?_
  first | refine wpAny_bind (wpAny_pure ?_) | skip
  refine wpAny_bind (wpAny_sequenceKey ht.typeIs (by decide) ?_)
  refine wpAny_bind (wpAny_callSpecial?_slot (name := Str.ofString "__getitem__") ht.typeIs PyProof.Rows.slot_tuple_getitem
    (wpAny_call_entry PyProof.Rows.slot_tuple_getitem ht.typeIs entry_tuple_getitem ?_ (args_tuple_getitem _ _)))
  show wpAny _ _ (Builtin.Tuple.tupleItemsOf (.ref t) >>= _) _ _ s
  refine wpAny_bind (tupleItemsOf_ ht ?_)
  refine wpAny_bind (wpAny_typeOf hTs ?_)
  rw [if_pos (by decide)]
  refine wpAny_bind (sliceApplied_rev hs pl pu ps ?_)
  have hno : ¬ (((items.size : Int) - 1 == 0 && (-1 : Int) == 1 && items.size == items.size) = true) := by
    rw [show ((-1 : Int) == 1) = false from rfl, Bool.and_false, Bool.false_and]
    exact Bool.false_ne_true
  show wpAny _ _ (if ((items.size : Int) - 1 == 0 && (-1 : Int) == 1 && items.size == items.size) = true then _ else _) _ _ s
  rw [if_neg hno, pick_rev]
  first
    | exact wpAny_bind (m := Builtin.Tuple.tupleExact _) (wpAny_newObj_type (wpAny_pure ⟨_, rfl, wpAny_pure h⟩) htake)
    | exact wpAny_bind (m := Builtin.Tuple.tupleExact _) (wpAny_newObj_type (wpAny_bind (wpAny_pure (wpAny_pure ⟨_, rfl, wpAny_pure h⟩))) htake)
    | exact wpAny_bind (wpAny_bind (m := Builtin.Tuple.tupleExact _) (wpAny_newObj_type (wpAny_pure (wpAny_pure ⟨_, rfl, wpAny_pure h⟩)) htake))
    | exact wpAny_bind (wpAny_bind (m := Builtin.Tuple.tupleExact _) (wpAny_newObj_type (wpAny_pure ⟨_, rfl, wpAny_pure h⟩) htake))
end
section
variable {X : Cx}
def tRevA (K : PySem.W.Frag) (te : TE) : TE := fun σ H Q => te σ H fun x H1 => (∃ a xs, x = .ref a ∧ SqL K H1 a xs ∧ ∀ p, H1 p = none → Q (.ref p) (upd H1 p (.lst xs.reverse))) ∨ (∃ a xs, x = .ref a ∧ SqT K H1 a xs ∧ ∀ p, H1 p = none → Q (.ref p) (upd H1 p (.tup xs.reverse)))
theorem pe_revA {e : Expr} {te : TE} {k : Nat} {p1 p2 p3 pos : Pos} (he : PE X e te) : PE X (.Subscript e (.Slice none none (some (.UnaryOp .USub (.Constant (.int 1) k p1) p2)) p3) pos) (tRevA X.K te) := by
  refine ⟨fun pins s σ H Q I h => ?_⟩
  refine Subscript_ (thn (he.run pins s σ H _ I h) fun v s1 ⟨x, H1, I1, r1, q1⟩ => ?_)
  have hst : PO X (some (.UnaryOp .USub (.Constant (.int 1) k p1) p2)) (tPart (tUn (rU fun i => .int (-i)) (tC (.int 1)))) := po_some (pe_un un_neg pe_int)
  refine wpAny_Slice (thn (po_none.run pins s1 σ H1 (fun o H2 => o = none ∧ H2 = H1) I1 ⟨rfl, rfl⟩) fun vl s2 ⟨l, H2, I2, pl, el, e2⟩ => ?_)
  subst el e2
  refine thn (po_none.run pins s2 σ H2 (fun o H3 => o = none ∧ H3 = H2) I2 ⟨rfl, rfl⟩) fun vu s3 ⟨u, H3, I3, pu, eu, e3⟩ => ?_
  subst eu e3
  refine thn (hst.run pins s3 σ H3 (fun o H4 => o = some (-1) ∧ H4 = H3) I3 ⟨1, rfl, -1, rfl, rfl, rfl⟩) fun vs s4 ⟨o, H4, I4, ps, eo, e4⟩ => ?_
  subst eo e4
  have I5 : Inv X pins σ H4 { s4 with heap := s4.heap.push { cls := .type "slice", data := .fields #[vl, vu, vs] } } := I4.kept (t' := s4.toks) fun b ob q => Heap.get?_push_of_some _ q
  rcases q1 with ⟨a, xs, ex, hx, q⟩ | ⟨a, xs, ex, hx, q⟩
  · subst ex
    cases r1
    obtain ⟨its, r, ht, hz⟩ := I5.list hx
    have hlen := r.length
    show wpAny (model X.prog X.w) X.A (subscriptTail e (.Slice none none (some (.UnaryOp .USub (.Constant (.int 1) k p1) p2)) p3) (.ref a) (.ref s4.heap.objs.size)) (EP X pins σ Q) X.xe { s4 with heap := s4.heap.push { cls := .type "slice", data := .fields #[vl, vu, vs] } }
    refine tail_any (ops := [.ref a, .ref s4.heap.objs.size]) ht.isList.typeIs (PySem.slot_list_getitem.lookup) ?_ (by with_unfolding_all rfl)
    refine wpAny_getItem_list_slice ht.isList (Heap.IsSliceOf.new _ vl vu vs) pl pu ps (by decide) ?_ (by rw [List.size_toArray]; omega)
    rw [PySem.W.krv_pick]
    refine ⟨.ref _, _, I5.laid (t' := s4.toks) (o := .lst xs.reverse) (fun b ob q => Heap.get?_push_of_some _ q) (Nat.le_refl _) ?_, rfl, q _ (I5.hok.fresh (Nat.le_refl _))⟩
    exact ⟨by rw [List.length_reverse]; exact hz, _, 0, r.reverse, Heap.get?_push_size _ rfl⟩
  · subst ex
    cases r1
    obtain ⟨its, r, ht, hz⟩ := I5.tuple hx
    have hlen := r.length
    show wpAny (model X.prog X.w) X.A (subscriptTail e (.Slice none none (some (.UnaryOp .USub (.Constant (.int 1) k p1) p2)) p3) (.ref a) (.ref s4.heap.objs.size)) (EP X pins σ Q) X.xe { s4 with heap := s4.heap.push { cls := .type "slice", data := .fields #[vl, vu, vs] } }
    refine tail_any (ops := [.ref a, .ref s4.heap.objs.size]) ht.typeIs PyProof.Rows.slot_tuple_getitem.lookup ?_ (by with_unfolding_all rfl)
    refine getItem_tuple_rev ht (Heap.IsSliceOf.new _ vl vu vs) pl pu ps ?_ (by rw [List.size_toArray]; omega)
    refine ⟨.ref _, _, I5.laid (t' := s4.toks) (o := .tup xs.reverse) (fun b ob q => Heap.get?_push_of_some _ q) (Nat.le_refl _) ?_, rfl, q _ (I5.hok.fresh (Nat.le_refl _))⟩
    exact ⟨by rw [List.length_reverse]; exact hz, _, r.reverse, IsTup.new _ _⟩
end
variable {nm : Nm} {N : List Str} {sc : Scope}
theorem j_slcRev {e1 : Expr} {E1 : E} {k : Nat} {p1 p2 p3 pos : Pos} (h1 : J nm N sc e1 E1) : J nm N sc (.Subscript e1 (.Slice none none (some (.UnaryOp .USub (.Constant (.int 1) k p1) p2)) p3) pos) (.slc .rev E1 []) := by
  refine j_of ?_ rfl (fun _ => by rw [den] <;> rfl) fun _ _ => rfl
  intro c T kk X W lc C
  refine PE.imp (pe_revA (h1.je c T kk X W lc C)) fun σ H Q ⟨ρ, O, Oc, ok, g⟩ => ?_
  rw [den] at g
  simp only [Den.of, evi, Rs.bind_ok] at g
  refine ⟨ρ, O, Oc, ok, (Go.bind [] g).imp fun v H1 ⟨x, ρ1, O1, st, ⟨pr, n⟩, g1⟩ => ?_⟩
  have pr : PR c lc ρ1 σ H1 O1 Oc x v := pr
  have hs := List.sublist_append_right (pend x v) Oc
  have hn : ∀ b, H1 b = none → H b = none := fun b hb => st.none hb
  cases l1 : look ρ1 x with
  | none => rw [l1] at g1; exact g1.elim
  | some d =>
    rw [l1] at g1
    have hx := pr.ok.look pr.rr l1
    have le := Vw.le H1 (O1 ++ (pend x v ++ Oc))
    cases d with
    | tup xs =>
      obtain ⟨a, vs, rfl, k1, k2⟩ := hx.tup
      exact .inr ⟨a, vs, rfl, sqTX C.hK le k1, fun p hp => Go.res pr.ok hs hn g1 (.inr ⟨p, xs.reverse, _, rfl, rfl, hp, rfl, k2.reverse⟩)⟩
    | lst xs =>
      obtain ⟨a, vs, rfl, k1, k2⟩ := hx.lst le
      exact .inl ⟨a, vs, rfl, SqL.of k1, fun p hp => Go.res pr.ok hs hn g1 ⟨p, _, rfl, hp, rfl, k2.reverse⟩⟩
    | scr xs =>
      generalize hF : Vw H1 (O1 ++ (pend x v ++ Oc)) = F at *
      have hx := hx.rp fun _ z => nomatch z
      cases hx with
      | scr h1 =>
        have h2 : Rps c F (xs.map D.int) (xs.map V.int) := Rps.ofInts xs
        subst hF
        exact .inl ⟨_, _, rfl, by rw [C.hK]; exact sqL_mono le h1, fun p hp => Go.res pr.ok hs hn g1 ⟨p, _, rfl, hp, rfl, h2.reverse⟩⟩
    | _ => exact g1.elim
end VL
end
section
set_option maxHeartbeats 4000000
/-! V36: a def that a name holds is called; an item is taken out of a list of one's own. -/
namespace VL
open PySem PySem.Spec PyProof.Rows L2 RZ
variable {nm : Nm} {N : List Str} {sc : Scope}
theorem j_callv (hcm : nm.calm = true) {y : Str} {i : Nat} {e : Expr} {es : List Expr} {Es : List E} {p pos : Pos} (hN : N[i]? = some y) (hv : Vis sc y) (hdy : (y == ("__debug__" : Str)) = false) (hcd : (y == ("__classdict__" : Str)) = false) (h : JA nm N sc (e :: es) Es) :
    J nm N sc (.Call (.Name y p) (e :: es) [] pos) (.callv i Es) := by
  have hs : notStar e = true ∧ es.all notStar = true := by
    have := h.s
    rw [List.all_cons, Bool.and_eq_true] at this
    exact this
  refine j_of ?_ rfl (fun _ => by rw [den] <;> rfl) fun _ _ => rfl
  intro c T k X W lc C
  refine ⟨fun pins s σ H Q I ⟨ρ, O, Oc, ok, g⟩ => ?_⟩
  rw [den] at g
  simp only [Den.of] at g
  have pre : ∃ f, σ[i]? = some (some (.ref (c.A f))) ∧ Go c lc W σ H O Oc ((evs T Es ρ).bind fun rs ρ1 => callR T f rs ρ1) (PV c lc σ Oc H) Q := by
    cases hi : ρ[i]? with
    | none => rw [hi] at g; exact g.elim
    | some sl =>
      rw [hi] at g
      cases sl with
      | v d =>
        cases d with
        | fn f =>
          obtain ⟨v', h1, h2⟩ := ok.atV hi
          cases h2
          exact ⟨f, h1, g⟩
        | _ => exact g.elim
      | _ => exact g.elim
  obtain ⟨f, hσ, g⟩ := pre
  refine wpAny_Call_Name_kw (thn ((pe_var (X := X) (i := i) (pos := p) (by rw [C.hN]; exact hN) (by rw [C.hsc]; exact hv) hdy hcd).run pins s σ H (fun v H1 => v = .ref (c.A f) ∧ H1 = H) I ⟨.ref (c.A f), hσ, rfl, rfl⟩) fun u s0 ⟨v, H0, I0, r0, ev, eH⟩ => ?_)
  subst ev eH
  cases r0
  refine PySem.W.callWith_K (h₀ := X.base) I0.ok.mod.kin ?_ (thn ((h.a c T k X W lc C).run pos pins s0 σ H0 _ I0 ⟨ρ, O, Oc, ok, (Go.bind [] g).imp fun vs H1 q => q⟩) fun us s1 ⟨vs, H1, I1, r, q⟩ => ⟨I1.kIn, ?_⟩) (starE_cons hs.1) (star_any hs.2)
  · exact C.kp f
  · obtain ⟨rs, ρ1, O1, st, ⟨ok1, rr, n⟩, g1⟩ := q
    obtain ⟨hio, ds, rt, cc, hl, hT, g2⟩ := callR_inv g1
    obtain ⟨fd, ps, F, hb⟩ := C.call f ds _ hT
    exact run_fnS F (C.room hcm) hb (passAt C.tk σ) I1 r (call_sp (W := W) ok1 rr hl hT hio (fun b hb => st.none hb) g2)
/-! ### x.pop(e) -/
theorem place_seq {n j : Nat} {k : Int} (h : placeOf n k = some j) : seqIndex? k n = some j := by
  unfold placeOf at h
  unfold seqIndex?
  by_cases h0 : 0 ≤ k
  · rw [if_pos h0] at h
    by_cases h1 : k < n
    · rw [if_pos h1] at h
      cases h
      have : ¬ k < 0 := by omega
      simp [this, h0, h1]
    · rw [if_neg h1] at h; cases h
  · rw [if_neg h0] at h
    by_cases h1 : -(n : Int) ≤ k
    · rw [if_pos h1] at h
      cases h
      have a : k < 0 := by omega
      have b : 0 ≤ k + n := by omega
      have c : k + n < n := by omega
      simp [a, b, c]
    · rw [if_neg h1] at h; cases h
theorem j_pop {x : Str} {i : Nat} {e : Expr} {E1 : E} {p apos cpos : Pos} (hN : N[i]? = some x) (hv : Vis sc x) (hd : (x == ("__debug__" : Str)) = false) (hcd : (x == ("__classdict__" : Str)) = false) (hline : (apos.endLine == cpos.line) = true) (h : J nm N sc e E1) :
    J nm N sc (.Call (.Attribute (.Name x p) "pop" apos) [e] [] cpos) (.pop i [E1]) := by
  have hj : JE nm N sc (.Call (.Attribute (.Name x p) "pop" apos) [e] [] cpos) (.pop i [E1]) := by
    intro c T k X W lc C
    have pb := pe_bm (X := X) (apos := apos) (cpos := cpos) PySem.F.plainAttrs_list PySem.F.slot_list_pop PySem.F.type_list_pop mt_popAt (pe_var (X := X) (i := i) (pos := p) (by rw [C.hN]; exact hN) (by rw [C.hsc]; exact hv) hd hcd) (pa_cons (h.je c T k X W lc C) pa_nil (starE_cons h.js)) rfl (by rw [starE_cons h.js]; rfl) hline (starE_cons h.js) rfl
    refine PE.imp pb fun σ H Q ⟨ρ, O, Oc, ok, g⟩ => ?_
    rw [den] at g
    simp only [Den.of, evi_one] at g
    cases hi0 : ρ[i]? with
    | none => rw [hi0] at g; exact g.elim
    | some s0 =>
      rw [hi0] at g
      cases s0 with
      | ol xs0 =>
        obtain ⟨a, vs0, ha, hpO, hH0, _⟩ := ok.own (xs := xs0) hi0 rfl
        refine ⟨.ref a, ha, .inl ⟨rfl, vs0, SqL.of hH0⟩, ρ, O, Oc, ok, (Go.bind [] g).imp fun w H1 ⟨y, ρ1, O1, st, ⟨pr, n⟩, g1⟩ => ?_⟩
        have pr : PR c lc ρ1 σ H1 O1 Oc y w := pr
        have k2 := pend_sub pr.ok
        cases l1 : look ρ1 y with
        | none => rw [l1] at g1; exact g1.elim
        | some d =>
          rw [l1] at g1
          cases d with
          | int k =>
            obtain rfl := (pr.ok.look pr.rr l1).int
            dsimp only at g1
            cases hs : slotO i ρ1 with
            | none => rw [hs] at g1; exact g1.elim
            | some xs =>
              rw [hs] at g1
              have hi : ρ1[i]? = some (.ol xs) := by
                unfold slotO at hs
                cases hq : ρ1[i]? with
                | none => rw [hq] at hs; cases hs
                | some s1 =>
                  rw [hq] at hs
                  cases s1 with
                  | ol zs => cases hs; rfl
                  | _ => cases hs
              obtain ⟨a', vs, ha', haO, hH, rx⟩ := k2.own (xs := xs) hi rfl
              rw [ha] at ha'
              cases ha'
              dsimp only at g1
              rw [show popL xs [k] = if r62 k then (placeOf xs.length k).bind fun j => xs[j]?.map fun x => (j, x) else none from rfl] at g1
              by_cases hr : r62 k = true
              · rw [if_pos hr] at g1
                cases hp : placeOf xs.length k with
                | none => rw [hp] at g1; exact g1.elim
                | some j =>
                  rw [hp] at g1
                  cases hx : xs[j]? with
                  | none => rw [show (some j).bind (fun j => xs[j]?.map fun x => (j, x)) = none from by show xs[j]?.map _ = none; rw [hx]; rfl] at g1; exact g1.elim
                  | some z =>
                    rw [show (some j).bind (fun j => xs[j]?.map fun x => (j, x)) = some (j, z) from by show xs[j]?.map _ = _; rw [hx]; rfl] at g1
                    dsimp only at g1
                    obtain ⟨u, hu, ru⟩ := rx.get hx
                    obtain ⟨O3, pm, st3, k3⟩ := k2.putU (ys := xs.eraseIdx j) (ws := vs.eraseIdx j) hi rfl ha hH haO (rx.eraseIdx j) fun ⟨zs, e⟩ => by cases e
                    unfold r62 at hr
                    simp only [Bool.and_eq_true, decide_eq_true_eq] at hr
                    refine ⟨a, vs, k, j, u, rfl, rfl, hH, by omega, by omega, by rw [← rx.length]; exact place_seq hp, hu, ?_⟩
                    refine g1 u _ O3 st3 ⟨⟨k3, ?_⟩, fun b hb => by cases hb⟩
                    have sub : Le (Vw H1 (O1 ++ Oc)) (Vw (L2.upd H1 a (.lst (vs.eraseIdx j))) (O3 ++ Oc)) := fun b w e t => by
                      obtain ⟨z1, z2⟩ := Vw.some_iff.mp e
                      have hb : b ≠ a := fun z => z1 (List.mem_append_left _ (z ▸ haO))
                      refine Vw.some_iff.mpr ⟨fun z => z1 ?_, by rw [upd_ne hb]; exact z2⟩
                      rcases List.mem_append.mp z with z | z
                      · exact List.mem_append_left _ (pm.mem_iff.mp z)
                      · exact List.mem_append_right _ z
                    exact ru.mono sub
              · rw [if_neg hr] at g1; exact g1.elim
          | _ => exact g1.elim
      | _ => exact g.elim
  exact ⟨hj, jt_of hj (fun _ => by rw [den] <;> rfl) fun _ _ => rfl, rfl⟩
end VL
end
section
set_option maxHeartbeats 4000000
/-! V23: a text, read. -/
namespace VL
open PySem PySem.Spec PyProof.Rows L2
def lookN : (N : List Str) → (x : Str) → Option {i : Nat // N[i]? = some x}
  | [], _ => none
  | y :: N, x => if h : y = x then some ⟨0, by rw [h]; rfl⟩ else match lookN N x with
    | some ⟨i, hi⟩ => some ⟨i + 1, by simpa using hi⟩
    | none => none
def lookM {α : Type} : (l : List (Str × α)) → (x : Str) → Option {a : α // (x, a) ∈ l}
  | [], _ => none
  | (y, a) :: l, x => if h : y = x then some ⟨a, by rw [h]; exact List.mem_cons_self⟩ else match lookM l x with
    | some ⟨b, hb⟩ => some ⟨b, List.mem_cons_of_mem _ hb⟩
    | none => none
section
variable (nm : Nm) (N : List Str)
abbrev PrE (sc : Scope) (e : Expr) : Type := Option {E1 : E // J nm N sc e E1}
abbrev PrA (sc : Scope) (es : List Expr) : Type := Option {Es : List E // JA nm N sc es Es}
def visD (sc : Scope) (x : Str) : Option (PLift (Vis sc x)) :=
  if h : sc.names.lookup x = some .local then some ⟨.inl h⟩
  else if h : sc.names.lookup x = some .cell then some ⟨.inr (.inl h)⟩
  else if h : sc.names.lookup x = some .free then some ⟨.inr (.inr h)⟩ else none
def pName (sc : Scope) (x : Str) (pos : Pos) : PrE nm N sc (.Name x pos) :=
  if hd : (x == ("__debug__" : Str)) = false then
    if hcd : (x == ("__classdict__" : Str)) = false then
      match visD sc x with
      | some ⟨hv⟩ => (match lookN N x with
        | some ⟨i, hi⟩ => some ⟨.var i, j_var hi hv hd hcd⟩
        | none => none)
      | none => if hg : sc.names.lookup x = some .globalImplicit then
          (match lookM nm.cons x with
          | some ⟨d, h⟩ => some ⟨.glo d, j_glo h hg hd⟩
          | none => match lookM nm.fns x with
            | some ⟨f, h⟩ => some ⟨.fnv f, j_fnv h hg hd⟩
            | none => none)
        else none
    else none
  else none
def pArgs {sc : Scope} (p : (e : Expr) → PrE nm N sc e) : (es : List Expr) → PrA nm N sc es
  | [] => some ⟨[], ja_nil⟩
  | e :: es => match p e, pArgs p es with
    | some ⟨E1, h⟩, some ⟨Es, hs⟩ => some ⟨E1 :: Es, ja_cons h hs⟩
    | _, _ => none
def pBools {sc : Scope} (p : (e : Expr) → PrE nm N sc e) (op : PySem.BoolOp) : (es : List Expr) → Option {E1 : E // JB nm N sc op es E1}
  | [] => none
  | [e] => match p e with
    | some ⟨E1, h⟩ => some ⟨E1, jb_one h⟩
    | none => none
  | e :: e2 :: es => match p e, pBools p op (e2 :: es) with
    | some ⟨E1, h⟩, some ⟨E2, h2⟩ => (match op, h2 with
      | .And, h2 => some ⟨.and E1 E2, jb_and h h2⟩
      | .Or, h2 => some ⟨.or E1 E2, jb_or h h2⟩)
    | _, _ => none
def opOf : (o' : Operator) → Option {o : Op // ∀ (X : Cx) (c : Cf), X.K = c.K → OpR X (binaryOp o') (rOp c (binop o))}
  | .Add => some ⟨.add, fun _ _ h => opr_add h⟩
  | .Sub => some ⟨.sub, fun _ _ h => opr_sub h⟩
  | .Mult => some ⟨.mul, fun _ _ h => opr_mul h⟩
  | .FloorDiv => some ⟨.div, fun _ _ h => opr_div h⟩
  | .Mod => some ⟨.mod, fun _ _ h => opr_mod h⟩
  | .Pow => some ⟨.pow, fun _ _ h => opr_pow h⟩
  | _ => none
def cmBack : (o : CmpOp) → Option {m : Cm // cmOf m = o}
  | .Eq => some ⟨.eq, rfl⟩
  | .NotEq => some ⟨.ne, rfl⟩
  | .Lt => some ⟨.lt, rfl⟩
  | .LtE => some ⟨.le, rfl⟩
  | .Gt => some ⟨.gt, rfl⟩
  | .GtE => some ⟨.ge, rfl⟩
  | .Is => some ⟨.is_, rfl⟩
  | .IsNot => some ⟨.isn, rfl⟩
  | .In => some ⟨.in_, rfl⟩
  | .NotIn => some ⟨.nin, rfl⟩
/-- built-in functions -/
structure BiEnt where
  x : Str
  b : Bi
  f : Value
  n : Nat
  hf : (∃ id, f = .builtin id) ∨ ∃ T, f = .type T
  hb : bootBuiltins x = some f
  hc : ∀ (X : Cx) (c : Cf), X.K = c.K → X.calm = true → CallR X f (rBi c (biop b))
  hn : x ≠ "__name__"
  hd : (x == ("__debug__" : Str)) = false
def biTab : List BiEnt := [
  ⟨"len", .len, .builtin "len", 1, .inl ⟨_, rfl⟩, by decide +kernel, fun _ _ h _ => cr_len h, by decide +kernel, by decide +kernel⟩,
  ⟨"abs", .abs, .builtin "abs", 1, .inl ⟨_, rfl⟩, by decide +kernel, fun _ _ h _ => cr_abs h, by decide +kernel, by decide +kernel⟩,
  ⟨"int", .int, .type "int", 1, .inr ⟨_, rfl⟩, by decide +kernel, fun _ _ h _ => cr_int h, by decide +kernel, by decide +kernel⟩,
  ⟨"sum", .sum, .builtin "sum", 1, .inl ⟨_, rfl⟩, by decide +kernel, fun _ _ h hc => cr_sumD h hc, by decide +kernel, by decide +kernel⟩,
  ⟨"all", .all, .builtin "all", 1, .inl ⟨_, rfl⟩, by decide +kernel, fun _ _ h hc => cr_allD h hc, by decide +kernel, by decide +kernel⟩,
  ⟨"any", .any, .builtin "any", 1, .inl ⟨_, rfl⟩, by decide +kernel, fun _ _ h hc => cr_anyD h hc, by decide +kernel, by decide +kernel⟩,
  ⟨"max", .max, .builtin "max", 1, .inl ⟨_, rfl⟩, by decide +kernel, fun _ _ h hc => cr_maxD h hc, by decide +kernel, by decide +kernel⟩,
  ⟨"min", .min, .builtin "min", 1, .inl ⟨_, rfl⟩, by decide +kernel, fun _ _ h hc => cr_minD h hc, by decide +kernel, by decide +kernel⟩,
  ⟨"max", .max2, .builtin "max", 2, .inl ⟨_, rfl⟩, by decide +kernel, fun _ _ h hc => cr_max2D h hc, by decide +kernel, by decide +kernel⟩,
  ⟨"min", .min2, .builtin "min", 2, .inl ⟨_, rfl⟩, by decide +kernel, fun _ _ h hc => cr_min2D h hc, by decide +kernel, by decide +kernel⟩,
  ⟨"tuple", .tuple, .type "tuple", 1, .inr ⟨_, rfl⟩, by decide +kernel, fun _ _ h _ => cr_tuple h, by decide +kernel, by decide +kernel⟩,
  ⟨"list", .list, .type "list", 1, .inr ⟨_, rfl⟩, by decide +kernel, fun _ _ h _ => cr_list h, by decide +kernel, by decide +kernel⟩,
  ⟨"sorted", .sorted, .builtin "sorted", 1, .inl ⟨_, rfl⟩, by decide +kernel, fun _ _ h _ => cr_sortedD h, by decide +kernel, by decide +kernel⟩]
def pBi {sc : Scope} {x : Str} {e : Expr} {es : List Expr} {Es : List E} {p pos : Pos} (h : JA nm N sc (e :: es) Es) : List BiEnt → PrE nm N sc (.Call (.Name x p) (e :: es) [] pos)
  | [] => none
  | B :: l => if hx : B.x = x ∧ B.n = (e :: es).length then
      (if hm : x ∈ nm.free then
        (if hg : sc.names.lookup x = some .globalImplicit ∧ nm.calm = true then some ⟨.bi B.b Es, by
            obtain ⟨rfl, _⟩ := hx
            exact j_bi hg.2 B.hf B.hb B.hc hm hg.1 B.hn B.hd h⟩ else none)
      else none)
    else pBi h l
def tyBack (x : Str) : Option {t : Ty // Str.ofString (tyS t) = x} :=
  if h : Str.ofString "int" = x then some ⟨.int, h⟩
  else if h : Str.ofString "bool" = x then some ⟨.bool, h⟩
  else if h : Str.ofString "str" = x then some ⟨.str, h⟩
  else if h : Str.ofString "tuple" = x then some ⟨.tuple, h⟩
  else if h : Str.ofString "list" = x then some ⟨.list, h⟩
  else if h : Str.ofString "dict" = x then some ⟨.dict, h⟩ else none
def pTys (sc : Scope) : (es : List Expr) → Option {ts : List Ty // JTy nm sc es ts}
  | [] => some ⟨[], jty_nil⟩
  | .Name x p :: es => match tyBack x, pTys sc es with
    | some ⟨t, ht⟩, some ⟨ts, h⟩ => if hm : x ∈ nm.free then
        (if hg : sc.names.lookup x = some .globalImplicit then some ⟨t :: ts, by subst ht; exact jty_cons hm hg h⟩ else none)
      else none
    | _, _ => none
  | _ => none
def plainB : Expr → Bool
  | .Slice _ _ _ _ => false
  | _ => true
theorem plainB_ok {e : Expr} (h : plainB e = true) : PlainIx e := by
  intro o i
  cases e <;> first | rfl | (cases h)
def wrD (sc : Scope) (fp : Str → Bool) (x : Str) : Option (PLift (WrOk sc fp x)) :=
  if h : sc.names.lookup x = some .local then some ⟨.inl h⟩
  else if h : sc.names.lookup x = some .cell ∧ fp x = true then some ⟨.inr h⟩ else none
mutual
/-- a pattern -/
def pPat (sc : Scope) (fp : Str → Bool) : Nat → (tg : Expr) → Option {p : Pat // JP nm N sc fp tg p}
  | 0, _ => none
  | n + 1, .Name x pos => (match lookN N x, wrD sc fp x with
    | some ⟨i, hi⟩, some ⟨hw⟩ => some ⟨.nm i, jp_nm hi hw⟩
    | _, _ => none)
  | n + 1, .Tuple es m pos => if hcm : nm.calm = true then (match pPats sc fp n es with
    | some ⟨ps, h⟩ => some ⟨.tp ps, jp_tp hcm h⟩
    | none => none) else none
  | _ + 1, _ => none
def pPats (sc : Scope) (fp : Str → Bool) : Nat → (tgs : List Expr) → Option {ps : List Pat // JPs nm N sc fp tgs ps}
  | 0, _ => none
  | _ + 1, [] => some ⟨[], jps_nil⟩
  | n + 1, e :: es => if he : plainT e = true then
      (match pPat sc fp n e, pPats sc fp n es with
      | some ⟨p, h⟩, some ⟨ps, hs⟩ => some ⟨p :: ps, jps_cons he h hs⟩
      | _, _ => none)
    else none
end
abbrev PrI (sc : Scope) (tg iter : Expr) : Type := Option {q : Ik × List E // JI nm N sc tg iter q.1 q.2}
end
theorem fset_ok {e : Expr} (h : notStar e = true) (env : PySem.Env) (x : Value) : foldedSetIterable e env x = pure x := by
  cases e <;> first | rfl | (cases h)
def isTupB : Expr → Bool
  | .Tuple _ _ _ => true
  | _ => false
section
variable (nm : Nm) (N : List Str)
/-- a comprehension's parts -/
structure LcJ (nm : Nm) (N : List Str) (sc : Scope) (elt tg iter : Expr) (ifs : List Expr) (scope : Scope) where
  k : Ik
  Es : List E
  Cs : List E
  p : Pat
  E1 : E
  own : List (Str × Nat)
  hi : JI nm N sc tg iter k Es
  hb : BlkOk N sc scope own
  hown : own.map (·.2) = patSlots p
  hnd : (patSlots p).Nodup
  hp : JP nm N (relS scope sc) (fun x => scope.names.lookup x == some .cell) tg p
  hcs : JC nm N (relS scope sc) ifs Cs
  he : J nm N (relS scope sc) elt E1
  hcm : nm.calm = true
def LcJ.e {nm : Nm} {N : List Str} {sc : Scope} {elt tg iter : Expr} {ifs : List Expr} {scope : Scope} (l : LcJ nm N sc elt tg iter ifs scope) : E := .lc l.k l.Es l.p l.Cs l.E1
theorem LcJ.j {nm : Nm} {N : List Str} {sc : Scope} {elt tg iter : Expr} {ifs : List Expr} {scope : Scope} {pos : Pos} (l : LcJ nm N sc elt tg iter ifs scope) : J nm N sc (.ListComp elt [⟨tg, iter, ifs, 0⟩] scope pos) l.e := j_lc l.hcm l.hi l.hb l.hown l.hnd l.hp l.hcs l.he
/-- what is walked -/
def pIter {sc : Scope} (p : (e : Expr) → PrE nm N sc e) (tg iter : Expr) : PrI nm N sc tg iter :=
  let other : PrI nm N sc tg iter := match p iter with
    | some ⟨E1, h⟩ => some ⟨(.of, [E1]), ji_of (fset_ok h.js) h⟩
    | none => none
  match tg, iter, other with
  | tg, .Call (.Name x q) [a] [] pos, other =>
    if h : x = "range" then
      (if hf : ("range" : Str) ∈ nm.free then
        (if hg : sc.names.lookup ("range" : Str) = some .globalImplicit then
          (match pArgs nm N p [a] with
          | some ⟨[E1], ha⟩ => some ⟨(.rng, [E1]), by subst h; exact ji_rng1 hf hg ha⟩
          | _ => none)
        else none)
      else none)
    else (match tg, other with
      | .Tuple es m tp, other => if h : x = "enumerate" then
          (if hf : ("enumerate" : Str) ∈ nm.free then
            (if hg : sc.names.lookup ("enumerate" : Str) = some .globalImplicit then
              (match pArgs nm N p [a] with
              | some ⟨[E1], ha⟩ => some ⟨(.enum, [E1]), by subst h; exact ji_enum hf hg ha⟩
              | _ => none)
            else none)
          else none)
        else other
      | _, other => other)
  | tg, .Call (.Name x q) [a, b] [] pos, other =>
    if h : x = "range" then
      (if hf : ("range" : Str) ∈ nm.free then
        (if hg : sc.names.lookup ("range" : Str) = some .globalImplicit then
          (match pArgs nm N p [a, b] with
          | some ⟨[E1, E2], ha⟩ => some ⟨(.rng2, [E1, E2]), by subst h; exact ji_rng2 hf hg ha⟩
          | _ => none)
        else none)
      else none)
    else (match tg, other with
      | .Tuple es m tp, other => if h : x = "zip" then
          (if hf : ("zip" : Str) ∈ nm.free then
            (if hg : sc.names.lookup ("zip" : Str) = some .globalImplicit then
              (match pArgs nm N p [a, b] with
              | some ⟨[E1, E2], ha⟩ => some ⟨(.zip, [E1, E2]), by subst h; exact ji_zip hf hg ha⟩
              | _ => none)
            else none)
          else none)
        else other
      | _, other => other)
  | tg, .Call (.Name x q) [a, b, c] [] pos, other =>
    if h : x = "range" then
      (if hf : ("range" : Str) ∈ nm.free then
        (if hg : sc.names.lookup ("range" : Str) = some .globalImplicit then
          (match pArgs nm N p [a, b, c] with
          | some ⟨[E1, E2, E3], ha⟩ => some ⟨(.rng3, [E1, E2, E3]), by subst h; exact ji_rng3 hf hg ha⟩
          | _ => none)
        else none)
      else none)
    else other
  | _, _, other => other
def pTests {sc : Scope} (p : (e : Expr) → PrE nm N sc e) : (es : List Expr) → Option {Cs : List E // JC nm N sc es Cs}
  | [] => some ⟨[], jc_nil⟩
  | [e] => match p e with
    | some ⟨E1, h⟩ => some ⟨[E1], jc_one h⟩
    | none => none
  | _ => none
/-- a comprehension -/
def pLc (n : Nat) (p : (sc : Scope) → (e : Expr) → PrE nm N sc e) (sc : Scope) (elt tg iter : Expr) (ifs : List Expr) (scope : Scope) : Option (LcJ nm N sc elt tg iter ifs scope) :=
  match pIter nm N (p sc) tg iter, pPat nm N (relS scope sc) (fun x => scope.names.lookup x == some .cell) n tg, pTests nm N (p (relS scope sc)) ifs, p (relS scope sc) elt with
  | some ⟨(k, Es), hi⟩, some ⟨pt, hp⟩, some ⟨Cs, hcs⟩, some ⟨E1, he⟩ =>
    if hnd : (patSlots pt).Nodup ∧ nm.calm = true then
      (if hb : blkC N sc scope ((patSlots pt).map fun i => (N.getD i "", i)) = true then
        some ⟨k, Es, Cs, pt, E1, _, hi, blkOk_by hb, by rw [List.map_map]; exact List.map_id _, hnd.1, hp, hcs, he, hnd.2⟩
      else none)
    else none
  | _, _, _, _ => none
/-- calls of the text's defs -/
def pCall (ios : Nat → Bool) {sc : Scope} (p : (e : Expr) → PrE nm N sc e) (x : Str) (q : Pos) (es : List Expr) (pos : Pos) : PrE nm N sc (.Call (.Name x q) es [] pos) :=
  match lookM nm.fns x with
  | some ⟨f, hm⟩ => if hg : sc.names.lookup x = some .globalImplicit ∧ nm.calm = true then
      (if hd : (x == ("__debug__" : Str)) = false then
        (match ios f, es with
        | true, .Name y p2 :: es => (match lookN N y, visD sc y, pArgs nm N p es with
          | some ⟨i, hi⟩, some ⟨hv⟩, some ⟨Es, h⟩ => if hdy : (y == ("__debug__" : Str)) = false then
              (if hcd : (y == ("__classdict__" : Str)) = false then some ⟨.calli f i Es, j_calli hg.2 hm hg.1 hd hi hv hdy hcd h⟩ else none)
            else none
          | _, _, _ => none)
        | false, e :: es => (match pArgs nm N p (e :: es) with
          | some ⟨Es, h⟩ => some ⟨.call f Es, j_call hg.2 hm hg.1 hd h⟩
          | none => none)
        | _, _ => none)
      else none)
    else none
  | none => (match es with
    | e :: es => (match lookN N x, visD sc x, pArgs nm N p (e :: es) with
      | some ⟨i, hi⟩, some ⟨hv⟩, some ⟨Es, h⟩ => if hd : nm.calm = true ∧ (x == ("__debug__" : Str)) = false ∧ (x == ("__classdict__" : Str)) = false then
          some ⟨.callv i Es, j_callv hd.1 hi hv hd.2.1 hd.2.2 h⟩ else none
      | _, _, _ => none)
    | [] => none)
/-- x.pop(e) -/
def pPop {sc : Scope} (p : (e : Expr) → PrE nm N sc e) : (o : Expr) → (name : Str) → (apos : Pos) → (e : Expr) → (cpos : Pos) → PrE nm N sc (.Call (.Attribute o name apos) [e] [] cpos)
  | .Name x q, name, apos, e, cpos => if hm : name = "pop" then
      (match lookN N x, visD sc x, p e with
      | some ⟨i, hi⟩, some ⟨hv⟩, some ⟨A, ha⟩ => if hd : ((x == ("__debug__" : Str)) = false ∧ (x == ("__classdict__" : Str)) = false) ∧ (apos.endLine == cpos.line) = true then
          some ⟨.pop i [A], by subst hm; exact j_pop hi hv hd.1.1 hd.1.2 hd.2 ha⟩ else none
      | _, _, _ => none)
    else none
  | _, _, _, _, _ => none
/-- a method's object, plain -/
def objB : Expr → Bool
  | .Name _ _ => true
  | .List _ _ => true
  | _ => false
theorem objB_ok {o : Expr} (name : Str) (h : objB o = true) (env : PySem.Env) : attributeBase o name env (eval o env) = eval o env := by
  cases o <;> first | rfl | cases h
abbrev Hk (nm : Nm) (N : List Str) : Type := (sc : Scope) → (e : Expr) → PrE nm N sc e
variable (hk : Hk nm N)
/-- an expression -/
def pExpr (ios : Nat → Bool) : Nat → (sc : Scope) → (e : Expr) → PrE nm N sc e
  | 0, _, _ => none
  | _ + 1, sc, .Name x pos => pName nm N sc x pos
  | _ + 1, sc, .Constant .none j pos => some ⟨_, j_none⟩
  | _ + 1, sc, .Constant (.bool b) j pos => some ⟨_, j_bl⟩
  | _ + 1, sc, .Constant (.int b) j pos => some ⟨_, j_int⟩
  | _ + 1, sc, .Constant (.str b) j pos => if h : PyData.strOk b = true then some ⟨_, j_str h⟩ else none
  | n + 1, sc, .BinOp a o b pos => (match opOf o, pExpr ios n sc a, pExpr ios n sc b with
    | some ⟨o', ho⟩, some ⟨A, ha⟩, some ⟨B, hb⟩ => some ⟨.bin o' A B, j_bin ho ha hb⟩
    | _, _, _ => none)
  | n + 1, sc, .UnaryOp .USub a pos => (match pExpr ios n sc a with
    | some ⟨A, ha⟩ => some ⟨.neg A, j_neg ha⟩
    | none => none)
  | n + 1, sc, .UnaryOp .Not a pos => (match pExpr ios n sc a with
    | some ⟨A, ha⟩ => some ⟨.not A, j_not ha⟩
    | none => none)
  | n + 1, sc, .BoolOp op es pos => (match pBools nm N (pExpr ios n sc) op es with
    | some ⟨A, ha⟩ => some ⟨A, ha.j⟩
    | none => none)
  | n + 1, sc, .IfExp t a b pos => (match pExpr ios n sc t, pExpr ios n sc a, pExpr ios n sc b with
    | some ⟨C, hc⟩, some ⟨A, ha⟩, some ⟨B, hb⟩ => some ⟨.ite C A B, j_ite hc ha hb⟩
    | _, _, _ => none)
  | n + 1, sc, .Compare a [o] [b] pos =>
    let plain : PrE nm N sc (.Compare a [o] [b] pos) := match cmBack o, pExpr ios n sc a, pExpr ios n sc b with
      | some ⟨m, hm⟩, some ⟨A, ha⟩, some ⟨B, hb⟩ => some ⟨.cmp m A B, by subst hm; exact j_cmp m ha hb⟩
      | _, _, _ => none
    (match o, b, plain with
    | .In, .Name x p, plain => (match lookM nm.tabs x with
      | some ⟨t, hm⟩ => if hg : sc.names.lookup x = some .globalImplicit then
          (if hd : (x == ("__debug__" : Str)) = false then
            (match pExpr ios n sc a with
            | some ⟨A, ha⟩ => some ⟨.tabin t false A, j_tabin (neg := false) hm hg hd ha⟩
            | none => none)
          else none)
        else none
      | none => plain)
    | .NotIn, .Name x p, plain => (match lookM nm.tabs x with
      | some ⟨t, hm⟩ => if hg : sc.names.lookup x = some .globalImplicit then
          (if hd : (x == ("__debug__" : Str)) = false then
            (match pExpr ios n sc a with
            | some ⟨A, ha⟩ => some ⟨.tabin t true A, j_tabin (neg := true) hm hg hd ha⟩
            | none => none)
          else none)
        else none
      | none => plain)
    | _, _, plain => plain)
  | n + 1, sc, .Compare a [o, o'] [b, c] pos => (match cmBack o, cmBack o', pExpr ios n sc a, pExpr ios n sc b, pExpr ios n sc c with
    | some ⟨m, hm⟩, some ⟨m', hm'⟩, some ⟨A, ha⟩, some ⟨B, hb⟩, some ⟨C, hc⟩ => some ⟨.chain m m' A B C, by subst hm hm'; exact j_chain m m' ha hb hc⟩
    | _, _, _, _, _ => none)
  | n + 1, sc, .Tuple es m pos => (match pArgs nm N (pExpr ios n sc) es with
    | some ⟨Es, h⟩ => some ⟨.tup Es, j_tup h⟩
    | none => none)
  | n + 1, sc, .List es pos => (match pArgs nm N (pExpr ios n sc) es with
    | some ⟨Es, h⟩ => some ⟨.lst Es, j_lst h⟩
    | none => none)
  | _ + 1, sc, .Dict [] [] pos => some ⟨.emp, j_emp⟩
  | n + 1, sc, .Subscript a (.Slice none none none p2) pos => (match pExpr ios n sc a with
    | some ⟨A, ha⟩ => some ⟨_, j_slcAll ha⟩
    | none => none)
  | n + 1, sc, .Subscript a (.Slice none none (some (.UnaryOp .USub (.Constant (.int 1) j p1) p2)) p3) pos => (match pExpr ios n sc a with
    | some ⟨A, ha⟩ => some ⟨_, j_slcRev ha⟩
    | none => none)
  | n + 1, sc, .Subscript a (.Slice (some b) none none p2) pos => (match pExpr ios n sc a, pExpr ios n sc b with
    | some ⟨A, ha⟩, some ⟨B, hb⟩ => some ⟨_, j_slcLo ha hb⟩
    | _, _ => none)
  | n + 1, sc, .Subscript a (.Slice none (some b) none p2) pos => (match pExpr ios n sc a, pExpr ios n sc b with
    | some ⟨A, ha⟩, some ⟨B, hb⟩ => some ⟨_, j_slcHi ha hb⟩
    | _, _ => none)
  | n + 1, sc, .Subscript a (.Slice (some b) (some c) none p2) pos => (match pExpr ios n sc a, pExpr ios n sc b, pExpr ios n sc c with
    | some ⟨A, ha⟩, some ⟨B, hb⟩, some ⟨C, hc⟩ => some ⟨_, j_slcBo ha hb hc⟩
    | _, _, _ => none)
  | n + 1, sc, .Subscript a b pos => if hp : plainB b = true then
      (let plain : PrE nm N sc (.Subscript a b pos) := match pExpr ios n sc a, pExpr ios n sc b with
        | some ⟨A, ha⟩, some ⟨B, hb⟩ => some ⟨.sub A B, j_sub ha hb (plainB_ok hp)⟩
        | _, _ => none
      match a, plain with
      | .Name x p, plain => (match lookM nm.tabs x with
        | some ⟨t, hm⟩ => if hg : sc.names.lookup x = some .globalImplicit then
            (if hd : (x == ("__debug__" : Str)) = false then
              (match pExpr ios n sc b with
              | some ⟨B, hb⟩ => some ⟨.tabget t B, j_tabget hm hg hd hb (plainB_ok hp)⟩
              | none => none)
            else none)
          else none
        | none => plain)
      | _, plain => plain)
    else none
  | n + 1, sc, .ListComp elt [⟨tg, iter, ifs, 0⟩] scope pos => (match pLc nm N n (pExpr ios n) sc elt tg iter ifs scope with
    | some l => some ⟨l.e, l.j⟩
    | none => none)
  | n + 1, sc, .Call (.Attribute o name apos) [e] [] cpos =>
    (match pPop nm N (pExpr ios n sc) o name apos e cpos with
    | some r => some r
    | none =>
    match pExpr ios n sc o, pExpr ios n sc e with
    | some ⟨A, ha⟩, some ⟨B, hb⟩ => if hl : (apos.endLine == cpos.line) = true ∧ objB o = true then
        (if hm : name = "count" then some ⟨.mt .count A [B], by subst hm; exact j_mt (m := .count) PySem.F.slot_list_count PySem.F.type_list_count (fun X c => mtr_count) (objB_ok _ hl.2) ha hb hl.1⟩
        else if hm : name = "index" then some ⟨.mt .index A [B], by subst hm; exact j_mt (m := .index) PySem.F.slot_list_index PySem.F.type_list_index (fun X c => mtr_index) (objB_ok _ hl.2) ha hb hl.1⟩
        else none)
      else none
    | _, _ => none)
  | n + 1, sc, .Call (.Name x q) (e :: es) [] pos =>
    (match hk sc (.Call (.Name x q) (e :: es) [] pos) with
    | some r => some r
    | none =>
    let other : PrE nm N sc (.Call (.Name x q) (e :: es) [] pos) := match pCall nm N ios (pExpr ios n sc) x q (e :: es) pos with
      | some r => some r
      | none => match pArgs nm N (pExpr ios n sc) (e :: es) with
        | some ⟨Es, h⟩ => pBi nm N h biTab
        | none => none
    let lr : PrE nm N sc (.Call (.Name x q) (e :: es) [] pos) := match e, es with
      | .Call (.Name y q2) [e2] [] pos2, [] => if h : (x = "list" ∧ y = "range") ∧ nm.calm = true ∧ (("list" : Str) ∈ nm.free ∧ sc.names.lookup ("list" : Str) = some .globalImplicit) ∧ ("range" : Str) ∈ nm.free ∧ sc.names.lookup ("range" : Str) = some .globalImplicit then
          (match pExpr ios n sc e2 with
          | some ⟨E1, h1⟩ => some ⟨.bi .lrange1 [E1], by
              obtain ⟨⟨rfl, rfl⟩, hc, ⟨ha, hb⟩, hd, he⟩ := h
              exact j_lrange1 hc ha hb hd he h1⟩
          | none => none)
        else none
      | _, _ => none
    match lr with
    | some r => some r
    | none =>
    (match es, other with
    | [.Name y p2], other => if h : x = "isinstance" then
        (if hi : ("isinstance" : Str) ∈ nm.free then
          (if hig : sc.names.lookup ("isinstance" : Str) = some .globalImplicit then
            (match pExpr ios n sc e, tyBack y, pTys nm sc [.Name y p2] with
            | some ⟨A, ha⟩, some ⟨t, ht⟩, some ⟨ts, hts⟩ => if e2 : ts = [t] then some ⟨.isi A [t], by
                subst h e2 ht
                exact j_isi ha hi hig hts⟩ else none
            | _, _, _ => none)
          else none)
        else none)
      else other
    | [.Tuple tys m p2], other => if h : x = "isinstance" then
        (if hi : ("isinstance" : Str) ∈ nm.free then
          (if hig : sc.names.lookup ("isinstance" : Str) = some .globalImplicit then
            (match pExpr ios n sc e, pTys nm sc tys with
            | some ⟨A, ha⟩, some ⟨ts, hts⟩ => if hz : ts.length ≤ 1000 then some ⟨.isi A ts, by
                subst h
                exact j_isis ha hi hig hts hz⟩ else none
            | _, _ => none)
          else none)
        else none)
      else other
    | _, other => other))
  | _ + 1, _, _ => none
end
/-- in a suite: isinstance(e, X) -/
def hkS (nm : Nm) (N : List Str) : Hk nm N
  | sc, .Call (.Name x q) [.Name y p2, .Name z p3] [] pos => if hq : x = "isinstance" ∧ nm.calm = false ∧ ("isinstance" : Str) ∈ nm.free ∧ sc.names.lookup ("isinstance" : Str) = some .globalImplicit ∧ (y == ("__debug__" : Str)) = false ∧ (y == ("__classdict__" : Str)) = false then
      (match lookN N y, visD sc y with
      | some ⟨i, hi⟩, some ⟨hv⟩ => if hz : z = "ValueError" then
            (if h2 : ("ValueError" : Str) ∈ nm.free ∧ sc.names.lookup ("ValueError" : Str) = some .globalImplicit then some ⟨.isx i 0, by
              obtain ⟨rfl, h1, h3, h4, h5, h6⟩ := hq
              subst hz
              exact j_isxV h1 hi hv h5 h6 h3 h4 h2.1 h2.2⟩ else none)
          else (match lookM nm.cls z with
            | some ⟨n, hm⟩ => if h2 : sc.names.lookup z = some .globalImplicit ∧ (z == ("__debug__" : Str)) = false then some ⟨.isx i n, by
                obtain ⟨rfl, h1, h3, h4, h5, h6⟩ := hq
                exact j_isx h1 hi hv h5 h6 h3 h4 hm h2.1 h2.2⟩ else none
            | none => none)
      | _, _ => none)
    else none
  | _, _ => none
def hkN (nm : Nm) (N : List Str) : Hk nm N := fun _ _ => none
/-- x(lambda: e) -/
def hkW (nm : Nm) (N : List Str) (ios : Nat → Bool) : Hk nm N
  | sc, .Call (.Name x p) [.Lambda ⟨[], [], none, [], [], none, []⟩ body scope lpos] [] pos => if hq : nm.calm = true ∧ nm.lam = true ∧ sc.names.lookup x = some .globalImplicit ∧ (x == ("__debug__" : Str)) = false ∧ LamX.lamSB sc scope = true then
      (match lookM nm.wds x, pExpr (nm.lm false) N (hkN _ _) ios 200 scope body with
      | some ⟨f, hm⟩, some ⟨E1, h⟩ => some ⟨.word f E1, j_word hq.1 hq.2.1 hm hq.2.2.1 hq.2.2.2.1 (LamX.lamS_by hq.2.2.2.2) (fun _ => rfl) (fun _ _ _ _ _ => rfl) h⟩
      | _, _ => none)
    else none
  | _, _ => none
end VL
end
section
set_option maxHeartbeats 4000000
/-! V24: statements, read. -/
namespace VL
open PySem PySem.Spec PyProof.Rows L2 C8
section
variable (nm : Nm) (N : List Str)
abbrev PrS (sc : Scope) (s : Stmt) : Type := Option {S1 : S // JS nm N sc s S1}
theorem sw_nt {ts : List Expr} {n : Nat} {p : Pos} {e : Expr} (h : isTupB e = false) (env : PySem.Env) : swappedStores [.Tuple ts n p] e env = pure none := by
  unfold swappedStores
  cases e <;> first | rfl | (cases h)
mutual
/-- targets of a row -/
def pTg (sc : Scope) : Nat → (tg : Expr) → Option {p : Pat // JQ nm N sc tg p}
  | 0, _ => none
  | n + 1, .Name x pos => (match lookN N x, wrD sc allF x with
    | some ⟨i, hi⟩, some ⟨hw⟩ => some ⟨.nm i, jq_nm hi hw⟩
    | _, _ => none)
  | n + 1, .Tuple es m pos => if hcm : nm.calm = true then (match pPats nm N sc allF n es with
    | some ⟨ps, h⟩ => some ⟨.tp ps, jq_tp hcm h⟩
    | none => none) else none
  | _ + 1, _ => none
def pTgs (sc : Scope) : Nat → (tgs : List Expr) → Option {ps : List Pat // JQs nm N sc tgs ps}
  | 0, _ => none
  | _ + 1, [] => some ⟨[], jqs_nil⟩
  | n + 1, e :: es => if he : plainT e = true then
      (match pTg sc n e, pTgs sc n es with
      | some ⟨p, h⟩, some ⟨ps, hs⟩ => some ⟨p :: ps, jqs_cons he h hs⟩
      | _, _ => none)
    else none
end
variable (hook : Hk nm N)
/-- target = value -/
def pAsg (ios : Nat → Bool) (n : Nat) (sc : Scope) : (tg e : Expr) → (pos : Pos) → PrS nm N sc (.Assign [tg] e pos)
  | .Name x p, .ListComp elt [⟨tg, iter, ifs, 0⟩] scope pos', pos => (match lookN N x, pLc nm N n (pExpr nm N hook ios n) sc elt tg iter ifs scope with
    | some ⟨i, hi⟩, some l =>
      if hl : sc.names.lookup x = some .local then
        (if hk : sc.kind = .function then
          (if hln : (p.line == pos'.line) = true then
            (if ha : (scope.names.any fun (n, k) => n == x && (k == .local || k == .cell)) = false then
              some ⟨.asg (.nm i) l.e, js_asgLc l.hcm hi hl hk hln ha l.hi l.hb l.hown l.hnd l.hp l.hcs l.he⟩
            else none)
          else none)
        else none)
      else if hl : sc.names.lookup x = some .cell then some ⟨.asg (.nm i) l.e, js_asgLcC hi hl l.j⟩ else none
    | _, _ => none)
  | .Name x p, e, pos => if hc : noComp e = true then
      (match lookN N x, wrD sc allF x, pExpr nm N hook ios n sc e with
      | some ⟨i, hi⟩, some ⟨hw⟩, some ⟨E1, h⟩ => some ⟨.asg (.nm i) E1, js_asg hi hw hc h⟩
      | _, _, _ => none)
    else none
  | .Tuple ts m p, .Tuple es m2 q, pos => if hk : sc.kind = .function then
      (match pArgs nm N (pExpr nm N hook ios n sc) es with
      | some ⟨Es, h⟩ =>
        if hsw : swB sc ts es = some none then
          (match pTgs nm N sc n ts with
          | some ⟨ps, hq⟩ => if hz : ps.length ≤ 100 ∧ nm.calm = true then some ⟨.asgs ps Es, js_asgs hz.2 hsw hk hz.1 hq h⟩ else none
          | none => none)
        else (match ts, es, h with
        | [.Name x px, .Name y py], [a, b], h => if hsw : swB sc [.Name x px, .Name y py] [a, b] = some (some [x, y]) then
            (match lookN N x, lookN N y with
            | some ⟨i, hi⟩, some ⟨j, hj⟩ => if hd : i ≠ j ∧ sc.names.lookup x = some .local ∧ sc.names.lookup y = some .local ∧ nm.calm = true then
                some ⟨.asgs [.nm i, .nm j] Es, js_par2 hd.2.2.2 hsw hk hi hj hd.1 hd.2.1 hd.2.2.1 h⟩ else none
            | _, _ => none)
          else none
        | [.Name x px, .Name y py, .Name z pz], [a, b, d], h => if hsw : swB sc [.Name x px, .Name y py, .Name z pz] [a, b, d] = some (some [x, y, z]) then
            (match lookN N x, lookN N y, lookN N z with
            | some ⟨i, hi⟩, some ⟨j, hj⟩, some ⟨l, hl⟩ => if hd : (i ≠ j ∧ i ≠ l ∧ j ≠ l) ∧ sc.names.lookup x = some .local ∧ sc.names.lookup y = some .local ∧ sc.names.lookup z = some .local ∧ nm.calm = true then
                some ⟨.asgs [.nm i, .nm j, .nm l] Es, js_par3 hd.2.2.2.2 hsw hk hi hj hl hd.1.1 hd.1.2.1 hd.1.2.2 hd.2.1 hd.2.2.1 hd.2.2.2.1 h⟩ else none
            | _, _, _ => none)
          else none
        | _, _, _ => none)
      | none => none)
    else none
  | .Tuple ts m p, e, pos => if ht : isTupB e = false then
      (if hc : noComp e = true ∧ nm.calm = true then
        (match pPats nm N sc allF n ts, pExpr nm N hook ios n sc e with
        | some ⟨ps, hp⟩, some ⟨E1, h⟩ => some ⟨.asg (.tp ps) E1, js_asgT hc.2 (sw_nt ht) hc.1 hp h⟩
        | _, _ => none)
      else none)
    else none
  | .Subscript (.Name x p) e2 spos, e, pos => if hc : noComp e = true then
      (if hpl : plainB e2 = true then
        (match lookN N x, visD sc x, pExpr nm N hook ios n sc e2, pExpr nm N hook ios n sc e with
        | some ⟨i, hi⟩, some ⟨hv⟩, some ⟨E2, h2⟩, some ⟨E1, h⟩ => if hd : (x == ("__debug__" : Str)) = false ∧ (x == ("__classdict__" : Str)) = false then
            some ⟨.set i E2 E1, js_set hi hv hd.1 hd.2 hc (fun a b c q e => by subst e; cases hpl) h2 h⟩ else none
        | _, _, _, _ => none)
      else none)
    else none
  | _, _, _ => none
def augOp : (o' : Operator) → Option {o : Op // (o = .add ∧ o' = .Add) ∨ (o = .sub ∧ o' = .Sub)}
  | .Add => some ⟨.add, .inl ⟨rfl, rfl⟩⟩
  | .Sub => some ⟨.sub, .inr ⟨rfl, rfl⟩⟩
  | _ => none
/-- an expression that stands alone -/
def pExp (ios : Nat → Bool) (n : Nat) (sc : Scope) (e : Expr) (pos : Pos) : PrS nm N sc (.Expr e pos) :=
  let other : PrS nm N sc (.Expr e pos) := if hc : noComp e = true then
      (match pExpr nm N hook ios n sc e with
      | some ⟨E1, h⟩ => some ⟨.expr E1, js_expr hc h⟩
      | none => none)
    else none
  match e, other with
  | .Call (.Attribute (.Name x p) m apos) [a] [] cpos, other =>
    if hm : m = "append" then
      (match lookN N x, visD sc x, pExpr nm N hook ios n sc a with
      | some ⟨i, hi⟩, some ⟨hv⟩, some ⟨A, h⟩ => if hd : ((x == ("__debug__" : Str)) = false ∧ (x == ("__classdict__" : Str)) = false) ∧ (apos.endLine == cpos.line) = true then
          some ⟨.app i A, by subst hm; exact js_app hi hv hd.1.1 hd.1.2 hd.2 h⟩ else none
      | _, _, _ => none)
    else if hm : m = "extend" then
      (match lookN N x, visD sc x, pExpr nm N hook ios n sc a with
      | some ⟨i, hi⟩, some ⟨hv⟩, some ⟨A, h⟩ => if hd : ((x == ("__debug__" : Str)) = false ∧ (x == ("__classdict__" : Str)) = false) ∧ (apos.endLine == cpos.line) = true then
          some ⟨.ext i A, by subst hm; exact js_ext hi hv hd.1.1 hd.1.2 hd.2 h⟩ else none
      | _, _, _ => none)
    else other
  | _, other => other
mutual
def pStmt (ios : Nat → Bool) : Nat → (sc : Scope) → (s : Stmt) → PrS nm N sc s
  | 0, _, _ => none
  | n + 1, sc, .Assign [tg] e pos => pAsg nm N hook ios n sc tg e pos
  | n + 1, sc, .AugAssign (.Name x p) o e pos => (match augOp o, lookN N x, wrD sc allF x, pExpr nm N hook ios n sc e with
    | some ⟨o', ho⟩, some ⟨i, hi⟩, some ⟨hw⟩, some ⟨E1, h⟩ => some ⟨.aug i o' E1, js_aug ho hi hw h⟩
    | _, _, _, _ => none)
  | n + 1, sc, .Expr e pos => pExp nm N hook ios n sc e pos
  | n + 1, sc, .Return (some e) pos => (match pExpr nm N hook ios n sc e with
    | some ⟨E1, h⟩ => some ⟨.ret E1, js_ret h⟩
    | none => none)
  | n + 1, sc, .Return none pos => some ⟨.retN, js_retN⟩
  | n + 1, sc, .If t a b pos => (match pExpr nm N hook ios n sc t, pStmts ios n sc a, pStmts ios n sc b with
    | some ⟨E1, h⟩, some ⟨A, ha⟩, some ⟨B, hb⟩ => some ⟨.ife E1 A B, js_if h ha hb⟩
    | _, _, _ => none)
  | n + 1, sc, .While t b [] pos => (match pExpr nm N hook ios n sc t, pStmts ios n sc b with
    | some ⟨E1, h⟩, some ⟨B, hb⟩ => some ⟨.whileS E1 B, js_while h hb⟩
    | _, _ => none)
  | n + 1, sc, .For tg iter b [] pos => if hcm : nm.calm = true then (match pIter nm N (pExpr nm N hook ios n sc) tg iter, pPat nm N sc allF n tg, pStmts ios n sc b with
    | some ⟨(k, Es), hi⟩, some ⟨p, hp⟩, some ⟨B, hb⟩ => some ⟨.forS k Es p B, js_for hcm hi hp hb⟩
    | _, _, _ => none) else none
  | _ + 1, sc, .Raise (some (.Call (.Name x p) [] [] pos)) none pos2 => (match lookM nm.cls x with
    | some ⟨n, hm⟩ => if h : nm.calm = true ∧ n ∈ nm.own ∧ sc.names.lookup x = some .globalImplicit ∧ (x == ("__debug__" : Str)) = false then some ⟨.raise n, js_raise h.1 hm h.2.1 h.2.2.1 h.2.2.2⟩ else some ⟨.stuck, js_stuck⟩
    | none => some ⟨.stuck, js_stuck⟩)
  | _ + 1, sc, .Raise a b pos => some ⟨.stuck, js_stuck⟩
  | _ + 1, sc, .Pass pos => some ⟨.pass, js_pass⟩
  | _ + 1, sc, .Break pos => some ⟨.brk, js_brk⟩
  | _ + 1, sc, .Continue pos => some ⟨.cont, js_cont⟩
  | _ + 1, _, _ => none
def pStmts (ios : Nat → Bool) : Nat → (sc : Scope) → (ss : List Stmt) → Option {Ss : List S // JSs nm N sc ss Ss}
  | 0, _, _ => none
  | _ + 1, _, [] => some ⟨[], jss_nil⟩
  | n + 1, sc, s :: ss => (match (pStmt ios n sc s).getD ⟨.stuck, js_stuck⟩, pStmts ios n sc ss with
    | ⟨S1, h⟩, some ⟨Ss, hs⟩ => some ⟨S1 :: Ss, jss_cons h hs⟩
    | _, _ => none)
end
end
/-- the names of a def: its parameters, then its other local names -/
def namesOf (d : He.DefD) (bodyNames : List Str) : List Str :=
  let ps := d.params.args.map (·.arg)
  ps ++ ((bodyNames ++ d.scope.names.filterMap fun y => if y.2 = .local ∨ y.2 = .cell then some y.1 else none).filter fun y => !ps.contains y).eraseDups
def pDef (nm : Nm) (N : List Str) (hook : Hk nm N) (ios : Nat → Bool) (io : Bool) (d : He.DefD) : Option {fd : FD // Dj nm d fd N (d.params.args.map (·.arg))} :=
  if hS : scC N (d.params.args.map (·.arg)) d.scope = true then
    (match pStmts nm N hook ios 200 d.scope d.body with
    | some ⟨B, hB⟩ =>
      if h : (d.dfl.isEmpty ∧ d.kwd.isEmpty ∧ d.params.posonlyargs.isEmpty ∧ d.params.kwonlyargs.isEmpty) ∧ d.params.vararg.isNone ∧ d.params.kwarg.isNone ∧ (io = true → 1 ≤ (d.params.args.map (·.arg)).length) then
        some ⟨⟨(d.params.args.map (·.arg)).length, N.length, io, B⟩, {
          S := fnScope_by hS
          np := rfl
          ns := rfl
          io := h.2.2.2
          js := hB
          dfl := List.isEmpty_iff.mp h.1.1
          kwd := List.isEmpty_iff.mp h.1.2.1
          p1 := List.isEmpty_iff.mp h.1.2.2.1
          p3 := List.isEmpty_iff.mp h.1.2.2.2
          p2 := Option.isNone_iff_eq_none.mp h.2.1
          p4 := Option.isNone_iff_eq_none.mp h.2.2.1
          p5 := rfl }⟩
      else none
    | none => none)
  else none
/-! ### a def that takes a thunk -/
def pTry (nm : Nm) (N : List Str) (ios : Nat → Bool) (sc : Scope) (a : Str) : (st : Stmt) → Option {q : Nat × Nat × List S // TryJ nm N sc a st q.1 q.2.1 q.2.2}
  | .Try [.Expr (.Call (.Name a' p1) [] [] p2) p3] [.ExceptHandler (some (.Name x np)) (some n) (b0 :: su) pos'] [] [] pos =>
    if ha : a' = a ∧ sc.names.lookup n = some .local ∧ sc.names.lookup x = some .globalImplicit ∧ (x == ("__debug__" : Str)) = false then
      (match lookN N n, lookM nm.cls x, pStmts nm.sui N (hkS nm.sui N) ios 200 sc (b0 :: su) with
      | some ⟨i, hi⟩, some ⟨cn, hm⟩, some ⟨Hs, hs⟩ => some ⟨(i, cn, Hs), by
          obtain ⟨rfl, h1, h2, h3⟩ := ha
          exact ⟨x, n, b0, su, p1, p2, p3, np, pos', pos, rfl, hi, h1, hm, h2, h3, hs⟩⟩
      | _, _, _ => none)
    else none
  | _ => none
def pWdB (nm : Nm) (N : List Str) (ios : Nat → Bool) (sc : Scope) (a : Str) : (ss : List Stmt) → Option {B : List S // WdJ nm N sc a ss B}
  | .Assign [.Name y py] (.Constant (.str z) jj pc) pp :: st :: post => (match lookN N y, pTry nm N ios sc a st, pStmts nm N (hkN nm N) ios 200 sc post with
    | some ⟨j, hj⟩, some ⟨q, hq⟩, some ⟨P, hp⟩ => if h : j ≠ 0 ∧ sc.names.lookup y = some .local ∧ PyData.strOk z = true then some ⟨_, .set hj h.1 h.2.1 h.2.2 hq hp⟩ else none
    | _, _, _ => none)
  | st :: post => (match pTry nm N ios sc a st, pStmts nm N (hkN nm N) ios 200 sc post with
    | some ⟨q, hq⟩, some ⟨P, hp⟩ => some ⟨_, .go hq hp⟩
    | _, _ => none)
  | _ => none
/-- a def that takes a thunk, but for where it lies -/
structure WdR (nm : Nm) (d : He.DefD) (fd : FD) (N : List Str) (a : Str) : Prop where
  S : FnScope N [a] d.scope
  np : fd.np = 1
  io : fd.io = false
  ns : fd.ns = N.length
  j : WdJ (nm.lm false) N d.scope a d.body fd.body
  p1 : d.params.posonlyargs = []
  p2 : d.params.vararg = none
  p3 : d.params.kwonlyargs = []
  p4 : d.params.kwarg = none
  p5 : d.params.args.map (·.arg) = [a]
  dfl : d.dfl = []
  kwd : d.kwd = []
  n0 : N[0]? = some a
  va : Vis d.scope a
  d1 : (a == ("__debug__" : Str)) = false
  d2 : (a == ("__classdict__" : Str)) = false
def pWd (nm : Nm) (ios : Nat → Bool) (N : List Str) (d : He.DefD) : Option {fd : FD // ∃ a, WdR nm d fd N a} := match hp : d.params.args.map (·.arg) with
  | [a] => if hS : scC N [a] d.scope = true then
      (match pWdB (nm.lm false) N ios d.scope a d.body, visD d.scope a with
      | some ⟨B, hB⟩, some ⟨hv⟩ =>
        if h : (d.dfl.isEmpty ∧ d.kwd.isEmpty ∧ d.params.posonlyargs.isEmpty ∧ d.params.kwonlyargs.isEmpty) ∧ d.params.vararg.isNone ∧ d.params.kwarg.isNone ∧ N[0]? = some a ∧ (a == ("__debug__" : Str)) = false ∧ (a == ("__classdict__" : Str)) = false then
          some ⟨⟨1, N.length, false, B⟩, a, {
            S := fnScope_by hS
            np := rfl
            io := rfl
            ns := rfl
            j := hB
            dfl := List.isEmpty_iff.mp h.1.1
            kwd := List.isEmpty_iff.mp h.1.2.1
            p1 := List.isEmpty_iff.mp h.1.2.2.1
            p3 := List.isEmpty_iff.mp h.1.2.2.2
            p2 := Option.isNone_iff_eq_none.mp h.2.1
            p4 := Option.isNone_iff_eq_none.mp h.2.2.1
            p5 := hp
            n0 := h.2.2.2.1
            va := hv
            d1 := h.2.2.2.2.1
            d2 := h.2.2.2.2.2 }⟩
        else none
      | _, _ => none)
    else none
  | _ => none
/-- called as another def is, it is stuck -/
theorem wd_no {nm : Nm} {N : List Str} {sc : Scope} {a : Str} {bd : List Stmt} {B : List S} (J : WdJ nm N sc a bd B) (T : Th) (x : D) (ρ : Env) : execs T B (Sl.v x :: ρ) = .no := by
  cases J with
  | go h1 h2 =>
    rw [execs, exec]
    rfl
  | @set y z j jj py pc pp st post i cn Hs postS hj hj0 _ _ _ _ =>
    rw [execs, exec]
    have h3 : ev T (.con (.str z)) (Sl.v x :: ρ) = .ok (.v (.str z)) (Sl.v x :: ρ) := by
      show (den T (.con (.str z))).v _ = _
      rw [den]
      rfl
    rw [h3]
    show (Out.opt (asgD (.nm j) (.str z) (Sl.v x :: ρ))).seq (execs T (.tryw i cn Hs :: postS)) = .no
    cases j with
    | zero => exact absurd rfl hj0
    | succ j =>
      cases hs : asgD (.nm (j + 1)) (.str z) (Sl.v x :: ρ) with
      | none => rfl
      | some ρ1 =>
        rw [asgD] at hs
        have hh : ∃ ρ2, ρ1 = Sl.v x :: ρ2 := by
          unfold setSlot at hs
          split at hs <;> first | (cases hs; done) | (cases hs; exact ⟨_, rfl⟩)
        obtain ⟨ρ2, rfl⟩ := hh
        show execs T (.tryw i cn Hs :: postS) (Sl.v x :: ρ2) = .no
        rw [execs, exec]
        rfl
theorem wd_none {nm : Nm} {d : He.DefD} {fd : FD} {N : List Str} {a : Str} (W : WdR nm d fd N a) (T : Th) (ds : List D) : runF T fd ds = none := by
  unfold runF
  by_cases hl : ds.length = fd.np
  · rw [if_pos hl]
    rw [W.np] at hl
    match ds, hl with
    | [x], _ =>
      have e : start0 fd [x] = Sl.v x :: List.replicate (fd.ns - fd.np) Sl.no := by
        unfold start0
        rw [W.io]
        rfl
      rw [e, wd_no W.j]
  · rw [if_neg hl]
end VL
end
section
set_option maxHeartbeats 4000000
/-! V25: a text's facts by a check; the law's end. -/
namespace VL
open PySem PySem.Spec PyProof.Rows L2
/-! ### constants -/
mutual
/-- the written value u is the tree d -/
def repB (K : PySem.W.Frag) : D → Value → Bool
  | .non, .none => true
  | .bl b, .bool c => b == c
  | .int i, .int j _ => decide (i = j)
  | .str x, .str y _ => decide (x = y) && PyData.strOk x
  | .tup ds, .ref a => (match K.lookup a with
    | some ⟨.type c, _, .seq its n, _⟩ => decide (c = "tuple") && decide (its.size ≤ sizeLine) && repsB K ds its.toList
    | _ => false)
  | _, _ => false
def repsB (K : PySem.W.Frag) : List D → List Value → Bool
  | [], [] => true
  | d :: ds, u :: us => repB K d u && repsB K ds us
  | _, _ => false
end
mutual
theorem repB_ok {c : Cf} : ∀ {d : D} {u : Value}, repB c.K d u = true → ∃ v, RelV v u ∧ Rp c (fun _ => none) d v
  | .non, u, h => by
    cases u <;> simp [repB] at h
    exact ⟨.non, rfl, .non⟩
  | .bl b, u, h => by
    cases u <;> simp [repB] at h
    subst h
    exact ⟨.bl b, rfl, .bl b⟩
  | .int i, u, h => by
    cases u <;> simp [repB] at h
    subst h
    exact ⟨.int i, ⟨_, rfl⟩, .int i⟩
  | .str x, u, h => by
    cases u <;> simp [repB] at h
    obtain ⟨rfl, h2⟩ := h
    exact ⟨.str x, ⟨_, rfl⟩, .str h2⟩
  | .tup ds, u, h => by
    cases u with
    | ref a =>
      rw [repB] at h
      cases e : c.K.lookup a with
      | none => rw [e] at h; cases h
      | some o =>
        obtain ⟨oc, od, dt, sl⟩ := o
        rw [e] at h
        cases oc with
        | type cn =>
          cases dt with
          | seq its n =>
            have h : (decide (cn = "tuple") && decide (its.size ≤ sizeLine) && repsB c.K ds its.toList) = true := h
            rw [Bool.and_eq_true, Bool.and_eq_true, decide_eq_true_eq, decide_eq_true_eq] at h
            obtain ⟨⟨rfl, h2⟩, h3⟩ := h
            obtain ⟨vs, h4, h5⟩ := repsB_ok h3
            exact ⟨.ref a, rfl, .tup (.inr ⟨_, its, n, e, rfl, rfl, h2, h4⟩) h5⟩
          | _ => cases h
        | _ => cases h
    | _ => simp [repB] at h
  | .lst _, u, h => by cases u <;> simp [repB] at h
  | .dic _, u, h => by cases u <;> simp [repB] at h
  | .fn _, u, h => by cases u <;> simp [repB] at h
  | .scr _, u, h => by cases u <;> simp [repB] at h
theorem repsB_ok {c : Cf} : ∀ {ds : List D} {us : List Value}, repsB c.K ds us = true → ∃ vs, Vals vs us ∧ Rps c (fun _ => none) ds vs
  | [], [], _ => ⟨[], .nil, .nil⟩
  | [], _ :: _, h => by simp [repsB] at h
  | _ :: _, [], h => by simp [repsB] at h
  | d :: ds, u :: us, h => by
    rw [repsB, Bool.and_eq_true] at h
    obtain ⟨v, a1, a2⟩ := repB_ok h.1
    obtain ⟨vs, b1, b2⟩ := repsB_ok h.2
    exact ⟨v :: vs, .cons a1 b1, .cons a2 b2⟩
end
/-! ### tables -/
def entB (K : PySem.W.Frag) : List DictEntry → List (Str × D) → Bool
  | [], [] => true
  | e :: es, (k, d) :: t => (match e.key with
    | .str s _ => decide (s = k)
    | _ => false) && !e.refKey && repB K d e.val && entB K es t
  | _, _ => false
def tabB (K : PySem.W.Frag) (a : Addr) (t : List (Str × D)) : Bool := match K.lookup a with
  | some ⟨_, _, .dict es _, _⟩ => entB K es.toList t
  | _ => false
theorem entB_any {K : PySem.W.Frag} : ∀ {es : List DictEntry} {t : List (Str × D)}, entB K es t = true → es.any (·.refKey) = false
  | [], _, _ => rfl
  | e :: es, [], h => by simp [entB] at h
  | e :: es, (k, d) :: t, h => by
    rw [entB, Bool.and_eq_true, Bool.and_eq_true, Bool.and_eq_true] at h
    rw [List.any_cons, entB_any h.2]
    have := h.1.1.2
    cases q : e.refKey with
    | true => rw [q] at this; cases this
    | false => rfl
theorem entB_find {c : Cf} (z : Str) : ∀ {es : List DictEntry} {t : List (Str × D)}, entB c.K es t = true → match tabGet z t with
    | none => es.find? (·.key.isStr z) = none
    | some d => ∃ e u, es.find? (·.key.isStr z) = some e ∧ e.val = u ∧ ∃ v, RelV v u ∧ Rp c (fun _ => none) d v
  | [], [], _ => rfl
  | [], _ :: _, h => by simp [entB] at h
  | _ :: _, [], h => by simp [entB] at h
  | e :: es, (k, d) :: t, h => by
    rw [entB, Bool.and_eq_true, Bool.and_eq_true, Bool.and_eq_true] at h
    obtain ⟨⟨⟨h1, _⟩, h2⟩, h3⟩ := h
    have ih := entB_find (c := c) z h3
    have hk : e.key.isStr z = decide (k = z) := by
      cases q : e.key with
      | str s tk =>
        rw [q] at h1
        have h1 := of_decide_eq_true h1
        subst h1
        by_cases w : s = z
        · subst w; simp [Value.isStr]
        · simp [Value.isStr, w]
      | _ => rw [q] at h1; cases h1
    rw [List.find?_cons, hk]
    unfold tabGet
    by_cases w : k = z
    · rw [if_pos w]
      simp only [w, decide_true]
      exact ⟨e, e.val, rfl, rfl, repB_ok h2⟩
    · rw [if_neg w]
      simp only [w, decide_false]
      exact ih
theorem tabB_ok {c : Cf} {a : Addr} {t : List (Str × D)} (h : tabB c.K a t = true) (z : Str) : ∃ r, PySem.W.nsIn c.K a z = some r ∧ match tabGet z t with
    | none => r = none
    | some dv => ∃ u v, r = some u ∧ RelV v u ∧ Rp c (fun _ => none) dv v := by
  unfold tabB at h
  unfold PySem.W.nsIn
  cases e : c.K.lookup a with
  | none => rw [e] at h; cases h
  | some o =>
    obtain ⟨oc, od, dt, sl⟩ := o
    rw [e] at h
    cases dt with
    | dict es n =>
      have h : entB c.K es.toList t = true := h
      have q := entB_find (c := c) z h
      have q2 := entB_any h
      dsimp only
      cases tg : tabGet z t with
      | none =>
        rw [tg] at q
        dsimp only at q
        rw [q]
        dsimp only
        rw [q2]
        exact ⟨none, rfl, rfl⟩
      | some d =>
        rw [tg] at q
        obtain ⟨e1, u, q3, rfl, v, q4, q5⟩ := q
        rw [q3]
        exact ⟨some e1.val, rfl, _, v, rfl, q4, q5⟩
    | _ => cases h
/-! ### the check -/
def fnNames (nm : Nm) : List Str := nm.fns.map (·.1)
def adrs (nm : Nm) (K : PySem.W.Frag) (n : Nat) : Addr := He.ga K ((fnNames nm).getD n ((fnNames nm).headD ""))
def chk (nm : Nm) (K : PySem.W.Frag) : Bool :=
  nm.cons.all (fun p => match PySem.W.nsIn K mainGlobals p.1 with | some (some u) => repB K p.2 u | _ => false) &&
  (nm.fns.all (fun p => He.eqO (PySem.W.nsIn K mainGlobals p.1) (some (some (.ref (He.ga K p.1)))) && PySem.W.keepIn K (.ref (He.ga K p.1))) &&
  (nm.free.all (fun x => He.eqO (PySem.W.nsIn K mainGlobals x) (some none)) &&
  nm.tabs.all (fun p => He.eqO (PySem.W.nsIn K mainGlobals p.1) (some (some (.ref (He.ga K p.1)))) && tabB K (He.ga K p.1) p.2)))
def tabsOf (nm : Nm) : List He.Tab := nm.tabs.map fun p => ((fun K => He.ga K p.1), p.2.map (·.1))
/-- the n-th class -/
def clsAt (nm : Nm) (n : Nat) : Str := ((nm.cls.find? fun p => p.2 == n).map (·.1)).getD ""
def adrC (nm : Nm) (K : PySem.W.Frag) (n : Nat) : Addr := He.ga K (clsAt nm n)
def tabsT (K : PySem.W.Frag) (tf : List He.Defn) : List (Addr × Str) := tf.map fun p => ((He.cT K p).2, lamQd p.1)
def cfOf (nm : Nm) (K : PySem.W.Frag) (tf : List He.Defn) : Cf := ⟨K, adrs nm K, adrC nm K, tabsT K tf⟩
def excB (K : PySem.W.Frag) (D : Addr) : Bool :=
  He.eqO (PySem.W.findIn K (.ref D) "__getattribute__") (some (some (.builtin "BaseException.__getattribute__"))) && (He.eqO (PySem.W.findIn K (.ref D) "__getattr__") (some none) && (decide (PySem.W.subIn K (.ref D) (.type "BaseException") = some true) && (PySem.W.hasDictIn K D &&
  (He.eqO (PySem.W.findIn K (.ref D) "__class__") (some (some (.builtin "object.__class__"))) && (He.eqO (PySem.W.specialIn K (.builtin "object.__class__") "__get__") (some (some (.builtin "getset_descriptor.__get__"))) && (decide (PySem.W.takesIn K (.builtin "object.__class__") = some true) && decide (PySem.W.mroIn K D (.type "object") = some true)))))))
theorem excB_ok {K : PySem.W.Frag} {D : Addr} (h : excB K D = true) : ExcC K D := by
  unfold excB at h
  simp only [Bool.and_eq_true] at h
  obtain ⟨h1, h2, h3, h4, h5, h6, h7, h8⟩ := h
  exact ⟨He.eqO_ok h1, He.eqO_ok h2, of_decide_eq_true h3, h4, He.eqO_ok h5, He.eqO_ok h6, of_decide_eq_true h7, of_decide_eq_true h8⟩
def clsB (nm : Nm) (sub : Nat → Nat → Bool) (K : PySem.W.Frag) (p : Str × Nat) : Bool :=
  decide (clsAt nm p.2 = p.1) && (He.eqO (PySem.W.nsIn K mainGlobals p.1) (some (some (.ref (He.ga K p.1)))) && (PySem.W.keepIn K (.ref (He.ga K p.1)) && (excB K (He.ga K p.1) && (decide (PySem.W.typeIn K (.ref (He.ga K p.1)) = some (.type "type")) &&
  (decide (PySem.W.kitOne K (.ref (He.ga K p.1)) (.type "ValueError") = some (sub p.2 0)) && ((!decide (p.2 ∈ nm.own) || PySem.W.excIn K (He.ga K p.1) bmV "ValueError.__new__") &&
  nm.cls.all fun q => decide (PySem.W.kitOne K (.ref (He.ga K p.1)) (.ref (He.ga K q.1)) = some (sub p.2 q.2)) && decide (PySem.W.exmOne K (.ref (He.ga K p.1)) (.ref (He.ga K q.1)) = some (sub p.2 q.2))))))))
/-- all that the end asks of the module -/
def chk2 (nm : Nm) (sub : Nat → Nat → Bool) (tf : List He.Defn) (K : PySem.W.Frag) : Bool := chk nm K && (nm.cls.all (clsB nm sub K) && decide ((tf.map fun p => (He.cT K p).2).Nodup))
theorem cls_ok {nm : Nm} {sub : Nat → Nat → Bool} {h : Heap} {K : PySem.W.Frag} {mg : Str → Option Value} (hs : ∀ a b, sub a b = true → ∃ p ∈ nm.cls, p.2 = a) (X : K.In h) (G : h.Ns mainGlobals mg) (hc : nm.cls.all (clsB nm sub K) = true) : ClsF (adrC nm K) K mg nm.cls nm.own sub := by
  rw [List.all_eq_true] at hc
  have key : ∀ p ∈ nm.cls, clsB nm sub K p = true := hc
  have un : ∀ p ∈ nm.cls, adrC nm K p.2 = He.ga K p.1 ∧ PySem.W.nsIn K mainGlobals p.1 = some (some (.ref (He.ga K p.1))) ∧ PySem.W.keepIn K (.ref (He.ga K p.1)) = true ∧ ExcC K (He.ga K p.1) ∧ PySem.W.typeIn K (.ref (He.ga K p.1)) = some (.type "type") ∧ PySem.W.kitOne K (.ref (He.ga K p.1)) (.type "ValueError") = some (sub p.2 0) ∧ (p.2 ∈ nm.own → PySem.W.excIn K (He.ga K p.1) bmV "ValueError.__new__" = true) ∧
      ∀ q ∈ nm.cls, PySem.W.kitOne K (.ref (He.ga K p.1)) (.ref (He.ga K q.1)) = some (sub p.2 q.2) ∧ PySem.W.exmOne K (.ref (He.ga K p.1)) (.ref (He.ga K q.1)) = some (sub p.2 q.2) := fun p hp => by
    have q := key p hp
    unfold clsB at q
    simp only [Bool.and_eq_true, List.all_eq_true, Bool.or_eq_true, Bool.not_eq_true', decide_eq_false_iff_not] at q
    obtain ⟨q1, q2, q3, q4, q5, q6, q7, q8⟩ := q
    refine ⟨by unfold adrC; rw [of_decide_eq_true q1], He.eqO_ok q2, q3, excB_ok q4, of_decide_eq_true q5, of_decide_eq_true q6, fun ho => q7.elim (fun z => absurd ho z) id, fun r hr => ⟨of_decide_eq_true (q8 r hr).1, of_decide_eq_true (q8 r hr).2⟩⟩
  refine ⟨fun p hp => ?_, fun p hp => ?_, fun p hp => ?_, fun p hp => ?_, fun p hp q hq => ?_, fun p hp q hq => ?_, fun p hp => ?_, hs, fun p hp ho => ?_⟩
  · rw [(un p hp).1]; exact PySem.W.mg_of X G (un p hp).2.1
  · rw [(un p hp).1]; exact (un p hp).2.2.1
  · rw [(un p hp).1]; exact (un p hp).2.2.2.1
  · rw [(un p hp).1]; exact (un p hp).2.2.2.2.1
  · rw [(un p hp).1, (un q hq).1]; exact ((un p hp).2.2.2.2.2.2.2 q hq).1
  · rw [(un p hp).1, (un q hq).1]; exact ((un p hp).2.2.2.2.2.2.2 q hq).2
  · rw [(un p hp).1]; exact (un p hp).2.2.2.2.2.1
  · rw [(un p hp).1]; exact (un p hp).2.2.2.2.2.2.1 ho
theorem zipIdx_at {l : List Str} {p : Str × Nat} (h : p ∈ l.zipIdx) : l.getD p.2 "" = p.1 ∧ p.2 < l.length := by
  obtain ⟨i, hi, e⟩ := List.mem_iff_getElem.mp h
  rw [List.getElem_zipIdx] at e
  subst e
  simp at hi
  simp [hi]
theorem glo_ok {nm : Nm} {w : World} {h : Heap} {K : PySem.W.Frag} {mg : Str → Option Value} {fa : List He.Fa} {fn : List He.DefD} (hix : nm.fns = (fnNames nm).zipIdx) (hne : nm.fns ≠ []) (X : K.In h) (G : h.Ns mainGlobals mg) (hc : chk nm K = true) (ht : He.SaysT fa fn (tabsOf nm) w K) {sub : Nat → Nat → Bool} {tf : List He.Defn} (hcl : ClsF (adrC nm K) K mg nm.cls nm.own sub) : Glo (cfOf nm K tf) nm w K mg sub := by
  unfold chk at hc
  rw [Bool.and_eq_true, Bool.and_eq_true, Bool.and_eq_true] at hc
  obtain ⟨h1, h2, h3, h4⟩ := hc
  rw [List.all_eq_true] at h1 h2 h3 h4
  have adr : ∀ p ∈ nm.fns, adrs nm K p.2 = He.ga K p.1 := fun p hp => by
    rw [hix] at hp
    obtain ⟨e1, e2⟩ := zipIdx_at hp
    unfold adrs
    rw [List.getD_eq_getElem?_getD, List.getElem?_eq_getElem e2] at e1 ⊢
    exact congrArg (He.ga K) e1
  refine ⟨hcl, fun p hp => ?_, fun p hp => ?_, fun x hx => ?_, fun p hp => ?_, fun n => ?_⟩
  · have q := h1 p hp
    cases e : PySem.W.nsIn K mainGlobals p.1 with
    | none => rw [e] at q; cases q
    | some r =>
      rw [e] at q
      cases r with
      | none => cases q
      | some u =>
        obtain ⟨v, a1, a2⟩ := repB_ok (c := cfOf nm K tf) q
        exact ⟨u, v, PySem.W.mg_of X G e, a1, a2⟩
  · have q := h2 p hp
    rw [Bool.and_eq_true] at q
    show mg p.1 = some (.ref (adrs nm K p.2))
    rw [adr p hp]
    exact PySem.W.mg_of X G (He.eqO_ok q.1)
  · exact PySem.W.mg_none_of X G (He.eqO_ok (h3 x hx))
  · have q := h4 p hp
    rw [Bool.and_eq_true] at q
    refine ⟨He.ga K p.1, PySem.W.mg_of X G (He.eqO_ok q.1), ?_, tabB_ok (c := cfOf nm K tf) q.2⟩
    obtain ⟨i, hi, e⟩ := List.mem_iff_getElem.mp hp
    have e2 : (tabsOf nm)[i]? = some ((fun K => He.ga K p.1), p.2.map (·.1)) := by
      unfold tabsOf
      rw [List.getElem?_map, List.getElem?_eq_getElem hi, e]
      rfl
    exact He.SaysT.tab ht i e2
  · show PySem.W.keepIn K (.ref (adrs nm K n)) = true
    have key : ∀ x ∈ fnNames nm, PySem.W.keepIn K (.ref (He.ga K x)) = true := fun x hx => by
      obtain ⟨p, hp, rfl⟩ := List.mem_map.mp hx
      have q := h2 p hp
      rw [Bool.and_eq_true] at q
      exact q.2
    unfold adrs
    refine key _ ?_
    by_cases hn : n < (fnNames nm).length
    · rw [List.getD_eq_getElem?_getD, List.getElem?_eq_getElem hn]; exact List.getElem_mem hn
    · rw [List.getD_eq_getElem?_getD, List.getElem?_eq_none (by omega)]
      show (fnNames nm).headD "" ∈ fnNames nm
      cases e : fnNames nm with
      | nil => exact absurd (List.map_eq_nil_iff.mp e) hne
      | cons y ys => exact List.mem_cons_self
end VL
end
section
set_option maxHeartbeats 4000000
/-! V33: a law's end, with lambdas. -/
namespace VL
open PySem PySem.Spec PyProof.Rows L2
/-- which defs hold a lambda, which take a thunk -/
structure Kn where
  ios : Nat → Bool
  lams : Nat → Bool
  wds : Nat → Bool
def hkOf (nm : Nm) (N : List Str) (ios : Nat → Bool) : Bool → Hk nm N
  | true => hkW nm N ios
  | false => hkN nm N
def readAll (nm : Nm) (kn : Kn) : Nat → List He.DefD → List (List Str) → Option (List FD)
  | _, [], [] => some []
  | i, d :: ds, N :: Ns => match (if kn.wds i then (pWd nm kn.ios N d).map (·.1) else (pDef (nm.lm (kn.lams i)) N (hkOf _ N kn.ios (kn.lams i)) kn.ios (kn.ios i) d).map (·.1)), readAll nm kn (i + 1) ds Ns with
    | some q, some l => some (q :: l)
    | _, _ => none
  | _, _, _ => none
/-- a def of the list, read as what it is -/
def RdAs (nm : Nm) (kn : Kn) (f : Nat) (d : He.DefD) (fd : FD) (N : List Str) : Prop := (kn.wds f = true ∧ ∃ a, WdR nm d fd N a) ∨ (kn.wds f = false ∧ Dj (nm.lm (kn.lams f)) d fd N (d.params.args.map (·.arg)))
theorem readAll_ok {nm : Nm} {kn : Kn} : ∀ {i : Nat} {ds : List He.DefD} {Ns : List (List Str)} {fds : List FD}, readAll nm kn i ds Ns = some fds → ∀ (f : Nat) (fd : FD), fds[f]? = some fd → ∃ d N, ds[f]? = some d ∧ RdAs nm kn (i + f) d fd N
  | i, [], [], fds, h, f, fd, e => by
    cases h
    simp at e
  | i, [], _ :: _, _, h, _, _, _ => by cases h
  | i, _ :: _, [], _, h, _, _, _ => by cases h
  | i, d :: ds, N :: Ns, fds, h, f, fd, e => by
    rw [readAll] at h
    cases h1 : (if kn.wds i then (pWd nm kn.ios N d).map (·.1) else (pDef (nm.lm (kn.lams i)) N (hkOf _ N kn.ios (kn.lams i)) kn.ios (kn.ios i) d).map (·.1)) with
    | none => rw [h1] at h; cases h
    | some q =>
      cases h2 : readAll nm kn (i + 1) ds Ns with
      | none => rw [h1, h2] at h; cases h
      | some l =>
        rw [h1, h2] at h
        cases h
        cases f with
        | zero =>
          simp at e
          subst e
          refine ⟨d, N, rfl, ?_⟩
          by_cases hw : kn.wds i = true
          · rw [if_pos hw] at h1
            cases h3 : pWd nm kn.ios N d with
            | none => rw [h3] at h1; cases h1
            | some r =>
              rw [h3] at h1
              cases h1
              exact .inl ⟨hw, r.2⟩
          · rw [if_neg hw] at h1
            cases h3 : pDef (nm.lm (kn.lams i)) N (hkOf _ N kn.ios (kn.lams i)) kn.ios (kn.ios i) d with
            | none => rw [h3] at h1; cases h1
            | some r =>
              rw [h3] at h1
              cases h1
              exact .inr ⟨by simpa using hw, r.2⟩
        | succ f =>
          obtain ⟨d', N', a, b⟩ := readAll_ok h2 f fd (by simpa using e)
          refine ⟨d', N', by simpa using a, ?_⟩
          have e9 : i + (f + 1) = i + 1 + f := by omega
          rw [e9]
          exact b
theorem readAll_len {nm : Nm} {kn : Kn} : ∀ {i : Nat} {ds : List He.DefD} {Ns : List (List Str)} {fds : List FD}, readAll nm kn i ds Ns = some fds → fds.length = ds.length
  | i, [], [], fds, h => by cases h; rfl
  | i, [], _ :: _, _, h => by cases h
  | i, _ :: _, [], _, h => by cases h
  | i, d :: ds, N :: Ns, fds, h => by
    rw [readAll] at h
    cases h1 : (if kn.wds i then (pWd nm kn.ios N d).map (·.1) else (pDef (nm.lm (kn.lams i)) N (hkOf _ N kn.ios (kn.lams i)) kn.ios (kn.ios i) d).map (·.1)) with
    | none => rw [h1] at h; cases h
    | some q =>
      cases h2 : readAll nm kn (i + 1) ds Ns with
      | none => rw [h1, h2] at h; cases h
      | some l =>
        rw [h1, h2] at h
        cases h
        rw [List.length_cons, List.length_cons, readAll_len h2]
theorem nodup_map_inj {α β : Type} {f : α → β} : ∀ {l : List α}, (l.map f).Nodup → ∀ {x y : α}, x ∈ l → y ∈ l → f x = f y → x = y
  | [], _, _, _, hx, _, _ => by cases hx
  | z :: l, h, x, y, hx, hy, e => by
    rw [List.map_cons, List.nodup_cons] at h
    rcases List.mem_cons.mp hx with h1 | h1
    · rcases List.mem_cons.mp hy with h2 | h2
      · rw [h1, h2]
      · have : f z ∈ l.map f := List.mem_map.mpr ⟨y, h2, by rw [← e, h1]⟩
        exact absurd this h.1
    · rcases List.mem_cons.mp hy with h2 | h2
      · have : f z ∈ l.map f := List.mem_map.mpr ⟨x, h1, by rw [e, h2]⟩
        exact absurd this h.1
      · exact nodup_map_inj h.2 h1 h2 e
/-- what is asked of the lists of names, by looks -/
def namB (nm : Nm) (kn : Kn) (fn : List He.DefD) (tf : List He.Defn) : Bool := nm.calm && (nm.wds.all (fun p => decide (p ∈ nm.fns) && kn.wds p.2) && (fn.all (fun d => decide (d.qual = d.name) && decide (d.at_ = (d.name, none))) && nm.fns.all fun p => !kn.lams p.2 || decide ((p.1, none) ∈ tf)))
theorem end_ok {l : PySem.W.OpenLaw} {nn m k : Nat} {q : Program} {loose : List Str} {XP : (Str → Option Value) → Heap → Prop} {d : DefRec} {fa : List He.Fa} {fn : List He.DefD} {tf : List He.Defn} {nm : Nm} {kn : Kn} {Ns : List (List Str)} {fds : List FD} {sub : Nat → Nat → Bool} {lawIx : Nat} {x : Str} {dl : He.DefD}
    (hread : readAll nm kn 0 fn Ns = some fds) (hat : fn.map (·.at_) = (fnNames nm).map fun y => (y, none)) (hix : nm.fns = (fnNames nm).zipIdx) (hnam : namB nm kn fn tf = true) (hsub : ∀ a b, sub a b = true → ∃ p ∈ nm.cls, p.2 = a)
    (hn : l.most = some nn) (hn2 : nn ≤ sizeLine) (hdf : d.params.defaults = []) (hr : Room (3 * (k + 1)) callerA) (hlaw : (d.name, lawIx) ∈ nm.fns) (hdl : fn[lawIx]? = some dl) (hx : dl.params.args.map (·.arg) = [x]) (hio : (fds[lawIx]?).map (·.io) = some false)
    (main : ∀ ns : List Int, ns.length ≤ nn → (∀ z ∈ ns, Builtin.Int.intBits z ≤ 1048576) → ∃ cc, call ⟨fds, sub⟩ (k + 1) lawIx [.scr ns] = some (.v (.bl true), cc)) :
    PySem.W.WalkO q loose XP (He.hookX m fa fn (tabsOf nm) tf (chk2 nm sub tf)).says l.row.toRowW d [] (fun f vs => PySem.call f vs) := by
  refine LamX.walk_ofTsE (CX := fun w => L2.CX l.prog w) (k := 3 * (k + 1)) (n := nn) (x := x) hn hn2 hdf hr (fun w mg fa' h YP hNs hmg => ?_) fun w H s e s' hcx => ?_
  · obtain ⟨K, KX, sx⟩ := YP
    have hc2 := sx.more
    unfold chk2 at hc2
    rw [Bool.and_eq_true, Bool.and_eq_true] at hc2
    obtain ⟨c1, c2, c3⟩ := hc2
    have c3 := of_decide_eq_true c3
    unfold namB at hnam
    simp only [Bool.and_eq_true, List.all_eq_true, decide_eq_true_eq, Bool.or_eq_true, Bool.not_eq_true'] at hnam
    obtain ⟨n1, n2, n3, n4⟩ := hnam
    have G : Glo (cfOf nm K tf) nm w K mg sub := glo_ok hix (fun e => by rw [e] at hlaw; cases hlaw) KX hNs c1 sx.t (cls_ok hsub KX hNs c2)
    have at_of : ∀ (f : Nat) (d' : He.DefD), fn[f]? = some d' → (fnNames nm)[f]? = some d'.name ∧ d'.at_ = (d'.name, none) ∧ (d'.name, f) ∈ nm.fns := fun f d' e1 => by
      have e3 : (fn.map (·.at_))[f]? = some d'.at_ := by rw [List.getElem?_map, e1]; rfl
      have e7 := (n3 d' (List.mem_of_getElem? e1)).2
      rw [hat, List.getElem?_map] at e3
      cases e4 : (fnNames nm)[f]? with
      | none => rw [e4] at e3; cases e3
      | some y =>
        rw [e4] at e3
        have e5 : d'.at_ = (y, none) := (Option.some.inj e3).symm
        have e6 : y = d'.name := by rw [e7] at e5; exact (congrArg Prod.fst e5).symm
        subst e6
        refine ⟨rfl, e7, ?_⟩
        rw [hix]
        exact List.mem_of_getElem? (i := f) (by rw [List.getElem?_zipIdx, e4]; simp)
    have ha_of : ∀ (f : Nat) (d' : He.DefD), fn[f]? = some d' → He.fAd K d'.at_ = (cfOf nm K tf).A f := fun f d' e1 => by
      obtain ⟨e4, e5, _⟩ := at_of f d' e1
      rw [e5]
      show He.ga K d'.name = adrs nm K f
      unfold adrs
      rw [List.getD_eq_getElem?_getD, e4]
      rfl
    have DD : ∀ (f : Nat) (d' : He.DefD), fn[f]? = some d' → d'.dfl = [] → d'.kwd = [] → ∃ fdd, FunD K d'.name d'.qual d'.params d'.body d'.scope [] [] ((cfOf nm K tf).A f) fdd := fun f d' e1 j1 j2 => by
      obtain ⟨fdd, F⟩ := sx.t.d.defs (List.mem_of_getElem? e1)
      refine ⟨fdd, ?_⟩
      have F' := F
      unfold He.DefD.dvs He.DefD.kws at F'
      rw [j1, j2, ha_of f d' e1] at F'
      exact F'
    have lamD : ∀ (base : Heap), (∀ p ∈ tf.map (He.cT K), LamX.TabB base mg p.1 p.2) → ∀ (f : Nat) (d' : He.DefD), fn[f]? = some d' → kn.lams f = true → (∃ fdd, FunD K d'.name d'.qual d'.params d'.body d'.scope [] [] ((cfOf nm K tf).A f) fdd) → LamAtD (cfOf nm K tf) d'.qual K mg base ((cfOf nm K tf).A f) := fun base hT f d' e1 hl ⟨fdd, F⟩ => by
      obtain ⟨e4, e5, e6⟩ := at_of f d' e1
      have hm : (d'.name, none) ∈ tf := (n4 _ e6).resolve_left (by rw [hl]; simp)
      have hq := (n3 d' (List.mem_of_getElem? e1)).1
      obtain ⟨oc, od, dV, kV, doc, pm, an, cdv, ct, osl, efd, lk, hcd, _, _⟩ := F.ex
      subst efd
      have hcv : ∃ cc, cdv = .ref cc := by
        unfold PySem.W.codeIn at hcd
        cases cdv with
        | ref cc => exact ⟨cc, rfl⟩
        | _ => cases hcd
      obtain ⟨cc, rfl⟩ := hcv
      have hco : He.codeOf K (d'.name, none) = cc := by
        have := ha_of f d' e1
        rw [e5] at this
        exact He.codeOf_eq (by rw [this]; exact lk) rfl
      refine ⟨(He.cT K (d'.name, none)).1, (He.cT K (d'.name, none)).2, fun oc2 od2 fd2 osl2 lk2 => ?_, hT _ (List.mem_map.mpr ⟨_, hm, rfl⟩), ?_, fun p hp he => ?_⟩
      · rw [lk] at lk2
        cases lk2
        show Value.ref cc = .ref (He.codeOf K (d'.name, none))
        rw [hco]
      · rw [hq]
        exact List.mem_map.mpr ⟨_, hm, rfl⟩
      · obtain ⟨q', hq', rfl⟩ := List.mem_map.mp hp
        have := nodup_map_inj c3 hq' hm he
        subst this
        rw [hq]
    have DW : ∀ p ∈ nm.wds, ∃ d fd N a, (⟨fds, sub⟩ : Tx).fs[p.2]? = some fd ∧ WdD nm (cfOf nm K tf).K (cfOf nm K tf).A p d fd N a := fun p hp => by
      obtain ⟨hpf, hpw⟩ := n2 p hp
      have hz : (fnNames nm)[p.2]? = some p.1 := by
        rw [hix] at hpf
        obtain ⟨i, hi, e⟩ := List.mem_iff_getElem.mp hpf
        rw [List.getElem_zipIdx] at e
        subst e
        simp at hi
        simp [hi]
      have hlen : p.2 < fn.length := by
        have h1 := congrArg List.length hat
        rw [List.length_map, List.length_map] at h1
        have h2 := (List.getElem?_eq_some_iff.mp hz).1
        omega
      have hf : fds[p.2]? = some (fds[p.2]'(by rw [readAll_len hread]; exact hlen)) := List.getElem?_eq_getElem _
      obtain ⟨d', N, e1, J⟩ := readAll_ok hread p.2 _ hf
      rw [Nat.zero_add] at J
      rcases J with ⟨_, a, W⟩ | ⟨hw, _⟩
      · obtain ⟨e4, _, _⟩ := at_of p.2 d' e1
        have hnm : d'.name = p.1 := Option.some.inj (e4.symm.trans hz)
        have hq := (n3 d' (List.mem_of_getElem? e1)).1
        exact ⟨d', _, N, a, hf, ⟨W.S, W.ns, W.j, hnm, by rw [hq, hnm], W.p1, W.p2, W.p3, W.p4, W.p5, W.n0, W.va, W.d1, W.d2, hpf, DD p.2 d' e1 W.dfl W.kwd⟩⟩
      · rw [hpw] at hw
        cases hw
    have DN : ∀ (base : Heap), (∀ p ∈ tf.map (He.cT K), LamX.TabB base mg p.1 p.2) → ∀ f fd, (⟨fds, sub⟩ : Tx).fs[f]? = some fd → (∀ T ds, runF T fd ds = none) ∨ ∃ b d N ps, Dj (nm.lm b) d fd N ps ∧ (b = true → LamAtD (cfOf nm K tf) d.qual (cfOf nm K tf).K mg base ((cfOf nm K tf).A f)) ∧ ∃ fdd, FunD (cfOf nm K tf).K d.name d.qual d.params d.body d.scope [] [] ((cfOf nm K tf).A f) fdd := fun base hT f fd hf => by
      obtain ⟨d', N, e1, J⟩ := readAll_ok hread f fd hf
      rw [Nat.zero_add] at J
      rcases J with ⟨_, a, W⟩ | ⟨_, J⟩
      · exact .inl fun T ds => wd_none W T ds
      · have F := DD f d' e1 J.dfl J.kwd
        exact .inr ⟨kn.lams f, d', N, _, J, fun hl => lamD base hT f d' e1 hl F, F⟩
    have hlf : fa' = (cfOf nm K tf).A lawIx := by
      have := G.fnm _ hlaw
      rw [hmg] at this
      exact Value.ref.inj (Option.some.inj this)
    subst hlf
    obtain ⟨cc0, hc0⟩ := main [] (Nat.zero_le _) (fun z hz => by cases hz)
    rw [VL.call] at hc0
    cases hf : fds[lawIx]? with
    | none => rw [show (⟨fds, sub⟩ : Tx).fs[lawIx]? = none from hf] at hc0; cases hc0
    | some fd =>
      obtain ⟨d', N, e1, J⟩ := readAll_ok hread lawIx fd hf
      rw [hdl] at e1
      obtain rfl := Option.some.inj e1
      rw [Nat.zero_add] at J
      rcases J with ⟨_, a, W⟩ | ⟨_, J⟩
      · rw [show (⟨fds, sub⟩ : Tx).fs[lawIx]? = some fd from hf] at hc0
        have hc0 : runF (th ⟨fds, sub⟩ k) fd [.scr []] = some (.v (.bl true), cc0) := hc0
        rw [wd_none W] at hc0
        cases hc0
      · obtain ⟨fdd, F⟩ := DD lawIx dl hdl J.dfl J.kwd
        have J0 := J
        rw [hx] at J
        refine ⟨K, KX, fdd, tf.map (He.cT K), spF (cfOf nm K tf) (th ⟨fds, sub⟩ (k + 1)) lawIx, (fun p hp => ?_), (fun p hp => ?_), (fun p hp => ?_), ?_, ?_, ?_⟩
        · obtain ⟨p', hp', rfl⟩ := List.mem_map.mp hp
          exact sx.empty p' hp'
        · obtain ⟨p', hp', rfl⟩ := List.mem_map.mp hp
          exact sx.out p' hp'
        · obtain ⟨p', hp', rfl⟩ := List.mem_map.mp hp
          exact PySem.W.codeHd_of_K KX (sx.hd p' hp')
        · intro s u
          exact F.bindsA (ps := [x]) (fun kV doc pm an cdv ct us hl => bind_plain J.p1 J.p2 J.p3 J.p4 J.p5 (by simp) hl) s [u] rfl
        · intro H a ns hl hz hH hS
          obtain ⟨cc, hc⟩ := main ns hl hz
          have hio' : (th ⟨fds, sub⟩ (k + 1)).io lawIx = false := by
            show ((fds[lawIx]?).map (·.io)).getD false = false
            rw [hio]
            rfl
          refine ⟨[.scr ns], 0, [], .v (.bl true), cc, [], [], ?_, ?_, (fun b hb => by simp at hb), (fun p hp => ?_), hc, fun H' st tb fin v r => ?_⟩
          · rw [hio']
            exact .cons (.scr (by rw [Vw.nil]; exact hS)) .nil
          · rw [hio']
            exact List.nodup_nil
          · obtain ⟨p', hp', rfl⟩ := List.mem_map.mp hp
            exact LamX.TabS.nil (hH _ (List.mem_map.mpr ⟨p', hp', rfl⟩))
          · cases r
            rfl
        · intro base KB NB TB
          have da := defs_ok (P := l.prog) (base := base) (X := ⟨fds, sub⟩) G (DN base TB) (fun k ih ihw => wds_step n1 G DW k ih ihw) (wds_zero G DW) k
          exact def_ok (nm := nm.lm (kn.lams lawIx)) (X := ⟨fds, sub⟩) (G.lm _) da.1 da.2 hf J (fun hl => lamD base TB lawIx dl hdl hl ⟨fdd, F⟩) F
  · obtain ⟨_, _, _, _, _, _, _, _, _, _, _, _, hE⟩ := hcx
    exact hE
end VL
end
section
/-! P0: the language by steps, for simp. -/
namespace VL
open PySem
variable {T : Th} {ρ : Env} {a b e : E} {es : List E}
def lkS : Option Sl → Option D
  | some (.ol xs) => some (.lst xs)
  | some (.ln xs) => some (.lst xs)
  | some (.v d) => some d
  | _ => none
@[simp] theorem lkS_ol {xs : List D} : lkS (some (.ol xs)) = some (.lst xs) := rfl
@[simp] theorem lkS_ln {xs : List D} : lkS (some (.ln xs)) = some (.lst xs) := rfl
@[simp] theorem lkS_v {d : D} : lkS (some (.v d)) = some d := rfl
@[simp] theorem look_v {d : D} : look ρ (.v d) = some d := rfl
@[simp] theorem look_fl {xs : List D} : look ρ (.fl xs) = some (.lst xs) := rfl
@[simp] theorem look_br {i : Nat} : look ρ (.br i) = lkS ρ[i]? := by
  show (match ρ[i]? with | some (.ol xs) => some (D.lst xs) | some (.ln xs) => some (D.lst xs) | some (.v d) => some d | _ => none) = _
  generalize ρ[i]? = o
  rcases o with _ | s
  · rfl
  · cases s <;> rfl
@[simp] theorem looks_nil : looks ρ [] = some [] := rfl
@[simp] theorem looks_cons {r : R} {rs : List R} : looks ρ (r :: rs) = (look ρ r).bind fun d => (looks ρ rs).map (d :: ·) := rfl
@[simp] theorem brs_nil : brs [] = [] := rfl
@[simp] theorem brs_v {d : D} {rs : List R} : brs (.v d :: rs) = brs rs := rfl
@[simp] theorem brs_fl {d : List D} {rs : List R} : brs (.fl d :: rs) = brs rs := rfl
@[simp] theorem brs_br {d : Nat} {rs : List R} : brs (.br d :: rs) = d :: brs rs := rfl
@[simp] theorem noRt_v {d : D} : noRt (.v d) = noL d := rfl
@[simp] theorem noRt_fl {d : List D} : noRt (.fl d) = noLs d := rfl
@[simp] theorem rtR_v {d : D} : rtR (.v d) ρ = .ok (.v d) ρ := rfl
@[simp] theorem rtR_fl {d : List D} : rtR (.fl d) ρ = .ok (.fl d) ρ := rfl
@[simp] theorem opt_bind {α β : Type} {o : Option α} {k : α → Env → Rs β} : (Rs.opt ρ o).bind k = match o with | some a => k a ρ | none => .no := by cases o <;> rfl
def vSl (i : Nat) (ρ : Env) : Option Sl → Rs R
  | some (.v d) => .ok (.v d) ρ
  | some (.ol _) => .ok (.br i) ρ
  | some (.ln _) => .ok (.br i) ρ
  | _ => .no
@[simp] theorem vSl_v {i : Nat} {d : D} : vSl i ρ (some (.v d)) = .ok (.v d) ρ := rfl
@[simp] theorem vSl_ol {i : Nat} {d : List D} : vSl i ρ (some (.ol d)) = .ok (.br i) ρ := rfl
@[simp] theorem vSl_ln {i : Nat} {d : List D} : vSl i ρ (some (.ln d)) = .ok (.br i) ρ := rfl
@[simp] theorem v_var {i : Nat} : (den T (.var i)).v ρ = vSl i ρ ρ[i]? := by
  rw [den]
  show (match ρ[i]? with | some (.v d) => Rs.ok (R.v d) ρ | some (.ol _) => .ok (R.br i) ρ | some (.ln _) => .ok (R.br i) ρ | _ => .no) = _
  generalize ρ[i]? = o
  rcases o with _ | s
  · rfl
  · cases s <;> rfl
@[simp] theorem v_con {d : D} : (den T (.con d)).v ρ = .ok (.v d) ρ := by rw [den]; rfl
@[simp] theorem v_glo {d : D} : (den T (.glo d)).v ρ = .ok (.v d) ρ := by rw [den]; rfl
@[simp] theorem v_emp : (den T .emp).v ρ = .ok (.v (.dic 0)) ρ := by rw [den]; rfl
def bin2 (f : D → D → Option R) (x y : R) (ρ : Env) : Rs R := Rs.opt ρ ((look ρ x).bind fun d => (look ρ y).bind fun e => f d e)
@[simp] theorem v_bin {o : Op} : (den T (.bin o a b)).v ρ = ((den T a).v ρ).bind fun x ρ1 => ((den T b).v ρ1).bind fun y ρ2 => bin2 (binop o) x y ρ2 := by rw [den]; rfl
@[simp] theorem v_cmp {o : Cm} : (den T (.cmp o a b)).v ρ = ((den T a).v ρ).bind fun x ρ1 => ((den T b).v ρ1).bind fun y ρ2 => bin2 (fun d e => (cmpop o d e).map fun c => .v (.bl c)) x y ρ2 := by rw [den]; rfl
@[simp] theorem v_sub : (den T (.sub a b)).v ρ = ((den T a).v ρ).bind fun x ρ1 => ((den T b).v ρ1).bind fun y ρ2 => bin2 (fun d e => (subD d e).map .v) x y ρ2 := by rw [den]; rfl
theorem bin2_eq {f : D → D → Option R} {x y : R} {d e : D} (h1 : look ρ x = some d) (h2 : look ρ y = some e) : bin2 f x y ρ = Rs.opt ρ (f d e) := by
  unfold bin2
  rw [h1, h2]
  rfl
@[simp] theorem bin2_vv {f : D → D → Option R} {d e : D} : bin2 f (.v d) (.v e) ρ = Rs.opt ρ (f d e) := rfl
@[simp] theorem bin2_fv {f : D → D → Option R} {d : List D} {e : D} : bin2 f (.fl d) (.v e) ρ = Rs.opt ρ (f (.lst d) e) := rfl
@[simp] theorem bin2_vf {f : D → D → Option R} {d : D} {e : List D} : bin2 f (.v d) (.fl e) ρ = Rs.opt ρ (f d (.lst e)) := rfl
@[simp] theorem bin2_ff {f : D → D → Option R} {d e : List D} : bin2 f (.fl d) (.fl e) ρ = Rs.opt ρ (f (.lst d) (.lst e)) := rfl
@[simp] theorem bin2_bx {f : D → D → Option R} {i : Nat} {y : R} : bin2 f (.br i) y ρ = Rs.opt ρ ((lkS ρ[i]?).bind fun d => (look ρ y).bind fun e => f d e) := by
  unfold bin2
  rw [look_br]
@[simp] theorem bin2_xb {f : D → D → Option R} {i : Nat} {x : R} : bin2 f x (.br i) ρ = Rs.opt ρ ((look ρ x).bind fun d => (lkS ρ[i]?).bind fun e => f d e) := by
  unfold bin2
  rw [look_br]
def negR (x : R) (ρ : Env) : Rs R := Rs.opt ρ (match look ρ x with | some (.int i) => some (.v (.int (-i))) | _ => none)
@[simp] theorem negR_v {i : Int} : negR (.v (.int i)) ρ = .ok (.v (.int (-i))) ρ := rfl
@[simp] theorem v_neg : (den T (.neg a)).v ρ = ((den T a).v ρ).bind negR := by rw [den]; rfl
@[simp] theorem v_not : (den T (.not a)).v ρ = ((den T a).v ρ).bind fun x ρ1 => (asTruth x ρ1).bind fun c ρ2 => .ok (.v (.bl (!c))) ρ2 := by rw [den]
@[simp] theorem t_not : (den T (.not a)).t ρ = ((den T a).t ρ).bind fun c ρ1 => .ok (!c) ρ1 := by rw [den]
def andR (k : Env → Rs R) (x : R) (ρ : Env) : Rs R := match look ρ x with
  | some (.bl true) => k ρ
  | some (.bl false) => .ok (.v (.bl false)) ρ
  | _ => .no
def orR (k : Env → Rs R) (x : R) (ρ : Env) : Rs R := match look ρ x with
  | some (.bl true) => .ok (.v (.bl true)) ρ
  | some (.bl false) => k ρ
  | _ => .no
@[simp] theorem v_and : (den T (.and a b)).v ρ = ((den T a).v ρ).bind fun x ρ1 => andR (den T b).v x ρ1 := by rw [den]; rfl
@[simp] theorem v_or : (den T (.or a b)).v ρ = ((den T a).v ρ).bind fun x ρ1 => orR (den T b).v x ρ1 := by rw [den]; rfl
@[simp] theorem andR_t {k : Env → Rs R} : andR k (.v (.bl true)) ρ = k ρ := rfl
@[simp] theorem andR_f {k : Env → Rs R} : andR k (.v (.bl false)) ρ = .ok (.v (.bl false)) ρ := rfl
@[simp] theorem orR_t {k : Env → Rs R} : orR k (.v (.bl true)) ρ = .ok (.v (.bl true)) ρ := rfl
@[simp] theorem orR_f {k : Env → Rs R} : orR k (.v (.bl false)) ρ = k ρ := rfl
def iteB {α : Type} (x y : Env → α) (c : Bool) (ρ : Env) : α := match c with
  | true => x ρ
  | false => y ρ
@[simp] theorem iteB_t {α : Type} {x y : Env → α} : iteB x y true ρ = x ρ := rfl
@[simp] theorem iteB_f {α : Type} {x y : Env → α} : iteB x y false ρ = y ρ := rfl
@[simp] theorem t_and : (den T (.and a b)).t ρ = ((den T a).t ρ).bind (iteB (den T b).t (fun ρ => .ok false ρ)) := by
  rw [den]
  show _ = Rs.bind _ _
  first
    | rfl
    | (congr 1 <;> funext c ρ1 <;> cases c <;> rfl)
@[simp] theorem t_or : (den T (.or a b)).t ρ = ((den T a).t ρ).bind (iteB (fun ρ => .ok true ρ) (den T b).t) := by
  rw [den]
  show _ = Rs.bind _ _
  first
    | rfl
    | (congr 1 <;> funext c ρ1 <;> cases c <;> rfl)
@[simp] theorem v_ite : (den T (.ite e a b)).v ρ = ((den T e).t ρ).bind (iteB (den T a).v (den T b).v) := by
  rw [den]
  show _ = Rs.bind _ _
  first
    | rfl
    | (congr 1 <;> funext c ρ1 <;> cases c <;> rfl)
@[simp] theorem t_ite : (den T (.ite e a b)).t ρ = ((den T e).t ρ).bind (iteB (den T a).t (den T b).t) := by
  rw [den]
  show _ = Rs.bind _ _
  first
    | rfl
    | (congr 1 <;> funext c ρ1 <;> cases c <;> rfl)
@[simp] theorem asT_v {d : D} : asTruth (.v d) ρ = Rs.opt ρ (truth d) := rfl
@[simp] theorem asT_fl {d : List D} : asTruth (.fl d) ρ = .ok (!d.isEmpty) ρ := rfl
@[simp] theorem asT_br {i : Nat} : asTruth (.br i) ρ = Rs.opt ρ ((lkS ρ[i]?).bind truth) := by
  unfold asTruth
  rw [look_br]
@[simp] theorem truth_bl {c : Bool} : truth (.bl c) = some c := rfl
@[simp] theorem truth_int {c : Int} : truth (.int c) = some (c != 0) := rfl
@[simp] theorem truth_non : truth .non = some false := rfl
@[simp] theorem t_var {i : Nat} : (den T (.var i)).t ρ = ((den T (.var i)).v ρ).bind asTruth := by rw [den]; rfl
@[simp] theorem t_con {d : D} : (den T (.con d)).t ρ = ((den T (.con d)).v ρ).bind asTruth := by rw [den]; rfl
@[simp] theorem t_cmp {o : Cm} : (den T (.cmp o a b)).t ρ = ((den T (.cmp o a b)).v ρ).bind asTruth := by rw [den]; rfl
@[simp] theorem t_sub : (den T (.sub a b)).t ρ = ((den T (.sub a b)).v ρ).bind asTruth := by rw [den]; rfl
@[simp] theorem t_call {f : Nat} : (den T (.call f es)).t ρ = ((den T (.call f es)).v ρ).bind asTruth := by rw [den]; rfl
@[simp] theorem t_calli {f i : Nat} : (den T (.calli f i es)).t ρ = ((den T (.calli f i es)).v ρ).bind asTruth := by rw [den]; rfl
@[simp] theorem t_bi {f : Bi} : (den T (.bi f es)).t ρ = ((den T (.bi f es)).v ρ).bind asTruth := by rw [den]; rfl
@[simp] theorem t_isi {f : List Ty} : (den T (.isi a f)).t ρ = ((den T (.isi a f)).v ρ).bind asTruth := by rw [den]; rfl
@[simp] theorem t_chain {o o' : Cm} : (den T (.chain o o' a b e)).t ρ = ((den T (.chain o o' a b e)).v ρ).bind asTruth := by rw [den]; rfl
@[simp] theorem t_tabin {t : List (Str × D)} {n : Bool} : (den T (.tabin t n a)).t ρ = ((den T (.tabin t n a)).v ρ).bind asTruth := by rw [den]; rfl
def chR (k : Env → Rs R) (o o' : Cm) (x y : R) (ρ : Env) : Rs R := match (look ρ x).bind (fun d => (look ρ y).bind fun e => cmpop o d e) with
  | some true => (k ρ).bind fun z ρ3 => bin2 (fun d e => (cmpop o' d e).map fun c => .v (.bl c)) y z ρ3
  | some false => .ok (.v (.bl false)) ρ
  | none => .no
@[simp] theorem v_chain {o o' : Cm} : (den T (.chain o o' a b e)).v ρ = ((den T a).v ρ).bind fun x ρ1 => ((den T b).v ρ1).bind fun y ρ2 => chR (den T e).v o o' x y ρ2 := by rw [den]; rfl
theorem chR_vv {k : Env → Rs R} {o o' : Cm} {d e : D} : chR k o o' (.v d) (.v e) ρ = match cmpop o d e with
  | some true => (k ρ).bind fun z ρ3 => bin2 (fun d e => (cmpop o' d e).map fun c => .v (.bl c)) (.v e) z ρ3
  | some false => .ok (.v (.bl false)) ρ
  | none => .no := rfl
@[simp] theorem v_tup : (den T (.tup es)).v ρ = (evf T es ρ).bind fun ds ρ1 => if ds.length ≤ LINE then .ok (.v (.tup ds)) ρ1 else .no := by rw [den]; rfl
@[simp] theorem v_lst : (den T (.lst es)).v ρ = (evf T es ρ).bind fun ds ρ1 => if ds.length ≤ LINE then .ok (.fl ds) ρ1 else .no := by rw [den]; rfl
@[simp] theorem v_call {f : Nat} : (den T (.call f es)).v ρ = (evs T es ρ).bind fun rs ρ1 => callR T f rs ρ1 := by rw [den]; rfl
@[simp] theorem v_bi {f : Bi} : (den T (.bi f es)).v ρ = (evs T es ρ).bind fun rs ρ1 => Rs.opt ρ1 ((looks ρ1 rs).bind (biop f)) := by rw [den]; rfl
def isiR (t : List Ty) (x : R) (ρ : Env) : Rs R := Rs.opt ρ ((look ρ x).bind fun d => (isTy t d).map fun b => .v (.bl b))
@[simp] theorem v_isi {t : List Ty} : (den T (.isi a t)).v ρ = ((den T a).v ρ).bind (isiR t) := by rw [den]; rfl
@[simp] theorem isiR_v {t : List Ty} {d : D} : isiR t (.v d) ρ = Rs.opt ρ ((isTy t d).map fun b => .v (.bl b)) := rfl
@[simp] theorem evs_nil : evs T [] ρ = .ok [] ρ := by rw [evs]
@[simp] theorem evs_cons : evs T (e :: es) ρ = ((den T e).v ρ).bind fun x ρ1 => (evs T es ρ1).bind fun xs ρ2 => .ok (x :: xs) ρ2 := by rw [evs]
@[simp] theorem evf_nil : evf T [] ρ = .ok [] ρ := by rw [evf]
@[simp] theorem evf_cons : evf T (e :: es) ρ = ((den T e).v ρ).bind fun x ρ1 => (frz x ρ1).bind fun d ρ2 => (evf T es ρ2).bind fun ds ρ3 => .ok (d :: ds) ρ3 := by rw [evf]
@[simp] theorem frz_v {d : D} : frz (.v d) ρ = .ok d ρ := rfl
@[simp] theorem frz_fl {d : List D} : frz (.fl d) ρ = .ok (.lst d) ρ := rfl
@[simp] theorem evi_nil : evi T [] ρ = .ok [] ρ := by rw [evi]
def eviK (k : Env → Rs (List Int)) (x : R) (ρ : Env) : Rs (List Int) := match look ρ x with
  | some (.int i) => (k ρ).bind fun is ρ2 => .ok (i :: is) ρ2
  | _ => .no
@[simp] theorem evi_cons : evi T (e :: es) ρ = ((den T e).v ρ).bind (eviK (evi T es)) := by rw [evi]; rfl
@[simp] theorem eviK_i {k : Env → Rs (List Int)} {i : Int} : eviK k (.v (.int i)) ρ = (k ρ).bind fun is ρ2 => .ok (i :: is) ρ2 := rfl
def slcR (k : Sk) (x : R) (is : List Int) (ρ : Env) : Rs R := Rs.opt ρ ((look ρ x).bind fun d => slcD k d is)
@[simp] theorem v_slc {k : Sk} : (den T (.slc k a es)).v ρ = ((den T a).v ρ).bind fun x ρ1 => (evi T es ρ1).bind fun is ρ2 => slcR k x is ρ2 := by rw [den]; rfl
@[simp] theorem slcR_v {k : Sk} {d : D} {is : List Int} : slcR k (.v d) is ρ = Rs.opt ρ (slcD k d is) := rfl
@[simp] theorem slcR_fl {k : Sk} {d : List D} {is : List Int} : slcR k (.fl d) is ρ = Rs.opt ρ (slcD k (.lst d) is) := rfl
@[simp] theorem slcR_br {k : Sk} {i : Nat} {is : List Int} : slcR k (.br i) is ρ = Rs.opt ρ ((lkS ρ[i]?).bind fun d => slcD k d is) := by
  unfold slcR
  rw [look_br]
def tabinR (t : List (Str × D)) (n : Bool) (x : R) (ρ : Env) : Rs R := Rs.opt ρ (match look ρ x with | some (.str s) => some (.v (.bl ((tabGet s t).isSome != n))) | _ => none)
def tabgetR (t : List (Str × D)) (x : R) (ρ : Env) : Rs R := Rs.opt ρ (match look ρ x with | some (.str s) => (tabGet s t).map .v | _ => none)
@[simp] theorem v_tabin {t : List (Str × D)} {n : Bool} : (den T (.tabin t n a)).v ρ = ((den T a).v ρ).bind (tabinR t n) := by rw [den]; rfl
@[simp] theorem v_tabget {t : List (Str × D)} : (den T (.tabget t a)).v ρ = ((den T a).v ρ).bind (tabgetR t) := by rw [den]; rfl
@[simp] theorem tabinR_s {t : List (Str × D)} {n : Bool} {s : Str} : tabinR t n (.v (.str s)) ρ = .ok (.v (.bl ((tabGet s t).isSome != n))) ρ := rfl
@[simp] theorem tabgetR_s {t : List (Str × D)} {s : Str} : tabgetR t (.v (.str s)) ρ = Rs.opt ρ ((tabGet s t).map .v) := rfl
/-! ### statements -/
@[simp] theorem execs_nil : execs T [] ρ = .nx ρ := by rw [execs]
@[simp] theorem execs_cons {s : S} {ss : List S} : execs T (s :: ss) ρ = (exec T s ρ).seq (execs T ss) := by rw [execs]
@[simp] theorem seq_nx {k : Env → Out} : (Out.nx ρ).seq k = k ρ := rfl
@[simp] theorem seq_rt {k : Env → Out} {r : Rt} : (Out.rt r ρ).seq k = .rt r ρ := rfl
@[simp] theorem seq_bk {k : Env → Out} : (Out.bk ρ).seq k = .bk ρ := rfl
@[simp] theorem seq_ct {k : Env → Out} : (Out.ct ρ).seq k = .ct ρ := rfl
@[simp] theorem of_ok {α : Type} {x : α} {k : α → Env → Out} : Out.of (.ok x ρ) k = k x ρ := rfl
@[simp] theorem of_opt {α : Type} {o : Option α} {k : α → Env → Out} : Out.of (Rs.opt ρ o) k = match o with | some x => k x ρ | none => .no := by cases o <;> rfl
@[simp] theorem of_bind {α β : Type} {m : Rs α} {j : α → Env → Rs β} {k : β → Env → Out} : Out.of (m.bind j) k = Out.of m fun x ρ1 => Out.of (j x ρ1) k := by cases m <;> rfl
@[simp] theorem oopt_some : Out.opt (some ρ) = .nx ρ := rfl
@[simp] theorem s_asg {p : Pat} : exec T (.asg p e) ρ = .of ((den T e).v ρ) fun r ρ1 => .opt (asgR p r ρ1) := by rw [exec]; rfl
@[simp] theorem s_asgs {ps : List Pat} : exec T (.asgs ps es) ρ = .of (evs T es ρ) fun rs ρ1 => .opt ((stay ρ1 rs).bind fun rs' => (frzAll (brs rs) ρ1).bind (asgRs ps rs')) := by rw [exec]
@[simp] theorem s_expr : exec T (.expr e) ρ = .of ((den T e).v ρ) fun _ ρ1 => .nx ρ1 := by rw [exec]; rfl
@[simp] theorem s_ret : exec T (.ret e) ρ = .of ((den T e).v ρ) retR := by rw [exec]; rfl
@[simp] theorem s_retN : exec T .retN ρ = .rt (.v .non) ρ := by rw [exec]
@[simp] theorem s_ife {x y : List S} : exec T (.ife e x y) ρ = .of ((den T e).t ρ) (iteB (execs T x) (execs T y)) := by
  rw [exec]
  show Out.of _ _ = Out.of _ _
  first
    | rfl
    | (congr 1 <;> funext c ρ1 <;> cases c <;> rfl)
@[simp] theorem retR_v {d : D} : retR (.v d) ρ = .rt (.v d) ρ := rfl
@[simp] theorem retR_fl {d : List D} : retR (.fl d) ρ = .rt (.fl d) ρ := rfl
def retS (i : Nat) (ρ : Env) : Option Sl → Out
  | some (.ol xs) => .rt (.fl xs) (ρ.set i .no)
  | some (.v d) => .rt (.v d) ρ
  | _ => .no
@[simp] theorem retR_br {i : Nat} : retR (.br i) ρ = retS i ρ ρ[i]? := by
  show (match ρ[i]? with | some (.ol xs) => Out.rt (.fl xs) (ρ.set i .no) | some (.v d) => .rt (.v d) ρ | _ => .no) = _
  generalize ρ[i]? = o
  rcases o with _ | s
  · rfl
  · cases s <;> rfl
@[simp] theorem retS_ol {i : Nat} {xs : List D} : retS i ρ (some (.ol xs)) = .rt (.fl xs) (ρ.set i .no) := rfl
@[simp] theorem stay_nil : stay ρ [] = some [] := rfl
@[simp] theorem stay_v {d : D} {rs : List R} : stay ρ (.v d :: rs) = (stay ρ rs).map (.v d :: ·) := rfl
@[simp] theorem stay_fl {d : List D} {rs : List R} : stay ρ (.fl d :: rs) = (stay ρ rs).map (.fl d :: ·) := rfl
@[simp] theorem stay_br {i : Nat} {rs : List R} : stay ρ (.br i :: rs) = (look ρ (.br i)).bind fun d => (stay ρ rs).map (.v d :: ·) := rfl
@[simp] theorem frzAll_nil : frzAll [] ρ = some ρ := rfl
@[simp] theorem frzAll_cons {i : Nat} {is : List Nat} : frzAll (i :: is) ρ = (frzS i ρ).bind (frzAll is) := rfl
def frS (i : Nat) (ρ : Env) : Option Sl → Option Env
  | some (.ol xs) => some (ρ.set i (.v (.lst xs)))
  | some (.v _) => some ρ
  | _ => none
@[simp] theorem frzS_eq {i : Nat} : frzS i ρ = frS i ρ ρ[i]? := by
  unfold frzS
  generalize ρ[i]? = o
  rcases o with _ | s
  · rfl
  · cases s <;> rfl
@[simp] theorem frS_ol {i : Nat} {xs : List D} : frS i ρ (some (.ol xs)) = some (ρ.set i (.v (.lst xs))) := rfl
@[simp] theorem frS_v {i : Nat} {d : D} : frS i ρ (some (.v d)) = some ρ := rfl
@[simp] theorem frz_br {i : Nat} : frz (.br i) ρ = match lkS ρ[i]?, frS i ρ ρ[i]? with
  | some d, some ρ' => .ok d ρ'
  | _, _ => .no := by
  rw [← look_br, ← frzS_eq]
  rfl
@[simp] theorem asgR_nmv {i : Nat} {d : D} : asgR (.nm i) (.v d) ρ = setSlot i (.v d) ρ := by
  show asgD (.nm i) d ρ = _
  rw [asgD]
@[simp] theorem asgR_nmf {i : Nat} {d : List D} : asgR (.nm i) (.fl d) ρ = setSlot i (.ol d) ρ := rfl
@[simp] theorem asgR_tpv {ps : List Pat} {d : D} : asgR (.tp ps) (.v d) ρ = asgD (.tp ps) d ρ := rfl
@[simp] theorem asgR_tpf {ps : List Pat} {d : List D} : asgR (.tp ps) (.fl d) ρ = asgDs ps d ρ := rfl
@[simp] theorem asgR_nmb {i j : Nat} : asgR (.nm i) (.br j) ρ = (look ρ (.br j)).bind fun d => (frzS j ρ).bind (setSlot i (.v d)) := rfl
@[simp] theorem asgD_nm {i : Nat} {d : D} : asgD (.nm i) d ρ = setSlot i (.v d) ρ := by rw [asgD]
@[simp] theorem asgD_tup {ps : List Pat} {ds : List D} : asgD (.tp ps) (.tup ds) ρ = asgDs ps ds ρ := by rw [asgD]
@[simp] theorem asgD_lst {ps : List Pat} {ds : List D} : asgD (.tp ps) (.lst ds) ρ = asgDs ps ds ρ := by rw [asgD]
@[simp] theorem asgDs_nil : asgDs [] [] ρ = some ρ := by rw [asgDs]
@[simp] theorem asgDs_cons {p : Pat} {ps : List Pat} {d : D} {ds : List D} : asgDs (p :: ps) (d :: ds) ρ = (asgD p d ρ).bind (asgDs ps ds) := by rw [asgDs]
@[simp] theorem asgRs_nil : asgRs [] [] ρ = some ρ := rfl
@[simp] theorem asgRs_cons {p : Pat} {ps : List Pat} {r : R} {rs : List R} : asgRs (p :: ps) (r :: rs) ρ = (asgR p r ρ).bind (asgRs ps rs) := rfl
def setO (i : Nat) (s : Sl) (ρ : Env) : Option Sl → Option Env
  | some .no => some (ρ.set i s)
  | some (.v _) => some (ρ.set i s)
  | some (.ol _) => some (ρ.set i s)
  | _ => none
@[simp] theorem setSlot_eq {i : Nat} {s : Sl} : setSlot i s ρ = setO i s ρ ρ[i]? := by
  unfold setSlot
  generalize ρ[i]? = o
  rcases o with _ | t
  · rfl
  · cases t <;> rfl
@[simp] theorem setO_no {i : Nat} {s : Sl} : setO i s ρ (some .no) = some (ρ.set i s) := rfl
@[simp] theorem setO_v {i : Nat} {s : Sl} {d : D} : setO i s ρ (some (.v d)) = some (ρ.set i s) := rfl
@[simp] theorem setO_ol {i : Nat} {s : Sl} {d : List D} : setO i s ρ (some (.ol d)) = some (ρ.set i s) := rfl
/-! ### calls -/
theorem callR_eq {f : Nat} {rs : List R} {ds : List D} {rt : Rt} {cc : D} (hio : T.io f = false) (h1 : looks ρ rs = some ds) (h2 : T.fn f ds = some (rt, cc)) (hb : (noRt rt || (brs rs).isEmpty) = true) : callR T f rs ρ = rtR rt ρ := by
  unfold callR
  rw [hio, h1]
  dsimp only
  rw [h2]
  dsimp only
  unfold behind
  rw [if_pos hb]
/-- a call of the text's def -/
theorem call_eq {X : Tx} {k f : Nat} {fd : FD} {ds : List D} (h : X.fs[f]? = some fd) : call X (k + 1) f ds = runF (th X k) fd ds := by
  rw [call, h]
  rfl
@[simp] theorem th_fn {X : Tx} {k : Nat} : (th X k).fn = call X k := rfl
theorem th_io {X : Tx} {k f : Nat} : (th X k).io f = ((X.fs[f]?).map (·.io)).getD false := rfl
def endR : Out → Option (Rt × D)
  | .nx _ => some (.v .non, .non)
  | .rt r _ => some (r, .non)
  | .ex e _ => some (.ex e, .non)
  | _ => none
def lnOf : Env → Option D
  | .ln xs :: _ => some (.lst xs)
  | _ => none
def endI : Out → Option (Rt × D)
  | .nx ρ => (lnOf ρ).map fun c => (.v .non, c)
  | .rt r ρ => (lnOf ρ).map fun c => (r, c)
  | .ex e ρ => (lnOf ρ).map fun c => (.ex e, c)
  | _ => none
@[simp] theorem endR_nx : endR (.nx ρ) = some (.v .non, .non) := rfl
@[simp] theorem endR_rt {r : Rt} : endR (.rt r ρ) = some (r, .non) := rfl
@[simp] theorem endI_nx {xs : List D} : endI (.nx (.ln xs :: ρ)) = some (.v .non, .lst xs) := rfl
@[simp] theorem endI_rt {xs : List D} {r : Rt} : endI (.rt r (.ln xs :: ρ)) = some (r, .lst xs) := rfl
theorem fin_ln {f : FD} (h : f.io = true) : fin f ρ = lnOf ρ := by
  unfold fin lnOf
  rw [h]
  cases ρ with
  | nil => rfl
  | cons s r => cases s <;> rfl
theorem runF_eq {f : FD} {ds : List D} (hio : f.io = false) (hl : ds.length = f.np) : runF T f ds = endR (execs T f.body (ds.map Sl.v ++ List.replicate (f.ns - f.np) Sl.no)) := by
  unfold runF start0 endR
  rw [if_pos hl, hio]
  have hf : ∀ ρ, fin f ρ = some .non := fun ρ => by unfold fin; rw [hio]
  dsimp only
  cases execs T f.body (ds.map Sl.v ++ List.replicate (f.ns - f.np) Sl.no) <;> simp [hf]
theorem runI_eq {f : FD} {xs ds : List D} (hio : f.io = true) (hl : ds.length + 1 = f.np) : runF T f (.lst xs :: ds) = endI (execs T f.body (Sl.ln xs :: (ds.map Sl.v ++ List.replicate (f.ns - f.np) Sl.no))) := by
  unfold runF start0 endI
  rw [if_pos (by simpa using hl), hio]
  have hf : ∀ ρ, fin f ρ = lnOf ρ := fun ρ => fin_ln hio
  dsimp only [List.cons_append]
  cases execs T f.body (Sl.ln xs :: (ds.map Sl.v ++ List.replicate (f.ns - f.np) Sl.no)) <;> simp [hf]
/-- a def of the text, run -/
theorem go_f {X : Tx} {k f : Nat} {fd : FD} {ds : List D} (h : X.fs[f]? = some fd) (hio : fd.io = false) (hl : ds.length = fd.np) : call X (k + 1) f ds = endR (execs (th X k) fd.body (ds.map Sl.v ++ List.replicate (fd.ns - fd.np) Sl.no)) := by
  rw [call_eq h, runF_eq hio hl]
theorem go_i {X : Tx} {k f : Nat} {fd : FD} {xs ds : List D} (h : X.fs[f]? = some fd) (hio : fd.io = true) (hl : ds.length + 1 = fd.np) : call X (k + 1) f (.lst xs :: ds) = endI (execs (th X k) fd.body (Sl.ln xs :: (ds.map Sl.v ++ List.replicate (fd.ns - fd.np) Sl.no))) := by
  rw [call_eq h, runI_eq hio hl]
def calR (o : Option (Rt × D)) (bs : List Nat) (ρ : Env) : Rs R := match o with
  | some (rt, _) => behind rt bs ρ
  | none => .no
def calL (X : Tx) (k f : Nat) (o : Option (List D)) (bs : List Nat) (ρ : Env) : Rs R := match o with
  | some ds => calR (call X k f ds) bs ρ
  | none => .no
@[simp] theorem calL_some {X : Tx} {k f : Nat} {ds : List D} {bs : List Nat} : calL X k f (some ds) bs ρ = calR (call X k f ds) bs ρ := rfl
theorem callR_th {X : Tx} {k f : Nat} {rs : List R} (hio : (th X k).io f = false) : callR (th X k) f rs ρ = calL X k f (looks ρ rs) (brs rs) ρ := by
  unfold callR calL
  rw [hio]
  cases looks ρ rs <;> rfl
@[simp] theorem calR_v {d c : D} : calR (some (.v d, c)) [] ρ = .ok (.v d) ρ := by
  show behind (.v d) [] ρ = _
  unfold behind
  rw [if_pos (by simp)]
  rfl
@[simp] theorem calR_f {d : List D} {c : D} : calR (some (.fl d, c)) [] ρ = .ok (.fl d) ρ := by
  show behind (.fl d) [] ρ = _
  unfold behind
  rw [if_pos (by simp)]
  rfl
theorem calR_n {rt : Rt} {c : D} {bs : List Nat} (h : noRt rt = true) : calR (some (rt, c)) bs ρ = rtR rt ρ := by
  show behind rt bs ρ = _
  unfold behind
  rw [h]
  rfl
def slL : Option Sl → Option (List D)
  | some (.ol xs) => some xs
  | some (.ln xs) => some xs
  | _ => none
@[simp] theorem slL_ol {xs : List D} : slL (some (.ol xs)) = some xs := rfl
@[simp] theorem slL_ln {xs : List D} : slL (some (.ln xs)) = some xs := rfl
@[simp] theorem slotL_eq {i : Nat} : slotL i ρ = slL ρ[i]? := by
  unfold slotL
  generalize ρ[i]? = o
  rcases o with _ | s
  · rfl
  · cases s <;> rfl
def wrT (i : Nat) (c : D) (ρ : Env) : Option Sl → Option Env
  | some (.ol _) => (match c with | .lst xs => some (ρ.set i (.ol xs)) | _ => none)
  | some (.ln _) => (match c with | .lst xs => some (ρ.set i (.ln xs)) | _ => none)
  | _ => none
@[simp] theorem wrS_eq {i : Nat} {c : D} : wrS i c ρ = wrT i c ρ ρ[i]? := by
  unfold wrS
  generalize ρ[i]? = o
  rcases o with _ | s
  · rfl
  · cases s <;> cases c <;> rfl
@[simp] theorem wrT_ol {i : Nat} {xs ys : List D} : wrT i (.lst xs) ρ (some (.ol ys)) = some (ρ.set i (.ol xs)) := rfl
@[simp] theorem wrT_ln {i : Nat} {xs ys : List D} : wrT i (.lst xs) ρ (some (.ln ys)) = some (ρ.set i (.ln xs)) := rfl
def calJ (o : Option (Rt × D)) (i : Nat) (ρ ρ' : Env) : Rs R := match o with
  | some (rt, cc) => (match wrS i cc (if noRt rt then ρ else ρ') with
    | some ρ1 => rtR rt ρ1
    | none => .no)
  | none => .no
def calI (X : Tx) (k f i : Nat) (o : Option (List D)) (ρ' : Option Env) (xs : Option (List D)) (ρ : Env) : Rs R := match o, ρ', xs with
  | some ds, some ρ', some xs => if (slotL i ρ').isSome then calJ (call X k f (.lst xs :: ds)) i ρ ρ' else .no
  | _, _, _ => .no
@[simp] theorem calI_some {X : Tx} {k f i : Nat} {ds xs : List D} {ρ' : Env} : calI X k f i (some ds) (some ρ') (some xs) ρ = if (slotL i ρ').isSome then calJ (call X k f (.lst xs :: ds)) i ρ ρ' else .no := rfl
theorem calliR_th {X : Tx} {k f i : Nat} {rs : List R} (hio : (th X k).io f = true) : calliR (th X k) f i rs ρ = calI X k f i (looks ρ rs) (frzAll (brs rs) ρ) (slotL i ρ) ρ := by
  unfold calliR calI calJ
  rw [hio]
  cases looks ρ rs with
  | none => rfl
  | some ds =>
    cases frzAll (brs rs) ρ with
    | none => rfl
    | some ρ' =>
      cases slotL i ρ with
      | none => rfl
      | some xs => rfl
theorem calJ_n {rt : Rt} {c : D} {i : Nat} {ρ' : Env} (h : noRt rt = true) : calJ (some (rt, c)) i ρ ρ' = match wrS i c ρ with | some ρ1 => rtR rt ρ1 | none => .no := by
  unfold calJ
  simp only [h, if_true]
theorem calJ_s {rt : Rt} {c : D} {i : Nat} : calJ (some (rt, c)) i ρ ρ = match wrS i c ρ with | some ρ1 => rtR rt ρ1 | none => .no := by
  unfold calJ
  simp only [ite_self]
def caliK (k : Env → Rs R) (ρ : Env) : Option (List D) → Rs R
  | some _ => k ρ
  | none => .no
@[simp] theorem caliK_some {k : Env → Rs R} {xs : List D} : caliK k ρ (some xs) = k ρ := rfl
@[simp] theorem v_calli {f i : Nat} : (den T (.calli f i es)).v ρ = caliK (fun ρ => (evs T es ρ).bind fun rs ρ1 => calliR T f i rs ρ1) ρ (slotL i ρ) := by
  rw [den]
  show (match slotL i ρ with | some _ => _ | none => _) = _
  cases slotL i ρ <;> rfl
theorem lt_wide {n : Nat} (h : n < 2 ^ 64) : n < wideB := Nat.lt_trans h (by decide +kernel)
@[simp] theorem wide2 : 2 < wideB := by decide +kernel
theorem mulOk_l {i j : Int} (h : i.natAbs < 2 ^ 64) : mulOk i j = true := by
  unfold mulOk
  simp [h]
theorem mulOk_r {i j : Int} (h : j.natAbs < 2 ^ 64) : mulOk i j = true := by
  unfold mulOk
  simp [h]
theorem mulOk_w {i j : Int} (h : i.natAbs < wideB) (h2 : j.natAbs < wideB) : mulOk i j = true := by
  unfold mulOk
  simp [h, h2]
@[simp] theorem bop_add {i j : Int} : binop .add (.int i) (.int j) = some (.v (.int (i + j))) := rfl
@[simp] theorem bop_sub {i j : Int} : binop .sub (.int i) (.int j) = some (.v (.int (i - j))) := rfl
theorem bop_mul {i j : Int} (h : mulOk i j = true) : binop .mul (.int i) (.int j) = some (.v (.int (i * j))) := by
  show (if mulOk i j then _ else _) = _
  rw [if_pos h]
theorem bop_div {i j : Int} (h : 0 < j) (h2 : j.natAbs < wideB) : binop .div (.int i) (.int j) = some (.v (.int (i / j))) := by
  show (if 0 < j ∧ j.natAbs < wideB then _ else _) = _
  rw [if_pos ⟨h, h2⟩]
theorem bop_mod {i j : Int} (h : 0 < j) : binop .mod (.int i) (.int j) = some (.v (.int (i % j))) := by
  show (if 0 < j then _ else _) = _
  rw [if_pos h]
@[simp] theorem binop_div2 {i : Int} : binop .div (.int i) (.int 2) = some (.v (.int (i / 2))) := bop_div (by decide) (by decide +kernel)
@[simp] theorem cm_lt {i j : Int} : cmpop .lt (.int i) (.int j) = some (decide (i < j)) := rfl
@[simp] theorem cm_le {i j : Int} : cmpop .le (.int i) (.int j) = some (decide (i ≤ j)) := rfl
@[simp] theorem cm_gt {i j : Int} : cmpop .gt (.int i) (.int j) = some (decide (j < i)) := rfl
@[simp] theorem cm_ge {i j : Int} : cmpop .ge (.int i) (.int j) = some (decide (j ≤ i)) := rfl
theorem cm_eq' {a b : D} (h : eqOk a b = true) : cmpop .eq a b = some (eqD a b) := by
  have e : cmpop .eq a b = if eqOk a b then some (eqD a b) else none := by cases a <;> cases b <;> rfl
  rw [e, if_pos h]
theorem cm_ne' {a b : D} (h : eqOk a b = true) : cmpop .ne a b = some (!eqD a b) := by
  have e : cmpop .ne a b = if eqOk a b then some (!eqD a b) else none := by cases a <;> cases b <;> rfl
  rw [e, if_pos h]
@[simp] theorem cm_eqi {i j : Int} : cmpop .eq (.int i) (.int j) = some (decide (i = j)) := cm_eq' rfl
@[simp] theorem cm_nei {i j : Int} : cmpop .ne (.int i) (.int j) = some (!decide (i = j)) := cm_ne' rfl
@[simp] theorem cm_eqs {i j : Str} : cmpop .eq (.str i) (.str j) = some (i == j) := cm_eq' rfl
@[simp] theorem cm_nes {i j : Str} : cmpop .ne (.str i) (.str j) = some (!(i == j)) := cm_ne' rfl
@[simp] theorem cm_eqb {i j : Bool} : cmpop .eq (.bl i) (.bl j) = some (i == j) := cm_eq' rfl
@[simp] theorem cm_neb {i j : Bool} : cmpop .ne (.bl i) (.bl j) = some (!(i == j)) := cm_ne' rfl
@[simp] theorem cm_is0 {a : D} : cmpop .is_ a .non = some (isNon a) := by cases a <;> rfl
@[simp] theorem cm_isn0 {a : D} : cmpop .isn a .non = some (!isNon a) := by cases a <;> rfl
@[simp] theorem cm_isb {i j : Bool} : cmpop .is_ (.bl i) (.bl j) = some (i == j) := rfl
@[simp] theorem cm_isnb {i j : Bool} : cmpop .isn (.bl i) (.bl j) = some (!(i == j)) := rfl
/-! ### comprehensions -/
def tnE (T : Th) (p : Pat) (cs : List E) (e : E) : D → Env → Rs (Option D) := fun d ρ2 => match asgD p d ρ2 with
  | some ρ3 => (evC T cs ρ3).bind fun b ρ4 => match b with
    | true => ((den T e).v ρ4).bind fun r ρ5 => (frz r ρ5).bind fun y ρ6 => .ok (some y) ρ6
    | false => .ok none ρ4
  | none => .no
def lcF (ρ1 : Env) (vs : List Nat) : Rs (List D) → Rs R
  | .ok ys ρ9 => .ok (.fl ys) (restore ρ1 vs ρ9)
  | _ => .no
def lcE0 (T : Th) (p : Pat) (cs : List E) (e : E) (o : Option (List D)) (ρ1 : Env) : Rs R := match o with
  | some xs => if (patSlots p).all (isFree ρ1) && decide (xs.length ≤ LINE) then lcF ρ1 (patSlots p) (lcL (patSlots p) (tnE T p cs e) xs (wipeE ρ1 (patSlots p))) else .no
  | none => .no
/-- the same, but the kernel does not look into it (the limit of a line would be counted down one by one) -/
noncomputable def lcE : (T : Th) → (p : Pat) → (cs : List E) → (e : E) → (o : Option (List D)) → (ρ1 : Env) → Rs R := Classical.choose (⟨lcE0, rfl⟩ : ∃ f, f = lcE0)
theorem lcE_eq : lcE = lcE0 := Classical.choose_spec (⟨lcE0, rfl⟩ : ∃ f, f = lcE0)
@[simp] theorem v_lc {k : Ik} {p : Pat} {cs : List E} : (den T (.lc k es p cs e)).v ρ = (evf T es ρ).bind fun ds ρ1 => lcE T p cs e (items k ds) ρ1 := by
  rw [den]
  simp only [Den.of]
  cases evf T es ρ with
  | ok ds ρ1 =>
    show _ = lcE T p cs e (items k ds) ρ1
    rw [lcE_eq]
    unfold lcE0 lcF tnE
    simp only [Rs.bind_ok]
    all_goals (cases items k ds <;> rfl)
  | ex _ _ => rfl
  | no => rfl
theorem lcE_ok {p : Pat} {cs : List E} {xs ys : List D} {ρ9 : Env} (hf : (patSlots p).all (isFree ρ) = true) (hl : xs.length ≤ LINE) (h : lcL (patSlots p) (tnE T p cs e) xs (wipeE ρ (patSlots p)) = .ok ys ρ9) : lcE T p cs e (some xs) ρ = .ok (.fl ys) (restore ρ (patSlots p) ρ9) := by
  rw [lcE_eq]
  unfold lcE0
  dsimp only
  rw [hf, decide_eq_true hl, h]
  rfl
/-- every turn leaves the state as it was -/
theorem lcL_map {vs : List Nat} {turn : D → Env → Rs (Option D)} (f : D → D) : ∀ {xs : List D} {ρ : Env}, (∀ d ∈ xs, ∃ ρ1, turn d ρ = .ok (some (f d)) ρ1 ∧ wipeE ρ1 vs = ρ) → lcL vs turn xs ρ = .ok (xs.map f) ρ
  | [], ρ, _ => rfl
  | d :: xs, ρ, h => by
    obtain ⟨ρ1, h1, h2⟩ := h d List.mem_cons_self
    rw [lcL, h1]
    dsimp only
    rw [h2, lcL_map f fun d hd => h d (List.mem_cons_of_mem _ hd)]
    rfl
theorem tnE_ok {p : Pat} {d y : D} {ρ3 ρ6 : Env} (h1 : asgD p d ρ = some ρ3) (h2 : ((den T e).v ρ3).bind (fun r ρ5 => (frz r ρ5).bind fun y ρ6 => .ok (some y) ρ6) = .ok (some y) ρ6) : tnE T p [] e d ρ = .ok (some y) ρ6 := by
  unfold tnE
  rw [h1]
  dsimp only
  rw [evC]
  exact h2
/-- a for over a row -/
@[simp] theorem s_for {k : Ik} {p : Pat} {b : List S} : exec T (.forS k es p b) ρ = .of (evf T es ρ) fun ds ρ1 => match items k ds with
    | some xs => forL (asgD p) (execs T b) xs ρ1
    | none => .no := by
  rw [exec]
  all_goals (cases evf T es ρ <;> first | rfl | (simp only [of_ok]; all_goals (cases items k _ <;> rfl)))
theorem forL_step {asg : D → Env → Option Env} {body : Env → Out} {d : D} {ds : List D} {ρ1 ρ2 : Env} (h1 : asg d ρ = some ρ1) (h2 : body ρ1 = .nx ρ2) : forL asg body (d :: ds) ρ = forL asg body ds ρ2 := by
  rw [forL, h1]
  dsimp only
  rw [h2]
@[simp] theorem forL_nil {asg : D → Env → Option Env} {body : Env → Out} : forL asg body [] ρ = .nx ρ := rfl
/-! ### built-in functions -/
@[simp] theorem bi_len_t {xs : List D} : biop .len [.tup xs] = some (.v (.int xs.length)) := rfl
@[simp] theorem bi_len_l {xs : List D} : biop .len [.lst xs] = some (.v (.int xs.length)) := rfl
@[simp] theorem bi_tup_l {xs : List D} : biop .tuple [.lst xs] = some (.v (.tup xs)) := rfl
@[simp] theorem bi_tup_t {xs : List D} : biop .tuple [.tup xs] = some (.v (.tup xs)) := rfl
@[simp] theorem bi_lst_l {xs : List D} : biop .list [.lst xs] = some (.fl xs) := rfl
@[simp] theorem bi_lst_t {xs : List D} : biop .list [.tup xs] = some (.fl xs) := rfl
@[simp] theorem bi_abs {i : Int} : biop .abs [.int i] = some (.v (.int (if i < 0 then -i else i))) := rfl
@[simp] theorem bi_int_i {i : Int} : biop .int [.int i] = some (.v (.int i)) := rfl
@[simp] theorem bi_int_b {i : Bool} : biop .int [.bl i] = some (.v (.int (if i then 1 else 0))) := rfl
theorem intsD_map (is : List Int) : intsD (is.map .int) = some is := by
  induction is with
  | nil => rfl
  | cons i is ih => rw [List.map_cons, intsD, ih]; rfl
theorem blsD_map (is : List Bool) : blsD (is.map .bl) = some is := by
  induction is with
  | nil => rfl
  | cons i is ih => rw [List.map_cons, blsD, ih]; rfl
@[simp] theorem bi_sum {is : List Int} : biop .sum [.lst (is.map .int)] = some (.v (.int is.sum)) := by
  show (intsD (is.map .int)).map _ = _
  rw [intsD_map]
  rfl
@[simp] theorem bi_all {is : List Bool} : biop .all [.lst (is.map .bl)] = some (.v (.bl (is.all id))) := by
  show (blsD (is.map .bl)).map _ = _
  rw [blsD_map]
  rfl
@[simp] theorem bi_max {is : List Int} : biop .max [.lst (is.map .int)] = (maxL is).map fun i => .v (.int i) := by
  show (intsD (is.map .int)).bind _ = _
  rw [intsD_map]
  rfl
@[simp] theorem bi_min {is : List Int} : biop .min [.lst (is.map .int)] = (minL is).map fun i => .v (.int i) := by
  show (intsD (is.map .int)).bind _ = _
  rw [intsD_map]
  rfl
@[simp] theorem bi_max2 {i j : Int} : biop .max2 [.int i, .int j] = some (.v (.int (max i j))) := rfl
@[simp] theorem bi_min2 {i j : Int} : biop .min2 [.int i, .int j] = some (.v (.int (min i j))) := rfl
@[simp] theorem ps_nm {i : Nat} : patSlots (.nm i) = [i] := by rw [patSlots]
@[simp] theorem ps_tp {ps : List Pat} : patSlots (.tp ps) = patSlotss ps := by rw [patSlots]
@[simp] theorem pss_nil : patSlotss [] = [] := by rw [patSlotss]
@[simp] theorem pss_cons {p : Pat} {ps : List Pat} : patSlotss (p :: ps) = patSlots p ++ patSlotss ps := by rw [patSlotss]
@[simp] theorem isFree_v {i : Nat} {ρ : Env} {d : D} (h : ρ[i]? = some (.v d)) : isFree ρ i = true := by unfold isFree; rw [h]
@[simp] theorem it_of_t {xs : List D} : items .of [.tup xs] = some xs := rfl
@[simp] theorem it_of_l {xs : List D} : items .of [.lst xs] = some xs := rfl
@[simp] theorem it_en_t {xs : List D} : items .enum [.tup xs] = some (xs.zipIdx.map fun p => .tup [.int (p.2 : Nat), p.1]) := rfl
@[simp] theorem it_en_l {xs : List D} : items .enum [.lst xs] = some (xs.zipIdx.map fun p => .tup [.int (p.2 : Nat), p.1]) := rfl
theorem it_rng {n : Int} (h : r62 n = true) : items .rng [.int n] = some (rangeL 0 n) := by
  show (if r62 n then _ else _) = _
  rw [if_pos h]
theorem it_rng2 {m n : Int} (h : r62 m = true) (h2 : r62 n = true) : items .rng2 [.int m, .int n] = some (rangeL m n) := by
  show (if r62 m && r62 n then _ else _) = _
  rw [h, h2]
  rfl
@[simp] theorem restore_nil {ρ0 : Env} : restore ρ0 [] ρ = ρ := rfl
@[simp] theorem restore_cons {ρ0 : Env} {v : Nat} {vs : List Nat} : restore ρ0 (v :: vs) ρ = restore ρ0 vs (ρ.set v (ρ0.getD v .no)) := rfl
@[simp] theorem wipe_nil : wipeE ρ [] = ρ := rfl
@[simp] theorem wipe_cons {v : Nat} {vs : List Nat} : wipeE ρ (v :: vs) = (wipeE ρ vs).set v .no := rfl
@[simp] theorem LINE_e : LINE = 16777216 := rfl
theorem lcL_cons {vs : List Nat} {turn : D → Env → Rs (Option D)} {d y : D} {ds ys : List D} {ρ1 ρ2 : Env} (h1 : turn d ρ = .ok (some y) ρ1) (h2 : lcL vs turn ds (wipeE ρ1 vs) = .ok ys ρ2) : lcL vs turn (d :: ds) ρ = .ok (y :: ys) ρ2 := by
  rw [lcL, h1]
  dsimp only
  rw [h2]
@[simp] theorem lcL_nil {vs : List Nat} {turn : D → Env → Rs (Option D)} : lcL vs turn [] ρ = .ok [] ρ := rfl
def augA (i : Nat) (a : Int) (r : R) (ρ : Env) : Out := match look ρ r with
  | some (.int b) => .opt (setSlot i (.v (.int (a + b))) ρ)
  | _ => .no
@[simp] theorem augA_v {i : Nat} {a b : Int} : augA i a (.v (.int b)) ρ = .opt (setSlot i (.v (.int (a + b))) ρ) := rfl
def augG (k : Env → Rs R) (i : Nat) (ρ : Env) : Option Sl → Out
  | some (.v (.int a)) => .of (k ρ) (augA i a)
  | _ => .no
@[simp] theorem augG_v {k : Env → Rs R} {i : Nat} {a : Int} : augG k i ρ (some (.v (.int a))) = .of (k ρ) (augA i a) := rfl
@[simp] theorem s_aug {i : Nat} : exec T (.aug i .add e) ρ = augG (den T e).v i ρ ρ[i]? := by
  rw [exec]
  generalize ρ[i]? = o
  rcases o with _ | s
  · rfl
  · cases s with
    | v d =>
      cases d with
      | int a =>
        show Out.of ((den T e).v ρ) _ = Out.of ((den T e).v ρ) _
        cases (den T e).v ρ with
        | ok r ρ1 =>
          simp only [of_ok]
          unfold augA
          cases look ρ1 r with
          | none => rfl
          | some d => cases d <;> rfl
        | ex _ _ => rfl
        | no => rfl
      | _ => rfl
    | _ => rfl
/-- a slot that is free -/
def Fr (s : Sl) : Prop := s = .no ∨ ∃ d, s = .v d
theorem Fr.set {s t : Sl} {i : Nat} (h : Fr s) : setO i t ρ (some s) = some (ρ.set i t) := by
  rcases h with rfl | ⟨d, rfl⟩ <;> rfl
theorem fr_no : Fr .no := .inl rfl
theorem fr_v (d : D) : Fr (.v d) := .inr ⟨d, rfl⟩
/-! ### while -/
@[simp] theorem s_while {b : List S} : exec T (.whileS e b) ρ = whileL (den T e).t (execs T b) T.wf ρ := by rw [exec]; rfl
theorem whileL_go {t : Env → Rs Bool} {body : Env → Out} {n : Nat} {ρ1 ρ2 : Env} (h1 : t ρ = .ok true ρ1) (h2 : body ρ1 = .nx ρ2) : whileL t body (n + 1) ρ = whileL t body n ρ2 := by
  rw [whileL, h1]
  dsimp only
  rw [h2]
theorem whileL_end {t : Env → Rs Bool} {body : Env → Out} {n : Nat} {ρ1 : Env} (h1 : t ρ = .ok false ρ1) : whileL t body (n + 1) ρ = .nx ρ1 := by
  rw [whileL, h1]
@[simp] theorem th_wf {X : Tx} {k : Nat} : (th X k).wf = WF := rfl
end VL
end
section
open PySem
namespace VL.K30
def f_is_int : FD where
  np := 1
  ns := 1
  io := false
  body := [.ret (.and (.isi (.var 0) [.int]) (.not (.isi (.var 0) [.bool])))]
def f_is_within : FD where
  np := 3
  ns := 3
  io := false
  body := [.ret (.and (.call 0 [(.var 0)]) (.chain .le .le (.var 1) (.var 0) (.var 2)))]
def f_is_ints : FD where
  np := 1
  ns := 2
  io := false
  body := [.ret (.and (.isi (.var 0) [.tuple]) (.bi .all [(.lc .of [(.var 0)] (.nm 1) [] (.call 0 [(.var 1)]))]))]
def f_check_within : FD where
  np := 3
  ns := 3
  io := false
  body := [.ife (.not (.call 1 [(.var 0), (.var 1), (.var 2)])) [.raise 5] []]
def f_check_place : FD where
  np := 2
  ns := 2
  io := false
  body := [.ife (.not (.call 1 [(.var 1), (.con (.int (0))), (.bin .sub (.var 0) (.con (.int (1))))])) [.raise 6] []]
def f_is_one : FD where
  np := 1
  ns := 1
  io := false
  body := [.ret (.and (.isi (.var 0) [.tuple]) (.and (.cmp .eq (.bi .len [(.var 0)]) (.con (.int (1)))) (.and (.isi (.sub (.var 0) (.con (.int (0)))) [.str]) (.cmp .eq (.sub (.var 0) (.con (.int (0)))) (.glo (.str (Str.ofString "one")))))))]
def f_parts_of : FD where
  np := 1
  ns := 1
  io := false
  body := [.ife (.or (.not (.isi (.var 0) [.tuple])) (.or (.cmp .nin (.bi .len [(.var 0)]) (.tup [(.con (.int (2))), (.con (.int (3)))])) (.not (.isi (.sub (.var 0) (.con (.int (0)))) [.str])))) [.ret (.con .non)] [],
    .ife (.cmp .eq (.bi .len [(.var 0)]) (.con (.int (3)))) [.ret (.ite (.and (.tabin [((Str.ofString "ups"), (.str (Str.ofString "up"))), ((Str.ofString "downs"), (.str (Str.ofString "down")))] false (.sub (.var 0) (.con (.int (0))))) (.call 1 [(.sub (.var 0) (.con (.int (1)))), (.con (.int (1))), (.glo (.int (1000000000000000000000000000000000000000000000000000000000000000000000000000000000000000000000000000000000000000000000000000000000000000000000000000000000000000000000000000000000000000000000000000000000000000000000000000000000000000000000000000000000000000000000000000000000000000000000000000000000000)))])) (.tup [(.sub (.var 0) (.con (.int (2))))]) (.con .non))] [],
    .ife (.or (.cmp .nin (.sub (.var 0) (.con (.int (0)))) (.glo (.tup [(.str (Str.ofString "up")), (.str (Str.ofString "down"))]))) (.or (.not (.isi (.sub (.var 0) (.con (.int (1)))) [.tuple])) (.not (.chain .le .le (.con (.int (1))) (.bi .len [(.sub (.var 0) (.con (.int (1))))]) (.glo (.int (12))))))) [.ret (.con .non)] [],
    .ret (.sub (.var 0) (.con (.int (1))))]
def f_has_form : FD where
  np := 1
  ns := 7
  io := false
  body := [.asgs [(.nm 1), (.nm 2)] [(.lst [(.tup [(.var 0), (.con (.int (1)))])]), (.con (.int (0)))],
    .whileS (.cmp .gt (.bi .len [(.var 1)]) (.con (.int (0)))) [.asgs [(.tp [(.nm 3), (.nm 4)]), (.nm 1)] [(.sub (.var 1) (.neg (.con (.int (1))))), (.slc .hi (.var 1) [(.neg (.con (.int (1))))])],
    .aug 2 .add (.con (.int (1))),
    .ife (.or (.cmp .gt (.var 2) (.glo (.int (200)))) (.cmp .gt (.var 4) (.glo (.int (70))))) [.ret (.con (.bl false))] [],
    .ife (.not (.call 5 [(.var 3)])) [.asg (.nm 5) (.call 6 [(.var 3)]),
    .ife (.cmp .is_ (.var 5) (.con .non)) [.ret (.con (.bl false))] [],
    .asg (.nm 1) (.bin .add (.var 1) (.lc .of [(.var 5)] (.nm 6) [] (.tup [(.var 6), (.bin .add (.var 4) (.con (.int (1))))])))] []],
    .ret (.con (.bl true))]
def f_is_plan : FD where
  np := 1
  ns := 1
  io := false
  body := [.ret (.and (.call 7 [(.var 0)]) (.cmp .le (.call 12 [(.var 0)]) (.glo (.int (1000000000000000000000000000000000000000000000000000000000000000000000000000000000000000000000000000000000000000000000000000000000000000000000000000000000000000000000000000000000000000000000000000000000000000000000000000000000000000000000000000000000000000000000000000000000000000000000000000000000000)))))]
def f_check_plan : FD where
  np := 1
  ns := 1
  io := false
  body := [.ife (.not (.call 8 [(.var 0)])) [.raise 4] []]
def f_runs_of : FD where
  np := 1
  ns := 2
  io := false
  body := [.ife (.tabin [((Str.ofString "ups"), (.str (Str.ofString "up"))), ((Str.ofString "downs"), (.str (Str.ofString "down")))] false (.sub (.var 0) (.con (.int (0))))) [.ret (.tup [(.tup [(.sub (.var 0) (.con (.int (2)))), (.sub (.var 0) (.con (.int (1))))])])] [],
    .ret (.bi .tuple [(.lc .of [(.sub (.var 0) (.con (.int (1))))] (.nm 1) [] (.tup [(.var 1), (.con (.int (1)))]))])]
def f_word_of : FD where
  np := 1
  ns := 1
  io := false
  body := [.ret (.ite (.tabin [((Str.ofString "ups"), (.str (Str.ofString "up"))), ((Str.ofString "downs"), (.str (Str.ofString "down")))] false (.sub (.var 0) (.con (.int (0))))) (.tabget [((Str.ofString "ups"), (.str (Str.ofString "up"))), ((Str.ofString "downs"), (.str (Str.ofString "down")))] (.sub (.var 0) (.con (.int (0))))) (.sub (.var 0) (.con (.int (0)))))]
def f_size_of : FD where
  np := 1
  ns := 3
  io := false
  body := [.ret (.ite (.cmp .eq (.var 0) (.glo (.tup [(.str (Str.ofString "one"))]))) (.con (.int (1))) (.bi .sum [(.lc .of [(.call 10 [(.var 0)])] (.tp [(.nm 1), (.nm 2)]) [] (.bin .mul (.var 2) (.call 12 [(.var 1)])))]))]
def f_is_order : FD where
  np := 1
  ns := 1
  io := false
  body := [.ife (.or (.not (.call 2 [(.var 0)])) (.not (.chain .le .le (.con (.int (1))) (.bi .len [(.var 0)]) (.glo (.int (60)))))) [.ret (.con (.bl false))] [],
    .ret (.cmp .eq (.bi .sorted [(.var 0)]) (.bi .lrange1 [(.bi .len [(.var 0)])]))]
def f_check_order : FD where
  np := 1
  ns := 1
  io := false
  body := [.ife (.not (.call 13 [(.var 0)])) [.raise 3] []]
def f_code_of : FD where
  np := 1
  ns := 4
  io := false
  body := [.ret (.bi .tuple [(.lc .enum [(.var 0)] (.tp [(.nm 2), (.nm 3)]) [] (.bi .len [(.lc .of [(.slc .lo (.var 0) [(.var 2)])] (.nm 1) [(.cmp .lt (.var 1) (.var 3))] (.var 1))]))])]
def f_code : FD where
  np := 1
  ns := 1
  io := false
  body := [.expr (.call 14 [(.var 0)]),
    .ret (.call 15 [(.var 0)])]
def f_is_code : FD where
  np := 1
  ns := 3
  io := false
  body := [.ife (.or (.not (.call 2 [(.var 0)])) (.not (.chain .le .le (.con (.int (1))) (.bi .len [(.var 0)]) (.glo (.int (60)))))) [.ret (.con (.bl false))] [],
    .ret (.bi .all [(.lc .enum [(.var 0)] (.tp [(.nm 1), (.nm 2)]) [] (.chain .le .lt (.con (.int (0))) (.var 2) (.bin .sub (.bi .len [(.var 0)]) (.var 1))))])]
def f_order_by_code : FD where
  np := 1
  ns := 4
  io := false
  body := [.asgs [(.nm 1), (.nm 2)] [(.bi .lrange1 [(.bi .len [(.var 0)])]), (.lst [])],
    .forS .of [(.var 0)] (.nm 3) [.app 2 (.sub (.var 1) (.var 3)),
    .asg (.nm 1) (.bin .add (.slc .hi (.var 1) [(.var 3)]) (.slc .lo (.var 1) [(.bin .add (.var 3) (.con (.int (1))))]))],
    .ret (.bi .tuple [(.var 2)])]
def f_from_code : FD where
  np := 1
  ns := 1
  io := false
  body := [.ife (.not (.call 17 [(.var 0)])) [.raise 2] [],
    .ret (.call 18 [(.var 0)])]
def f_behind_less : FD where
  np := 2
  ns := 7
  io := false
  body := [.ife (.cmp .eq (.var 0) (.glo (.tup [(.str (Str.ofString "one"))]))) [.ret (.con (.int (0)))] [],
    .asg (.nm 2) (.call 12 [(.var 0)]),
    .forS .of [(.call 10 [(.var 0)])] (.tp [(.nm 3), (.nm 4)]) [.asg (.nm 5) (.call 12 [(.var 3)]),
    .ife (.cmp .lt (.var 1) (.bin .mul (.var 4) (.var 5))) [.asg (.nm 6) (.call 20 [(.var 3), (.bin .mod (.var 1) (.var 5))]),
    .ret (.ite (.cmp .eq (.call 11 [(.var 0)]) (.glo (.str (Str.ofString "down")))) (.bin .sub (.bin .add (.var 6) (.var 2)) (.bin .mul (.bin .add (.bin .div (.var 1) (.var 5)) (.con (.int (1)))) (.var 5))) (.var 6))] [],
    .aug 1 .sub (.bin .mul (.var 4) (.var 5)),
    .aug 2 .sub (.bin .mul (.var 4) (.var 5))],
    .ret (.con .non)]
def f_ahead_greater : FD where
  np := 2
  ns := 7
  io := false
  body := [.ife (.cmp .eq (.var 0) (.glo (.tup [(.str (Str.ofString "one"))]))) [.ret (.con (.int (0)))] [],
    .asg (.nm 2) (.con (.int (0))),
    .forS .of [(.call 10 [(.var 0)])] (.tp [(.nm 3), (.nm 4)]) [.asg (.nm 5) (.call 12 [(.var 3)]),
    .ife (.cmp .lt (.var 1) (.bin .mul (.var 4) (.var 5))) [.asg (.nm 6) (.call 21 [(.var 3), (.bin .mod (.var 1) (.var 5))]),
    .ret (.ite (.cmp .eq (.call 11 [(.var 0)]) (.glo (.str (Str.ofString "down")))) (.bin .add (.bin .add (.var 6) (.var 2)) (.bin .mul (.bin .div (.var 1) (.var 5)) (.var 5))) (.var 6))] [],
    .aug 1 .sub (.bin .mul (.var 4) (.var 5)),
    .aug 2 .add (.bin .mul (.var 4) (.var 5))],
    .ret (.con .non)]
def f_code_at : FD where
  np := 2
  ns := 2
  io := false
  body := [.expr (.call 9 [(.var 0)]),
    .expr (.call 4 [(.call 12 [(.var 0)]), (.var 1)]),
    .ret (.call 20 [(.var 0), (.var 1)])]
def f_greater_ahead : FD where
  np := 2
  ns := 2
  io := false
  body := [.expr (.call 9 [(.var 0)]),
    .expr (.call 4 [(.call 12 [(.var 0)]), (.var 1)]),
    .ret (.call 21 [(.var 0), (.var 1)])]
def f_greatest_in : FD where
  np := 1
  ns := 6
  io := false
  body := [.ife (.cmp .eq (.var 0) (.glo (.tup [(.str (Str.ofString "one"))]))) [.ret (.con (.int (0)))] [],
    .asgs [(.nm 1), (.nm 2)] [(.con (.int (0))), (.call 12 [(.var 0)])],
    .forS .of [(.call 10 [(.var 0)])] (.tp [(.nm 3), (.nm 4)]) [.asg (.nm 5) (.call 12 [(.var 3)]),
    .asg (.nm 1) (.bi .max2 [(.var 1), (.bin .add (.call 24 [(.var 3)]) (.ite (.cmp .eq (.call 11 [(.var 0)]) (.glo (.str (Str.ofString "down")))) (.bin .sub (.var 2) (.var 5)) (.con (.int (0)))))]),
    .aug 2 .sub (.bin .mul (.var 4) (.var 5))],
    .ret (.var 1)]
def f_greatest_code : FD where
  np := 1
  ns := 1
  io := false
  body := [.expr (.call 9 [(.var 0)]),
    .ret (.call 24 [(.var 0)])]
def f_orders_many : FD where
  np := 1
  ns := 3
  io := false
  body := [.asg (.nm 1) (.con (.int (1))),
    .forS .rng2 [(.con (.int (1))), (.bin .add (.var 0) (.con (.int (1))))] (.nm 2) [.asg (.nm 1) (.bin .mul (.var 1) (.var 2))],
    .ret (.var 1)]
def f_order_number : FD where
  np := 1
  ns := 4
  io := false
  body := [.expr (.call 14 [(.var 0)]),
    .asg (.nm 1) (.con (.int (0))),
    .forS .enum [(.call 15 [(.var 0)])] (.tp [(.nm 2), (.nm 3)]) [.asg (.nm 1) (.bin .add (.bin .mul (.var 1) (.bin .sub (.bi .len [(.var 0)]) (.var 2))) (.var 3))],
    .ret (.var 1)]
def f_numbered_order : FD where
  np := 2
  ns := 4
  io := false
  body := [.expr (.call 3 [(.var 0), (.con (.int (1))), (.glo (.int (60)))]),
    .expr (.call 3 [(.var 1), (.con (.int (0))), (.bin .sub (.call 26 [(.var 0)]) (.con (.int (1))))]),
    .asg (.nm 2) (.lst []),
    .forS .rng2 [(.con (.int (1))), (.bin .add (.var 0) (.con (.int (1))))] (.nm 3) [.app 2 (.bin .mod (.var 1) (.var 3)),
    .asg (.nm 1) (.bin .div (.var 1) (.var 3))],
    .ret (.call 18 [(.bi .tuple [(.slc .rev (.var 2) [])])])]
def f_turned_in : FD where
  np := 1
  ns := 6
  io := false
  body := [.ife (.cmp .eq (.var 0) (.glo (.tup [(.str (Str.ofString "one"))]))) [.ret (.con (.int (0)))] [],
    .asgs [(.nm 1), (.nm 2)] [(.con (.int (0))), (.con (.int (0)))],
    .forS .of [(.call 10 [(.var 0)])] (.tp [(.nm 3), (.nm 4)]) [.asg (.nm 5) (.call 12 [(.var 3)]),
    .aug 1 .add (.bin .mul (.var 4) (.call 29 [(.var 3)])),
    .ife (.cmp .eq (.call 11 [(.var 0)]) (.glo (.str (Str.ofString "down")))) [.aug 1 .add (.bin .add (.bin .mul (.bin .mul (.var 2) (.var 4)) (.var 5)) (.bin .mul (.bin .mul (.var 5) (.var 5)) (.bin .div (.bin .mul (.var 4) (.bin .sub (.var 4) (.con (.int (1))))) (.con (.int (2))))))] [],
    .aug 2 .add (.bin .mul (.var 4) (.var 5))],
    .ret (.var 1)]
def f_turned_pairs : FD where
  np := 1
  ns := 1
  io := false
  body := [.expr (.call 9 [(.var 0)]),
    .ret (.call 29 [(.var 0)])]
def f__law_hand : FD where
  np := 1
  ns := 3
  io := false
  body := [.asg (.nm 1) (.lc .of [(.slc .hi (.var 0) [(.con (.int (63)))])] (.nm 2) [] (.bin .mod (.bi .int [(.bi .abs [(.bi .int [(.var 2)])])]) (.bin .pow (.con (.int (10))) (.con (.int (36)))))),
    .ret (.lst [(.var 1), (.con (.int (0))), (.con (.int (0))), (.bin .add (.con (.int (2153))) (.bin .mul (.con (.int (5))) (.bi .len [(.var 1)]))), (.con (.int (0)))])]
def f__law_draw : FD where
  np := 2
  ns := 5
  io := true
  body := [.ife (.and (.cmp .eq (.sub (.var 0) (.con (.int (2)))) (.con (.int (0)))) (.cmp .lt (.sub (.var 0) (.con (.int (1)))) (.bi .len [(.sub (.var 0) (.con (.int (0))))]))) [.asg (.nm 2) (.sub (.sub (.var 0) (.con (.int (0)))) (.sub (.var 0) (.con (.int (1))))),
    .set 0 (.con (.int (1))) (.bin .add (.sub (.var 0) (.con (.int (1)))) (.con (.int (1)))),
    .set 0 (.con (.int (3))) (.bin .mod (.bi .int [(.bin .add (.bin .add (.bin .mul (.sub (.var 0) (.con (.int (3)))) (.con (.int (69621)))) (.bin .mul (.var 2) (.con (.int (40692))))) (.con (.int (37))))]) (.con (.int (2147483629)))),
    .ife (.cmp .ge (.var 2) (.bin .pow (.con (.int (10))) (.con (.int (18))))) [.set 0 (.con (.int (2))) (.var 2)] []] [],
    .ife (.cmp .gt (.sub (.var 0) (.con (.int (2)))) (.con (.int (0)))) [.asg (.nm 3) (.bin .mod (.bi .int [(.sub (.var 0) (.con (.int (2))))]) (.var 1)),
    .set 0 (.con (.int (2))) (.bin .div (.sub (.var 0) (.con (.int (2)))) (.var 1)),
    .ret (.var 3)] [],
    .set 0 (.con (.int (4))) (.bin .add (.sub (.var 0) (.con (.int (4)))) (.con (.int (1)))),
    .asg (.nm 4) (.bin .mod (.bi .int [(.bin .mul (.bi .int [(.bin .add (.sub (.var 0) (.con (.int (3)))) (.bin .mul (.con (.int (7919))) (.sub (.var 0) (.con (.int (4))))))]) (.con (.int (48271))))]) (.con (.int (2147483647)))),
    .asg (.nm 4) (.bin .mod (.bi .int [(.bin .mul (.var 4) (.bin .add (.bin .div (.var 4) (.con (.int (1009)))) (.con (.int (69621)))))]) (.con (.int (2147483647)))),
    .asg (.nm 4) (.bin .mod (.bi .int [(.bin .mul (.var 4) (.bin .add (.bin .div (.var 4) (.con (.int (2003)))) (.con (.int (40014)))))]) (.con (.int (2147483563)))),
    .ret (.bin .mod (.bi .int [(.bin .div (.var 4) (.con (.int (16))))]) (.var 1))]
def f__law_any : FD where
  np := 2
  ns := 2
  io := true
  body := [.ret (.sub (.var 1) (.calli 32 0 [(.bi .len [(.var 1)])]))]
def f__law_laid : FD where
  np := 2
  ns := 8
  io := false
  body := [.asgs [(.nm 2), (.nm 3), (.nm 4)] [(.lst []), (.bi .sum [(.lc .of [(.var 1)] (.nm 5) [] (.bi .len [(.var 5)]))]), (.con (.int (0)))],
    .forS .of [(.var 1)] (.nm 5) [.asg (.nm 6) (.ite (.cmp .eq (.var 0) (.con (.str (Str.ofString "up")))) (.var 4) (.bin .sub (.bin .sub (.var 3) (.var 4)) (.bi .len [(.var 5)]))),
    .ext 2 (.lc .of [(.var 5)] (.nm 7) [] (.bin .add (.var 6) (.var 7))),
    .asg (.nm 4) (.bin .add (.var 4) (.bi .len [(.var 5)]))],
    .ret (.var 2)]
def f__law_plan : FD where
  np := 2
  ns := 9
  io := true
  body := [.asg (.nm 2) (.ite (.cmp .gt (.var 1) (.con (.int (0)))) (.calli 32 0 [(.con (.int (5)))]) (.con (.int (0)))),
    .ife (.cmp .eq (.var 2) (.con (.int (0)))) [.ret (.tup [(.tup [(.con (.str (Str.ofString "one")))]), (.lst [(.con (.int (0)))])])] [],
    .asg (.nm 3) (.calli 33 0 [(.lst [(.con (.str (Str.ofString "up"))), (.con (.str (Str.ofString "down")))])]),
    .ife (.cmp .lt (.var 2) (.con (.int (4)))) [.asg (.nm 4) (.lc .rng [(.bin .add (.con (.int (1))) (.calli 32 0 [(.con (.int (3)))]))] (.nm 5) [] (.calli 35 0 [(.bin .sub (.var 1) (.con (.int (1))))])),
    .ret (.tup [(.tup [(.var 3), (.bi .tuple [(.lc .of [(.var 4)] (.tp [(.nm 6), (.nm 7)]) [] (.var 6))])]), (.call 34 [(.var 3), (.lc .of [(.var 4)] (.tp [(.nm 6), (.nm 7)]) [] (.var 7))])])] [],
    .asg (.tp [(.nm 6), (.nm 7)]) (.calli 35 0 [(.bin .sub (.var 1) (.con (.int (1))))]),
    .asg (.nm 8) (.bin .add (.con (.int (1))) (.calli 32 0 [(.con (.int (3)))])),
    .ret (.tup [(.tup [(.bin .add (.var 3) (.con (.str (Str.ofString "s")))), (.var 8), (.var 6)]), (.call 34 [(.var 3), (.bin .mul (.lst [(.var 7)]) (.var 8))])])]
def f__law_order : FD where
  np := 2
  ns := 5
  io := true
  body := [.asgs [(.nm 2), (.nm 3)] [(.bi .lrange1 [(.var 1)]), (.lst [])],
    .forS .rng [(.var 1)] (.nm 4) [.app 3 (.pop 2 [(.calli 32 0 [(.bi .len [(.var 2)])])])],
    .ret (.bi .tuple [(.var 3)])]
def f__law_code : FD where
  np := 1
  ns := 4
  io := false
  body := [.ret (.bi .tuple [(.lc .enum [(.var 0)] (.tp [(.nm 2), (.nm 3)]) [] (.bi .len [(.lc .of [(.slc .lo (.var 0) [(.bin .add (.var 2) (.con (.int (1))))])] (.nm 1) [(.cmp .lt (.var 1) (.var 3))] (.var 1))]))])]
def f__law_number : FD where
  np := 1
  ns := 4
  io := false
  body := [.asg (.nm 1) (.con (.int (0))),
    .forS .enum [(.call 37 [(.var 0)])] (.tp [(.nm 2), (.nm 3)]) [.asg (.nm 1) (.bin .add (.bin .mul (.var 1) (.bin .sub (.bi .len [(.var 0)]) (.var 2))) (.var 3))],
    .ret (.var 1)]
def f__law_is_code : FD where
  np := 1
  ns := 3
  io := false
  body := [.ife (.or (.not (.isi (.var 0) [.tuple])) (.not (.chain .le .le (.con (.int (1))) (.bi .len [(.var 0)]) (.con (.int (60)))))) [.ret (.con (.bl false))] [],
    .ife (.not (.bi .all [(.lc .of [(.var 0)] (.nm 1) [] (.and (.isi (.var 1) [.int]) (.not (.isi (.var 1) [.bool]))))])) [.ret (.con (.bl false))] [],
    .ret (.bi .all [(.lc .enum [(.var 0)] (.tp [(.nm 2), (.nm 1)]) [] (.chain .le .lt (.con (.int (0))) (.var 1) (.bin .sub (.bi .len [(.var 0)]) (.var 2))))])]
def f__law_bent : FD where
  np := 2
  ns := 5
  io := true
  body := [.asg (.nm 2) (.calli 32 0 [(.bi .len [(.var 1)])]),
    .asg (.nm 3) (.calli 33 0 [(.lst [(.con (.int (0))), (.bin .add (.sub (.var 1) (.var 2)) (.con (.int (1)))), (.bin .sub (.bi .len [(.var 1)]) (.var 2)), (.bin .sub (.bin .sub (.bi .len [(.var 1)]) (.var 2)) (.con (.int (1)))), (.neg (.con (.int (1)))), (.con .non), (.con (.bl true)), (.con (.str (Str.ofString "0"))), (.tup [(.con (.int (0)))])])]),
    .asg (.nm 4) (.bin .add (.bin .mul (.lst [(.bin .add (.bin .add (.slc .hi (.var 1) [(.var 2)]) (.tup [(.var 3)])) (.slc .lo (.var 1) [(.bin .add (.var 2) (.con (.int (1))))]))]) (.con (.int (4)))) (.lst [(.slc .lo (.var 1) [(.con (.int (1)))]), (.bin .add (.var 1) (.tup [(.con (.int (0)))])), (.bin .add (.tup [(.con (.int (0)))]) (.var 1)), (.slc .rev (.var 1) []), (.bi .list [(.var 1)]), (.tup []), (.tup [(.var 1)])])),
    .ret (.calli 33 0 [(.bin .add (.var 4) (.lst [(.con .non), (.con (.int (0))), (.con (.str (Str.ofString "x"))), .emp, (.bin .mul (.tup [(.con (.int (0)))]) (.con (.int (61))))]))])]
def f__law_order_right : FD where
  np := 2
  ns := 8
  io := true
  body := [.asg (.nm 2) (.call 37 [(.var 1)]),
    .ife (.or (.cmp .ne (.call 16 [(.var 1)]) (.var 2)) (.or (.cmp .ne (.call 19 [(.var 2)]) (.var 1)) (.cmp .ne (.call 27 [(.var 1)]) (.call 38 [(.var 1)])))) [.ret (.con (.bl false))] [],
    .ife (.cmp .ne (.call 28 [(.bi .len [(.var 1)]), (.call 38 [(.var 1)])]) (.var 1)) [.ret (.con (.bl false))] [],
    .forS .rng [(.con (.int (5)))] (.nm 3) [.asg (.nm 4) (.calli 40 0 [(.var 2)]),
    .ife (.not (.call 39 [(.var 4)])) [.ife (.cmp .ne (.word 43 (.call 19 [(.var 4)])) (.con (.str (Str.ofString "code")))) [.ret (.con (.bl false))] []] [.ife (.cmp .ne (.call 37 [(.call 19 [(.var 4)])]) (.var 4)) [.ret (.con (.bl false))] []]],
    .asg (.nm 5) (.con (.int (1))),
    .forS .rng2 [(.con (.int (2))), (.bin .add (.bi .len [(.var 1)]) (.con (.int (1))))] (.nm 6) [.asg (.nm 5) (.bin .mul (.var 5) (.var 6))],
    .asg (.nm 7) (.calli 32 0 [(.var 5)]),
    .ife (.cmp .ne (.call 38 [(.call 28 [(.bi .len [(.var 1)]), (.var 7)])]) (.var 7)) [.ret (.con (.bl false))] [],
    .ret (.cmp .eq (.word 43 (.call 28 [(.bi .len [(.var 1)]), (.var 5)])) (.con (.str (Str.ofString "number"))))]
def f__law_plan_right : FD where
  np := 3
  ns := 12
  io := true
  body := [.asg (.nm 3) (.call 37 [(.var 2)]),
    .forS .rng [(.bi .len [(.var 2)])] (.nm 4) [.asg (.nm 5) (.bi .len [(.lc .of [(.slc .hi (.var 2) [(.var 4)])] (.nm 6) [(.cmp .gt (.var 6) (.sub (.var 2) (.var 4)))] (.var 6))]),
    .ife (.or (.cmp .ne (.call 22 [(.var 1), (.var 4)]) (.sub (.var 3) (.var 4))) (.cmp .ne (.call 23 [(.var 1), (.var 4)]) (.var 5))) [.ret (.con (.bl false))] []],
    .ife (.or (.cmp .ne (.call 25 [(.var 1)]) (.bi .max [(.var 3)])) (.cmp .ne (.bi .sum [(.var 3)]) (.call 30 [(.var 1)]))) [.ret (.con (.bl false))] [],
    .asgs [(.nm 7), (.nm 4)] [(.bin .pow (.con (.int (10))) (.con (.int (30)))), (.calli 32 0 [(.bi .len [(.var 2)])])],
    .asgs [(.nm 8), (.nm 9)] [(.tup [(.con (.str (Str.ofString "downs"))), (.var 7), (.var 1)]), (.calli 33 0 [(.lst [(.con (.int (0))), (.bin .sub (.var 7) (.con (.int (1)))), (.calli 32 0 [(.bin .pow (.con (.int (10))) (.con (.int (9))))])])])],
    .asg (.nm 10) (.bin .mul (.bin .sub (.bin .sub (.var 7) (.con (.int (1)))) (.var 9)) (.bi .len [(.var 2)])),
    .ife (.cmp .ne (.call 22 [(.var 8), (.bin .add (.bin .mul (.var 9) (.bi .len [(.var 2)])) (.var 4))]) (.bin .add (.sub (.var 3) (.var 4)) (.var 10))) [.ret (.con (.bl false))] [],
    .ife (.cmp .ne (.call 23 [(.var 8), (.bin .add (.bin .mul (.var 9) (.bi .len [(.var 2)])) (.var 4))]) (.bin .add (.bin .mul (.var 9) (.bi .len [(.var 2)])) (.call 23 [(.var 1), (.var 4)]))) [.ret (.con (.bl false))] [],
    .ife (.cmp .ne (.call 25 [(.var 8)]) (.bin .add (.bi .max [(.var 3)]) (.bin .mul (.bin .sub (.var 7) (.con (.int (1)))) (.bi .len [(.var 2)])))) [.ret (.con (.bl false))] [],
    .asg (.nm 11) (.lst [(.word 43 (.call 22 [(.var 1), (.calli 33 0 [(.lst [(.bi .len [(.var 2)]), (.neg (.con (.int (1)))), (.con .non), (.con (.bl true)), (.con (.str (Str.ofString "0")))])])]))]),
    .app 11 (.word 43 (.call 23 [(.var 1), (.calli 33 0 [(.lst [(.bi .len [(.var 2)]), (.neg (.con (.int (1)))), (.con .non), (.con (.bl true)), (.con (.str (Str.ofString "0")))])])])),
    .ret (.cmp .eq (.var 11) (.lst [(.con (.str (Str.ofString "place"))), (.con (.str (Str.ofString "place")))]))]
def f__law_word : FD where
  np := 1
  ns := 3
  io := false
  body := [.tryw 1 1 [.asg (.nm 2) (.lst [(.isx 1 2), (.isx 1 3), (.isx 1 4)]),
    .asg (.nm 2) (.bin .add (.var 2) (.lst [(.isx 1 5), (.isx 1 6)])),
    .ife (.or (.cmp .ne (.mt .count (.var 2) [(.con (.bl true))]) (.con (.int (1)))) (.not (.isx 1 0))) [.ret (.con (.str (Str.ofString "other")))] [],
    .ret (.sub (.lst [(.con (.str (Str.ofString "code"))), (.con (.str (Str.ofString "order"))), (.con (.str (Str.ofString "plan"))), (.con (.str (Str.ofString "number"))), (.con (.str (Str.ofString "place")))]) (.mt .index (.var 2) [(.con (.bl true))]))],
    .ret (.con (.str (Str.ofString "told")))]
def f__law_refused_right : FD where
  np := 1
  ns := 6
  io := true
  body := [.asg (.nm 1) (.calli 33 0 [(.lst [(.con .non), (.con (.int (0))), (.tup []), (.lst [(.con (.int (0)))]), (.tup [(.con (.int (1)))]), (.tup [(.con (.int (0))), (.con (.int (0)))]), (.tup [(.con (.int (0))), (.con (.int (2)))]), (.tup [(.con (.bl true))]), (.tup [(.con (.str (Str.ofString "0")))]), .emp, (.con (.str (Str.ofString "01")))])]),
    .asg (.nm 2) (.calli 33 0 [(.lst [(.con .non), (.con (.int (0))), (.tup []), (.tup [(.con (.str (Str.ofString "two")))]), (.tup [(.con (.str (Str.ofString "up"))), (.tup [])]), (.tup [(.con (.str (Str.ofString "ups"))), (.con (.int (0))), (.tup [(.con (.str (Str.ofString "one")))])]), (.lst [(.con (.str (Str.ofString "one")))]), (.tup [(.con (.str (Str.ofString "up"))), (.tup [(.con .non)])]), (.con (.str (Str.ofString "one")))])]),
    .asgs [(.nm 3), (.nm 4)] [(.calli 33 0 [(.lst [(.con (.int (0))), (.con (.int (61))), (.neg (.con (.int (1)))), (.con .non), (.con (.bl true)), (.con (.str (Str.ofString "3")))])]), (.lst [])],
    .forS .of [(.tup [(.fnv 16), (.fnv 27)])] (.nm 5) [.app 4 (.word 43 (.callv 5 [(.var 1)]))],
    .app 4 (.word 43 (.call 25 [(.var 2)])),
    .app 4 (.word 43 (.call 22 [(.var 2), (.neg (.con (.int (1))))])),
    .app 4 (.word 43 (.call 28 [(.var 3), (.con (.int (0)))])),
    .app 4 (.word 43 (.call 28 [(.con (.int (3))), (.calli 33 0 [(.lst [(.con (.int (6))), (.neg (.con (.int (1)))), (.con .non), (.con (.bl true)), (.con (.str (Str.ofString "0")))])])])),
    .ret (.cmp .eq (.var 4) (.lst [(.con (.str (Str.ofString "order"))), (.con (.str (Str.ofString "order"))), (.con (.str (Str.ofString "plan"))), (.con (.str (Str.ofString "plan"))), (.con (.str (Str.ofString "number"))), (.con (.str (Str.ofString "number")))]))]
def f_law : FD where
  np := 1
  ns := 5
  io := false
  body := [.asg (.nm 1) (.call 31 [(.var 0)]),
    .ife (.or (.cmp .ne (.call 16 [(.tup [(.con (.int (2))), (.con (.int (0))), (.con (.int (1)))])]) (.tup [(.con (.int (2))), (.con (.int (0))), (.con (.int (0)))])) (.or (.cmp .ne (.call 19 [(.tup [(.con (.int (0)))])]) (.tup [(.con (.int (0)))])) (.cmp .ne (.call 27 [(.tup [(.con (.int (2))), (.con (.int (1))), (.con (.int (0)))])]) (.con (.int (5)))))) [.ret (.con (.bl false))] [],
    .forS .rng [(.con (.int (4)))] (.nm 2) [.asg (.tp [(.nm 3), (.nm 4)]) (.calli 35 1 [(.con (.int (3)))]),
    .ife (.or (.not (.calli 41 1 [(.calli 36 1 [(.bin .add (.con (.int (1))) (.calli 32 1 [(.con (.int (9)))]))])])) (.not (.calli 42 1 [(.var 3), (.var 4)]))) [.ret (.con (.bl false))] [],
    .ife (.not (.calli 44 1 [])) [.ret (.con (.bl false))] []],
    .ret (.con (.bl true))]
def fds : List FD := [f_is_int, f_is_within, f_is_ints, f_check_within, f_check_place, f_is_one, f_parts_of, f_has_form, f_is_plan, f_check_plan, f_runs_of, f_word_of, f_size_of, f_is_order, f_check_order, f_code_of, f_code, f_is_code, f_order_by_code, f_from_code, f_behind_less, f_ahead_greater, f_code_at, f_greater_ahead, f_greatest_in, f_greatest_code, f_orders_many, f_order_number, f_numbered_order, f_turned_in, f_turned_pairs, f__law_hand, f__law_draw, f__law_any, f__law_laid, f__law_plan, f__law_order, f__law_code, f__law_number, f__law_is_code, f__law_bent, f__law_order_right, f__law_plan_right, f__law_word, f__law_refused_right, f_law]

def sub : Nat → Nat → Bool := fun a b => [(1, 1), (1, 0), (2, 2), (2, 1), (2, 0), (3, 3), (3, 1), (3, 0), (4, 4), (4, 1), (4, 0), (5, 5), (5, 1), (5, 0), (6, 6), (6, 1), (6, 0)].contains (a, b)
def X : Tx := ⟨fds, sub⟩
@[simp] theorem at_is_int : X.fs[0]? = some f_is_int := rfl
@[simp] theorem io_is_int (k : Nat) : (th X k).io 0 = false := rfl
@[simp] theorem at_is_within : X.fs[1]? = some f_is_within := rfl
@[simp] theorem io_is_within (k : Nat) : (th X k).io 1 = false := rfl
@[simp] theorem at_is_ints : X.fs[2]? = some f_is_ints := rfl
@[simp] theorem io_is_ints (k : Nat) : (th X k).io 2 = false := rfl
@[simp] theorem at_check_within : X.fs[3]? = some f_check_within := rfl
@[simp] theorem io_check_within (k : Nat) : (th X k).io 3 = false := rfl
@[simp] theorem at_check_place : X.fs[4]? = some f_check_place := rfl
@[simp] theorem io_check_place (k : Nat) : (th X k).io 4 = false := rfl
@[simp] theorem at_is_one : X.fs[5]? = some f_is_one := rfl
@[simp] theorem io_is_one (k : Nat) : (th X k).io 5 = false := rfl
@[simp] theorem at_parts_of : X.fs[6]? = some f_parts_of := rfl
@[simp] theorem io_parts_of (k : Nat) : (th X k).io 6 = false := rfl
@[simp] theorem at_has_form : X.fs[7]? = some f_has_form := rfl
@[simp] theorem io_has_form (k : Nat) : (th X k).io 7 = false := rfl
@[simp] theorem at_is_plan : X.fs[8]? = some f_is_plan := rfl
@[simp] theorem io_is_plan (k : Nat) : (th X k).io 8 = false := rfl
@[simp] theorem at_check_plan : X.fs[9]? = some f_check_plan := rfl
@[simp] theorem io_check_plan (k : Nat) : (th X k).io 9 = false := rfl
@[simp] theorem at_runs_of : X.fs[10]? = some f_runs_of := rfl
@[simp] theorem io_runs_of (k : Nat) : (th X k).io 10 = false := rfl
@[simp] theorem at_word_of : X.fs[11]? = some f_word_of := rfl
@[simp] theorem io_word_of (k : Nat) : (th X k).io 11 = false := rfl
@[simp] theorem at_size_of : X.fs[12]? = some f_size_of := rfl
@[simp] theorem io_size_of (k : Nat) : (th X k).io 12 = false := rfl
@[simp] theorem at_is_order : X.fs[13]? = some f_is_order := rfl
@[simp] theorem io_is_order (k : Nat) : (th X k).io 13 = false := rfl
@[simp] theorem at_check_order : X.fs[14]? = some f_check_order := rfl
@[simp] theorem io_check_order (k : Nat) : (th X k).io 14 = false := rfl
@[simp] theorem at_code_of : X.fs[15]? = some f_code_of := rfl
@[simp] theorem io_code_of (k : Nat) : (th X k).io 15 = false := rfl
@[simp] theorem at_code : X.fs[16]? = some f_code := rfl
@[simp] theorem io_code (k : Nat) : (th X k).io 16 = false := rfl
@[simp] theorem at_is_code : X.fs[17]? = some f_is_code := rfl
@[simp] theorem io_is_code (k : Nat) : (th X k).io 17 = false := rfl
@[simp] theorem at_order_by_code : X.fs[18]? = some f_order_by_code := rfl
@[simp] theorem io_order_by_code (k : Nat) : (th X k).io 18 = false := rfl
@[simp] theorem at_from_code : X.fs[19]? = some f_from_code := rfl
@[simp] theorem io_from_code (k : Nat) : (th X k).io 19 = false := rfl
@[simp] theorem at_behind_less : X.fs[20]? = some f_behind_less := rfl
@[simp] theorem io_behind_less (k : Nat) : (th X k).io 20 = false := rfl
@[simp] theorem at_ahead_greater : X.fs[21]? = some f_ahead_greater := rfl
@[simp] theorem io_ahead_greater (k : Nat) : (th X k).io 21 = false := rfl
@[simp] theorem at_code_at : X.fs[22]? = some f_code_at := rfl
@[simp] theorem io_code_at (k : Nat) : (th X k).io 22 = false := rfl
@[simp] theorem at_greater_ahead : X.fs[23]? = some f_greater_ahead := rfl
@[simp] theorem io_greater_ahead (k : Nat) : (th X k).io 23 = false := rfl
@[simp] theorem at_greatest_in : X.fs[24]? = some f_greatest_in := rfl
@[simp] theorem io_greatest_in (k : Nat) : (th X k).io 24 = false := rfl
@[simp] theorem at_greatest_code : X.fs[25]? = some f_greatest_code := rfl
@[simp] theorem io_greatest_code (k : Nat) : (th X k).io 25 = false := rfl
@[simp] theorem at_orders_many : X.fs[26]? = some f_orders_many := rfl
@[simp] theorem io_orders_many (k : Nat) : (th X k).io 26 = false := rfl
@[simp] theorem at_order_number : X.fs[27]? = some f_order_number := rfl
@[simp] theorem io_order_number (k : Nat) : (th X k).io 27 = false := rfl
@[simp] theorem at_numbered_order : X.fs[28]? = some f_numbered_order := rfl
@[simp] theorem io_numbered_order (k : Nat) : (th X k).io 28 = false := rfl
@[simp] theorem at_turned_in : X.fs[29]? = some f_turned_in := rfl
@[simp] theorem io_turned_in (k : Nat) : (th X k).io 29 = false := rfl
@[simp] theorem at_turned_pairs : X.fs[30]? = some f_turned_pairs := rfl
@[simp] theorem io_turned_pairs (k : Nat) : (th X k).io 30 = false := rfl
@[simp] theorem at__law_hand : X.fs[31]? = some f__law_hand := rfl
@[simp] theorem io__law_hand (k : Nat) : (th X k).io 31 = false := rfl
@[simp] theorem at__law_draw : X.fs[32]? = some f__law_draw := rfl
@[simp] theorem io__law_draw (k : Nat) : (th X k).io 32 = true := rfl
@[simp] theorem at__law_any : X.fs[33]? = some f__law_any := rfl
@[simp] theorem io__law_any (k : Nat) : (th X k).io 33 = true := rfl
@[simp] theorem at__law_laid : X.fs[34]? = some f__law_laid := rfl
@[simp] theorem io__law_laid (k : Nat) : (th X k).io 34 = false := rfl
@[simp] theorem at__law_plan : X.fs[35]? = some f__law_plan := rfl
@[simp] theorem io__law_plan (k : Nat) : (th X k).io 35 = true := rfl
@[simp] theorem at__law_order : X.fs[36]? = some f__law_order := rfl
@[simp] theorem io__law_order (k : Nat) : (th X k).io 36 = true := rfl
@[simp] theorem at__law_code : X.fs[37]? = some f__law_code := rfl
@[simp] theorem io__law_code (k : Nat) : (th X k).io 37 = false := rfl
@[simp] theorem at__law_number : X.fs[38]? = some f__law_number := rfl
@[simp] theorem io__law_number (k : Nat) : (th X k).io 38 = false := rfl
@[simp] theorem at__law_is_code : X.fs[39]? = some f__law_is_code := rfl
@[simp] theorem io__law_is_code (k : Nat) : (th X k).io 39 = false := rfl
@[simp] theorem at__law_bent : X.fs[40]? = some f__law_bent := rfl
@[simp] theorem io__law_bent (k : Nat) : (th X k).io 40 = true := rfl
@[simp] theorem at__law_order_right : X.fs[41]? = some f__law_order_right := rfl
@[simp] theorem io__law_order_right (k : Nat) : (th X k).io 41 = true := rfl
@[simp] theorem at__law_plan_right : X.fs[42]? = some f__law_plan_right := rfl
@[simp] theorem io__law_plan_right (k : Nat) : (th X k).io 42 = true := rfl
@[simp] theorem at__law_word : X.fs[43]? = some f__law_word := rfl
@[simp] theorem io__law_word (k : Nat) : (th X k).io 43 = false := rfl
@[simp] theorem at__law_refused_right : X.fs[44]? = some f__law_refused_right := rfl
@[simp] theorem io__law_refused_right (k : Nat) : (th X k).io 44 = true := rfl
@[simp] theorem at_law : X.fs[45]? = some f_law := rfl
@[simp] theorem io_law (k : Nat) : (th X k).io 45 = false := rfl
@[simp] theorem cr_is_int (k : Nat) (rs : List R) (ρ : Env) : callR (th X k) 0 rs ρ = calL X k 0 (looks ρ rs) (brs rs) ρ := callR_th rfl
@[simp] theorem cr_is_within (k : Nat) (rs : List R) (ρ : Env) : callR (th X k) 1 rs ρ = calL X k 1 (looks ρ rs) (brs rs) ρ := callR_th rfl
@[simp] theorem cr_is_ints (k : Nat) (rs : List R) (ρ : Env) : callR (th X k) 2 rs ρ = calL X k 2 (looks ρ rs) (brs rs) ρ := callR_th rfl
@[simp] theorem cr_check_within (k : Nat) (rs : List R) (ρ : Env) : callR (th X k) 3 rs ρ = calL X k 3 (looks ρ rs) (brs rs) ρ := callR_th rfl
@[simp] theorem cr_check_place (k : Nat) (rs : List R) (ρ : Env) : callR (th X k) 4 rs ρ = calL X k 4 (looks ρ rs) (brs rs) ρ := callR_th rfl
@[simp] theorem cr_is_one (k : Nat) (rs : List R) (ρ : Env) : callR (th X k) 5 rs ρ = calL X k 5 (looks ρ rs) (brs rs) ρ := callR_th rfl
@[simp] theorem cr_parts_of (k : Nat) (rs : List R) (ρ : Env) : callR (th X k) 6 rs ρ = calL X k 6 (looks ρ rs) (brs rs) ρ := callR_th rfl
@[simp] theorem cr_has_form (k : Nat) (rs : List R) (ρ : Env) : callR (th X k) 7 rs ρ = calL X k 7 (looks ρ rs) (brs rs) ρ := callR_th rfl
@[simp] theorem cr_is_plan (k : Nat) (rs : List R) (ρ : Env) : callR (th X k) 8 rs ρ = calL X k 8 (looks ρ rs) (brs rs) ρ := callR_th rfl
@[simp] theorem cr_check_plan (k : Nat) (rs : List R) (ρ : Env) : callR (th X k) 9 rs ρ = calL X k 9 (looks ρ rs) (brs rs) ρ := callR_th rfl
@[simp] theorem cr_runs_of (k : Nat) (rs : List R) (ρ : Env) : callR (th X k) 10 rs ρ = calL X k 10 (looks ρ rs) (brs rs) ρ := callR_th rfl
@[simp] theorem cr_word_of (k : Nat) (rs : List R) (ρ : Env) : callR (th X k) 11 rs ρ = calL X k 11 (looks ρ rs) (brs rs) ρ := callR_th rfl
@[simp] theorem cr_size_of (k : Nat) (rs : List R) (ρ : Env) : callR (th X k) 12 rs ρ = calL X k 12 (looks ρ rs) (brs rs) ρ := callR_th rfl
@[simp] theorem cr_is_order (k : Nat) (rs : List R) (ρ : Env) : callR (th X k) 13 rs ρ = calL X k 13 (looks ρ rs) (brs rs) ρ := callR_th rfl
@[simp] theorem cr_check_order (k : Nat) (rs : List R) (ρ : Env) : callR (th X k) 14 rs ρ = calL X k 14 (looks ρ rs) (brs rs) ρ := callR_th rfl
@[simp] theorem cr_code_of (k : Nat) (rs : List R) (ρ : Env) : callR (th X k) 15 rs ρ = calL X k 15 (looks ρ rs) (brs rs) ρ := callR_th rfl
@[simp] theorem cr_code (k : Nat) (rs : List R) (ρ : Env) : callR (th X k) 16 rs ρ = calL X k 16 (looks ρ rs) (brs rs) ρ := callR_th rfl
@[simp] theorem cr_is_code (k : Nat) (rs : List R) (ρ : Env) : callR (th X k) 17 rs ρ = calL X k 17 (looks ρ rs) (brs rs) ρ := callR_th rfl
@[simp] theorem cr_order_by_code (k : Nat) (rs : List R) (ρ : Env) : callR (th X k) 18 rs ρ = calL X k 18 (looks ρ rs) (brs rs) ρ := callR_th rfl
@[simp] theorem cr_from_code (k : Nat) (rs : List R) (ρ : Env) : callR (th X k) 19 rs ρ = calL X k 19 (looks ρ rs) (brs rs) ρ := callR_th rfl
@[simp] theorem cr_behind_less (k : Nat) (rs : List R) (ρ : Env) : callR (th X k) 20 rs ρ = calL X k 20 (looks ρ rs) (brs rs) ρ := callR_th rfl
@[simp] theorem cr_ahead_greater (k : Nat) (rs : List R) (ρ : Env) : callR (th X k) 21 rs ρ = calL X k 21 (looks ρ rs) (brs rs) ρ := callR_th rfl
@[simp] theorem cr_code_at (k : Nat) (rs : List R) (ρ : Env) : callR (th X k) 22 rs ρ = calL X k 22 (looks ρ rs) (brs rs) ρ := callR_th rfl
@[simp] theorem cr_greater_ahead (k : Nat) (rs : List R) (ρ : Env) : callR (th X k) 23 rs ρ = calL X k 23 (looks ρ rs) (brs rs) ρ := callR_th rfl
@[simp] theorem cr_greatest_in (k : Nat) (rs : List R) (ρ : Env) : callR (th X k) 24 rs ρ = calL X k 24 (looks ρ rs) (brs rs) ρ := callR_th rfl
@[simp] theorem cr_greatest_code (k : Nat) (rs : List R) (ρ : Env) : callR (th X k) 25 rs ρ = calL X k 25 (looks ρ rs) (brs rs) ρ := callR_th rfl
@[simp] theorem cr_orders_many (k : Nat) (rs : List R) (ρ : Env) : callR (th X k) 26 rs ρ = calL X k 26 (looks ρ rs) (brs rs) ρ := callR_th rfl
@[simp] theorem cr_order_number (k : Nat) (rs : List R) (ρ : Env) : callR (th X k) 27 rs ρ = calL X k 27 (looks ρ rs) (brs rs) ρ := callR_th rfl
@[simp] theorem cr_numbered_order (k : Nat) (rs : List R) (ρ : Env) : callR (th X k) 28 rs ρ = calL X k 28 (looks ρ rs) (brs rs) ρ := callR_th rfl
@[simp] theorem cr_turned_in (k : Nat) (rs : List R) (ρ : Env) : callR (th X k) 29 rs ρ = calL X k 29 (looks ρ rs) (brs rs) ρ := callR_th rfl
@[simp] theorem cr_turned_pairs (k : Nat) (rs : List R) (ρ : Env) : callR (th X k) 30 rs ρ = calL X k 30 (looks ρ rs) (brs rs) ρ := callR_th rfl
@[simp] theorem cr__law_hand (k : Nat) (rs : List R) (ρ : Env) : callR (th X k) 31 rs ρ = calL X k 31 (looks ρ rs) (brs rs) ρ := callR_th rfl
@[simp] theorem ci__law_draw (k i : Nat) (rs : List R) (ρ : Env) : calliR (th X k) 32 i rs ρ = calI X k 32 i (looks ρ rs) (frzAll (brs rs) ρ) (slotL i ρ) ρ := calliR_th rfl
@[simp] theorem ci__law_any (k i : Nat) (rs : List R) (ρ : Env) : calliR (th X k) 33 i rs ρ = calI X k 33 i (looks ρ rs) (frzAll (brs rs) ρ) (slotL i ρ) ρ := calliR_th rfl
@[simp] theorem cr__law_laid (k : Nat) (rs : List R) (ρ : Env) : callR (th X k) 34 rs ρ = calL X k 34 (looks ρ rs) (brs rs) ρ := callR_th rfl
@[simp] theorem ci__law_plan (k i : Nat) (rs : List R) (ρ : Env) : calliR (th X k) 35 i rs ρ = calI X k 35 i (looks ρ rs) (frzAll (brs rs) ρ) (slotL i ρ) ρ := calliR_th rfl
@[simp] theorem ci__law_order (k i : Nat) (rs : List R) (ρ : Env) : calliR (th X k) 36 i rs ρ = calI X k 36 i (looks ρ rs) (frzAll (brs rs) ρ) (slotL i ρ) ρ := calliR_th rfl
@[simp] theorem cr__law_code (k : Nat) (rs : List R) (ρ : Env) : callR (th X k) 37 rs ρ = calL X k 37 (looks ρ rs) (brs rs) ρ := callR_th rfl
@[simp] theorem cr__law_number (k : Nat) (rs : List R) (ρ : Env) : callR (th X k) 38 rs ρ = calL X k 38 (looks ρ rs) (brs rs) ρ := callR_th rfl
@[simp] theorem cr__law_is_code (k : Nat) (rs : List R) (ρ : Env) : callR (th X k) 39 rs ρ = calL X k 39 (looks ρ rs) (brs rs) ρ := callR_th rfl
@[simp] theorem ci__law_bent (k i : Nat) (rs : List R) (ρ : Env) : calliR (th X k) 40 i rs ρ = calI X k 40 i (looks ρ rs) (frzAll (brs rs) ρ) (slotL i ρ) ρ := calliR_th rfl
@[simp] theorem ci__law_order_right (k i : Nat) (rs : List R) (ρ : Env) : calliR (th X k) 41 i rs ρ = calI X k 41 i (looks ρ rs) (frzAll (brs rs) ρ) (slotL i ρ) ρ := calliR_th rfl
@[simp] theorem ci__law_plan_right (k i : Nat) (rs : List R) (ρ : Env) : calliR (th X k) 42 i rs ρ = calI X k 42 i (looks ρ rs) (frzAll (brs rs) ρ) (slotL i ρ) ρ := calliR_th rfl
@[simp] theorem cr__law_word (k : Nat) (rs : List R) (ρ : Env) : callR (th X k) 43 rs ρ = calL X k 43 (looks ρ rs) (brs rs) ρ := callR_th rfl
@[simp] theorem ci__law_refused_right (k i : Nat) (rs : List R) (ρ : Env) : calliR (th X k) 44 i rs ρ = calI X k 44 i (looks ρ rs) (frzAll (brs rs) ρ) (slotL i ρ) ρ := calliR_th rfl
@[simp] theorem cr_law (k : Nat) (rs : List R) (ρ : Env) : callR (th X k) 45 rs ρ = calL X k 45 (looks ρ rs) (brs rs) ρ := callR_th rfl
end VL.K30
end
section
/-! M06: orders as rows of numbers: what is counted in them, and how two are laid together. -/
namespace M06
abbrev L := List Int
def b1 (p : Prop) [Decidable p] : Int := if p then 1 else 0
/-- shifted -/
def sh (c : Int) (l : L) : L := l.map (c + ·)
@[simp] theorem sh_len (c : Int) (l : L) : (sh c l).length = l.length := by simp [sh]
@[simp] theorem sh_nil (c : Int) : sh c [] = [] := rfl
@[simp] theorem sh_cons (c x : Int) (l : L) : sh c (x :: l) = (c + x) :: sh c l := rfl
theorem sh_append (c : Int) (a b : L) : sh c (a ++ b) = sh c a ++ sh c b := by simp [sh]
theorem sh_sh (c d : Int) (a : L) : sh c (sh d a) = sh (c + d) a := by
  induction a with
  | nil => rfl
  | cons x a ih => simp [ih, Int.add_assoc]
theorem sh_zero (a : L) : sh 0 a = a := by
  induction a with
  | nil => rfl
  | cons x a ih => simp [ih]
/-- values of a row of n: 0 .. n - 1 -/
def Rg (l : L) : Prop := ∀ x ∈ l, 0 ≤ x ∧ x < l.length
/-- two rows, laid together -/
def comb (dn : Bool) (A B : L) : L := if dn then sh B.length A ++ B else A ++ sh A.length B
theorem comb_len (dn : Bool) (A B : L) : (comb dn A B).length = A.length + B.length := by
  cases dn <;> simp [comb]
theorem comb_rg {dn : Bool} {A B : L} (hA : Rg A) (hB : Rg B) : Rg (comb dn A B) := by
  intro x hx
  rw [comb_len]
  cases dn with
  | true =>
    rcases List.mem_append.mp (show x ∈ sh B.length A ++ B from hx) with h | h
    · obtain ⟨y, hy, rfl⟩ := List.mem_map.mp h
      have := hA y hy
      omega
    · have := hB x h
      omega
  | false =>
    rcases List.mem_append.mp (show x ∈ A ++ sh A.length B from hx) with h | h
    · have := hA x h
      omega
    · obtain ⟨y, hy, rfl⟩ := List.mem_map.mp h
      have := hB y hy
      omega
/-! ### pairs that fall -/
/-- how many of l lie below x -/
def below (x : Int) : L → Int
  | [] => 0
  | y :: l => b1 (y < x) + below x l
def inv : L → Int
  | [] => 0
  | x :: l => below x l + inv l
def cross : L → L → Int
  | [], _ => 0
  | x :: a, b => below x b + cross a b
theorem below_append (x : Int) (a b : L) : below x (a ++ b) = below x a + below x b := by
  induction a with
  | nil => simp [below]
  | cons y a ih => simp [below, ih]; omega
theorem inv_append (a b : L) : inv (a ++ b) = inv a + cross a b + inv b := by
  induction a with
  | nil => simp [inv, cross]
  | cons x a ih => simp [inv, cross, below_append, ih]; omega
theorem below_sh (c x : Int) (l : L) : below (c + x) (sh c l) = below x l := by
  induction l with
  | nil => rfl
  | cons y l ih =>
    simp only [sh_cons, below, ih]
    have : b1 (c + y < c + x) = b1 (y < x) := by
      unfold b1
      by_cases h : y < x
      · rw [if_pos h, if_pos (by omega)]
      · rw [if_neg h, if_neg (by omega)]
    rw [this]
theorem inv_sh (c : Int) (l : L) : inv (sh c l) = inv l := by
  induction l with
  | nil => rfl
  | cons x l ih => simp [inv, below_sh, ih]
theorem below_all {x : Int} {l : L} (h : ∀ y ∈ l, y < x) : below x l = l.length := by
  induction l with
  | nil => rfl
  | cons y l ih =>
    rw [below, ih fun z hz => h z (List.mem_cons_of_mem _ hz)]
    have := h y List.mem_cons_self
    simp [b1, this]
    omega
theorem below_none {x : Int} {l : L} (h : ∀ y ∈ l, x ≤ y) : below x l = 0 := by
  induction l with
  | nil => rfl
  | cons y l ih =>
    rw [below, ih fun z hz => h z (List.mem_cons_of_mem _ hz)]
    have := h y List.mem_cons_self
    simp [b1]
    omega
theorem cross_all {a b : L} (h : ∀ x ∈ a, ∀ y ∈ b, y < x) : cross a b = a.length * b.length := by
  induction a with
  | nil => simp [cross]
  | cons x a ih =>
    rw [cross, ih fun z hz => h z (List.mem_cons_of_mem _ hz), below_all (h x List.mem_cons_self)]
    simp only [List.length_cons]
    rw [Int.natCast_add, Int.add_mul]
    omega
theorem cross_none {a b : L} (h : ∀ x ∈ a, ∀ y ∈ b, x ≤ y) : cross a b = 0 := by
  induction a with
  | nil => rfl
  | cons x a ih => rw [cross, ih fun z hz => h z (List.mem_cons_of_mem _ hz), below_none (h x List.mem_cons_self)]; rfl
theorem inv_comb {dn : Bool} {A B : L} (hA : Rg A) (hB : Rg B) : inv (comb dn A B) = inv A + inv B + if dn then (A.length : Int) * B.length else 0 := by
  cases dn with
  | true =>
    show inv (sh B.length A ++ B) = _
    rw [inv_append, inv_sh, cross_all, sh_len]
    · simp only [if_true]; omega
    · intro x hx y hy
      obtain ⟨z, hz, rfl⟩ := List.mem_map.mp hx
      have := hA z hz
      have := hB y hy
      omega
  | false =>
    show inv (A ++ sh A.length B) = _
    rw [inv_append, inv_sh, cross_none]
    · simp
    · intro x hx y hy
      obtain ⟨z, hz, rfl⟩ := List.mem_map.mp hy
      have := hA x hx
      have := hB z hz
      omega
/-! ### steps -/
/-- a sum over neighbours -/
def adj (g : Int → Int → Int) : L → Int
  | x :: y :: l => g x y + adj g (y :: l)
  | _ => 0
def hd : L → Int
  | x :: _ => x
  | [] => 0
def la : L → Int
  | [] => 0
  | [x] => x
  | _ :: y :: l => la (y :: l)
theorem adj_append (g : Int → Int → Int) : ∀ {a b : L}, a ≠ [] → b ≠ [] → adj g (a ++ b) = adj g a + g (la a) (hd b) + adj g b
  | [x], y :: b, _, _ => by simp [adj, la, hd]
  | x :: x' :: a, b, _, hb => by
    have ih := adj_append g (a := x' :: a) (b := b) (by simp) hb
    simp only [List.cons_append] at ih ⊢
    simp only [adj, la, ih]
    omega
  | [], _, h, _ => absurd rfl h
  | _, [], _, h => absurd rfl h
theorem hd_append {a b : L} (h : a ≠ []) : hd (a ++ b) = hd a := by
  cases a with
  | nil => exact absurd rfl h
  | cons x a => rfl
theorem la_append : ∀ {a b : L}, b ≠ [] → la (a ++ b) = la b
  | [], _, _ => rfl
  | [x], y :: b, _ => rfl
  | x :: x' :: a, b, h => by
    have ih := la_append (a := x' :: a) (b := b) h
    simp only [List.cons_append] at ih ⊢
    simpa [la] using ih
  | _, [], h => absurd rfl h
theorem hd_sh {c : Int} {a : L} (h : a ≠ []) : hd (sh c a) = c + hd a := by
  cases a with
  | nil => exact absurd rfl h
  | cons x a => rfl
theorem la_sh {c : Int} : ∀ {a : L}, a ≠ [] → la (sh c a) = c + la a
  | [x], _ => rfl
  | x :: y :: a, _ => by
    have ih := la_sh (c := c) (a := y :: a) (by simp)
    simpa [la] using ih
  | [], h => absurd rfl h
theorem adj_sh {g : Int → Int → Int} (c : Int) (hg : ∀ x y, g (c + x) (c + y) = g x y) : ∀ a : L, adj g (sh c a) = adj g a
  | [] => rfl
  | [_] => rfl
  | x :: y :: a => by
    have ih := adj_sh c hg (y :: a)
    simp only [sh_cons] at ih ⊢
    simp [adj, hg, ih]
theorem hd_mem : ∀ {a : L}, a ≠ [] → hd a ∈ a
  | x :: a, _ => List.mem_cons_self
  | [], h => absurd rfl h
theorem la_mem : ∀ {a : L}, a ≠ [] → la a ∈ a
  | [x], _ => List.mem_cons_self
  | x :: y :: a, _ => List.mem_cons_of_mem _ (la_mem (a := y :: a) (by simp))
  | [], h => absurd rfl h
theorem sh_ne {c : Int} {a : L} (h : a ≠ []) : sh c a ≠ [] := by
  cases a with
  | nil => exact absurd rfl h
  | cons x a => simp
theorem comb_ne {dn : Bool} {A B : L} (h : A ≠ []) : comb dn A B ≠ [] := by
  cases dn <;> simp [comb, sh_ne h, h]
/-- a sum over neighbours that hangs on their difference alone -/
theorem adj_comb {g : Int → Int → Int} (hg : ∀ c x y, g (c + x) (c + y) = g x y) {dn : Bool} {A B : L} (hA : A ≠ []) (hB : B ≠ []) :
    adj g (comb dn A B) = adj g A + (if dn then g (B.length + la A) (hd B) else g (la A) (A.length + hd B)) + adj g B := by
  cases dn with
  | true =>
    show adj g (sh B.length A ++ B) = _
    rw [adj_append g (sh_ne hA) hB, adj_sh _ (hg _), la_sh hA]
    simp
  | false =>
    show adj g (A ++ sh A.length B) = _
    rw [adj_append g hA (sh_ne hB), adj_sh _ (hg _), hd_sh hB]
    simp
theorem hd_comb {dn : Bool} {A B : L} (hA : A ≠ []) : hd (comb dn A B) = (if dn then (B.length : Int) else 0) + hd A := by
  cases dn with
  | true => show hd (sh B.length A ++ B) = _; rw [hd_append (sh_ne hA), hd_sh hA]; simp
  | false => show hd (A ++ sh A.length B) = _; rw [hd_append hA]; simp
theorem la_comb {dn : Bool} {A B : L} (hB : B ≠ []) : la (comb dn A B) = (if dn then (0 : Int) else A.length) + la B := by
  cases dn with
  | true => show la (sh B.length A ++ B) = _; rw [la_append hB]; simp
  | false => show la (A ++ sh A.length B) = _; rw [la_append (sh_ne hB), la_sh hB]; simp
def gD (x y : Int) : Int := b1 (y < x)
def gN (x y : Int) : Int := b1 (y - x = 1 ∨ x - y = 1)
abbrev desc : L → Int := adj gD
abbrev near : L → Int := adj gN
theorem gD_sh (c x y : Int) : gD (c + x) (c + y) = gD x y := by
  unfold gD b1
  by_cases h : y < x
  · rw [if_pos h, if_pos (by omega)]
  · rw [if_neg h, if_neg (by omega)]
theorem gN_sh (c x y : Int) : gN (c + x) (c + y) = gN x y := by
  unfold gN b1
  by_cases h : y - x = 1 ∨ x - y = 1
  · rw [if_pos h, if_pos (by omega)]
  · rw [if_neg h, if_neg (by omega)]
theorem desc_comb {dn : Bool} {A B : L} (rA : Rg A) (rB : Rg B) (hA : A ≠ []) (hB : B ≠ []) : desc (comb dn A B) = desc A + desc B + if dn then 1 else 0 := by
  have h1 := rA _ (la_mem hA)
  have h2 := rB _ (hd_mem hB)
  show adj gD (comb dn A B) = adj gD A + adj gD B + _
  rw [adj_comb gD_sh hA hB]
  cases dn with
  | true =>
    have : gD (B.length + la A) (hd B) = 1 := by unfold gD b1; rw [if_pos (by omega)]
    simp [this]; omega
  | false =>
    have : gD (la A) (A.length + hd B) = 0 := by unfold gD b1; rw [if_neg (by omega)]
    simp [this]
/-- places of the falls, summed: the first place is k -/
def dsum (k : Int) : L → Int
  | x :: y :: l => (if y < x then k else 0) + dsum (k + 1) (y :: l)
  | _ => 0
theorem dsum_k (k : Int) : ∀ l : L, dsum k l = dsum 0 l + k * desc l
  | [] => by simp [dsum, adj]
  | [_] => by simp [dsum, adj]
  | x :: y :: l => by
    have h1 : dsum (k + 1) (y :: l) = dsum 0 (y :: l) + (k + 1) * adj gD (y :: l) := dsum_k (k + 1) (y :: l)
    have h2 : dsum 1 (y :: l) = dsum 0 (y :: l) + 1 * adj gD (y :: l) := dsum_k 1 (y :: l)
    simp only [dsum, adj, gD, b1]
    rw [Int.zero_add, h1, h2]
    by_cases h : y < x
    · simp only [if_pos h, Int.mul_add, Int.add_mul]; omega
    · simp only [if_neg h, Int.mul_add, Int.add_mul]; omega
theorem dsum_append (k : Int) : ∀ {a b : L}, a ≠ [] → b ≠ [] → dsum k (a ++ b) = dsum k a + (if hd b < la a then k + a.length - 1 else 0) + dsum (k + a.length) b
  | [x], y :: b, _, _ => by
    simp only [List.cons_append, List.nil_append, dsum, la, hd, List.length_cons, List.length_nil]
    have e : k + ((0 + 1 : Nat) : Int) - 1 = k := by omega
    have e2 : k + ((0 + 1 : Nat) : Int) = k + 1 := by omega
    rw [e, e2]
    omega
  | x :: x' :: a, b, _, hb => by
    have ih := dsum_append (k + 1) (a := x' :: a) (b := b) (by simp) hb
    simp only [List.cons_append] at ih ⊢
    simp only [dsum, la, ih, List.length_cons]
    have e : k + 1 + ((a.length + 1 : Nat) : Int) = k + ((a.length + 1 + 1 : Nat) : Int) := by omega
    rw [e]
    omega
  | [], _, h, _ => absurd rfl h
  | _, [], _, h => absurd rfl h
theorem dsum_sh (c : Int) : ∀ (k : Int) (a : L), dsum k (sh c a) = dsum k a
  | _, [] => rfl
  | _, [_] => rfl
  | k, x :: y :: a => by
    have ih := dsum_sh c (k + 1) (y :: a)
    simp only [sh_cons] at ih ⊢
    simp only [dsum, ih]
    by_cases h : y < x
    · rw [if_pos h, if_pos (by omega)]
    · rw [if_neg h, if_neg (by omega)]
theorem dsum_comb {dn : Bool} {A B : L} (rA : Rg A) (rB : Rg B) (hA : A ≠ []) (hB : B ≠ []) : dsum 1 (comb dn A B) = dsum 1 A + dsum 1 B + A.length * desc B + if dn then (A.length : Int) else 0 := by
  have h1 := rA _ (la_mem hA)
  have h2 := rB _ (hd_mem hB)
  have e := dsum_k (1 + A.length) B
  have e2 := dsum_k 1 B
  cases dn with
  | true =>
    show dsum 1 (sh B.length A ++ B) = _
    rw [dsum_append 1 (sh_ne hA) hB, dsum_sh, la_sh hA, sh_len, if_pos (by omega), e, e2, Int.add_mul]
    simp
    omega
  | false =>
    show dsum 1 (A ++ sh A.length B) = _
    rw [dsum_append 1 hA (sh_ne hB), dsum_sh, hd_sh hB, if_neg (by omega), e, e2, Int.add_mul]
    simp
    omega
end M06
end
section
/-! M06b: neighbours, turns, the longest zigzag. -/
namespace M06
theorem near_comb {dn : Bool} {A B : L} (rA : Rg A) (rB : Rg B) (hA : A ≠ []) (hB : B ≠ []) : near (comb dn A B) = near A + near B + b1 (if dn then la A + B.length - hd B = 1 else A.length - la A + hd B = 1) := by
  have h1 := rA _ (la_mem hA)
  have h2 := rB _ (hd_mem hB)
  show adj gN (comb dn A B) = adj gN A + adj gN B + _
  rw [adj_comb gN_sh hA hB]
  cases dn with
  | true =>
    have : gN (B.length + la A) (hd B) = b1 (la A + B.length - hd B = 1) := by
      unfold gN b1
      by_cases h : la A + B.length - hd B = 1
      · rw [if_pos h, if_pos (by omega)]
      · rw [if_neg h, if_neg (by omega)]
    simp [this]; omega
  | false =>
    have : gN (la A) (A.length + hd B) = b1 (A.length - la A + hd B = 1) := by
      unfold gN b1
      by_cases h : A.length - la A + hd B = 1
      · rw [if_pos h, if_pos (by omega)]
      · rw [if_neg h, if_neg (by omega)]
    simp [this]; omega
/-! ### turns -/
def dr (x y : Int) : Int := if x < y then 1 else -1
def dirs : L → L
  | x :: y :: l => dr x y :: dirs (y :: l)
  | _ => []
theorem dr_sh (c x y : Int) : dr (c + x) (c + y) = dr x y := by
  unfold dr
  by_cases h : x < y
  · rw [if_pos h, if_pos (by omega)]
  · rw [if_neg h, if_neg (by omega)]
theorem dirs_append : ∀ {a b : L}, a ≠ [] → b ≠ [] → dirs (a ++ b) = dirs a ++ dr (la a) (hd b) :: dirs b
  | [x], y :: b, _, _ => rfl
  | x :: x' :: a, b, _, hb => by
    have ih := dirs_append (a := x' :: a) (b := b) (by simp) hb
    simp only [List.cons_append] at ih ⊢
    simp [dirs, la, ih]
  | [], _, h, _ => absurd rfl h
  | _, [], _, h => absurd rfl h
theorem dirs_sh (c : Int) : ∀ a : L, dirs (sh c a) = dirs a
  | [] => rfl
  | [_] => rfl
  | x :: y :: a => by
    have ih := dirs_sh c (y :: a)
    simp only [sh_cons] at ih ⊢
    simp [dirs, dr_sh, ih]
def way (dn : Bool) : Int := if dn then -1 else 1
theorem dirs_comb {dn : Bool} {A B : L} (rA : Rg A) (rB : Rg B) (hA : A ≠ []) (hB : B ≠ []) : dirs (comb dn A B) = dirs A ++ way dn :: dirs B := by
  have h1 := rA _ (la_mem hA)
  have h2 := rB _ (hd_mem hB)
  cases dn with
  | true =>
    show dirs (sh B.length A ++ B) = _
    rw [dirs_append (sh_ne hA) hB, dirs_sh, la_sh hA]
    have : dr (B.length + la A) (hd B) = way true := by unfold dr; rw [if_neg (by omega)]; rfl
    rw [this]
  | false =>
    show dirs (A ++ sh A.length B) = _
    rw [dirs_append hA (sh_ne hB), dirs_sh, hd_sh hB]
    have : dr (la A) (A.length + hd B) = way false := by unfold dr; rw [if_pos (by omega)]; rfl
    rw [this]
def gP (a b : Int) : Int := b1 (a = 1 ∧ b = -1)
def gV (a b : Int) : Int := b1 (a = -1 ∧ b = 1)
def pk (l : L) : Int := adj gP (dirs l)
def vl (l : L) : Int := adj gV (dirs l)
def fdr (l : L) : Int := hd (dirs l)
def ldr (l : L) : Int := la (dirs l)
theorem hd_nil : hd [] = 0 := rfl
theorem la_nil : la [] = 0 := rfl
/-- counted over a, w, b -/
theorem adj_mid (g : Int → Int → Int) (h0 : ∀ x, g 0 x = 0) (h1 : ∀ x, g x 0 = 0) (a b : L) (w : Int) : adj g (a ++ w :: b) = adj g a + adj g b + g (la a) w + g w (hd b) := by
  have e1 : adj g (w :: b) = g w (hd b) + adj g b := by
    cases b with
    | nil => simp [adj, hd, h1]
    | cons y b => rfl
  by_cases ha : a = []
  · subst ha
    simp only [List.nil_append, e1, adj, la, h0]
    omega
  · rw [adj_append g ha (by simp), e1]
    simp only [hd]
    omega
theorem gP0 (x : Int) : gP 0 x = 0 := by unfold gP b1; rw [if_neg (by omega)]
theorem gP1 (x : Int) : gP x 0 = 0 := by unfold gP b1; rw [if_neg (by omega)]
theorem gV0 (x : Int) : gV 0 x = 0 := by unfold gV b1; rw [if_neg (by omega)]
theorem gV1 (x : Int) : gV x 0 = 0 := by unfold gV b1; rw [if_neg (by omega)]
theorem pk_comb {dn : Bool} {A B : L} (rA : Rg A) (rB : Rg B) (hA : A ≠ []) (hB : B ≠ []) : pk (comb dn A B) = pk A + pk B + b1 (ldr A = 1 ∧ way dn = -1) + b1 (way dn = 1 ∧ fdr B = -1) := by
  unfold pk
  rw [dirs_comb rA rB hA hB, adj_mid gP gP0 gP1]
  rfl
theorem vl_comb {dn : Bool} {A B : L} (rA : Rg A) (rB : Rg B) (hA : A ≠ []) (hB : B ≠ []) : vl (comb dn A B) = vl A + vl B + b1 (ldr A = -1 ∧ way dn = 1) + b1 (way dn = -1 ∧ fdr B = 1) := by
  unfold vl
  rw [dirs_comb rA rB hA hB, adj_mid gV gV0 gV1]
  rfl
theorem dirs_pm : ∀ (l : L), ∀ x ∈ dirs l, x = 1 ∨ x = -1
  | [], x, h => by cases h
  | [_], x, h => by cases h
  | a :: b :: l, x, h => by
    rcases List.mem_cons.mp (show x ∈ dr a b :: dirs (b :: l) from h) with h | h
    · subst h
      unfold dr
      split <;> simp
    · exact dirs_pm (b :: l) x h
theorem fdr_comb {dn : Bool} {A B : L} (rA : Rg A) (rB : Rg B) (hA : A ≠ []) (hB : B ≠ []) : fdr (comb dn A B) = if fdr A ≠ 0 then fdr A else way dn := by
  unfold fdr
  rw [dirs_comb rA rB hA hB]
  cases e : dirs A with
  | nil => simp [hd]
  | cons x a =>
    have := dirs_pm A x (by rw [e]; exact List.mem_cons_self)
    have hx : hd (x :: a) ≠ 0 := by show x ≠ 0; omega
    rw [if_pos hx]
    rfl
theorem ldr_comb {dn : Bool} {A B : L} (rA : Rg A) (rB : Rg B) (hA : A ≠ []) (hB : B ≠ []) : ldr (comb dn A B) = if ldr B ≠ 0 then ldr B else way dn := by
  unfold ldr
  rw [dirs_comb rA rB hA hB, la_append (by simp)]
  cases e : dirs B with
  | nil => simp [la]
  | cons x b =>
    have hm := la_mem (a := dirs B) (by rw [e]; simp)
    have hp := dirs_pm B _ hm
    rw [e] at hp
    have hx : la (x :: b) ≠ 0 := by omega
    rw [if_pos hx]
    rfl
/-- no two alike side by side -/
def AD : L → Prop
  | x :: y :: l => x ≠ y ∧ AD (y :: l)
  | _ => True
theorem ad_append : ∀ {a b : L}, a ≠ [] → b ≠ [] → AD a → AD b → la a ≠ hd b → AD (a ++ b)
  | [x], y :: b, _, _, _, h2, h => ⟨h, h2⟩
  | x :: x' :: a, b, _, hb, h1, h2, h => by
    have ih := ad_append (a := x' :: a) (b := b) (by simp) hb h1.2 h2 h
    exact ⟨h1.1, ih⟩
  | [], _, h, _, _, _, _ => absurd rfl h
  | _, [], _, h, _, _, _ => absurd rfl h
theorem ad_sh (c : Int) : ∀ {a : L}, AD a → AD (sh c a)
  | [], _ => trivial
  | [_], _ => trivial
  | x :: y :: a, h => ⟨fun (e : c + x = c + y) => h.1 (by omega), ad_sh c h.2⟩
theorem ad_comb {dn : Bool} {A B : L} (rA : Rg A) (rB : Rg B) (hA : A ≠ []) (hB : B ≠ []) (dA : AD A) (dB : AD B) : AD (comb dn A B) := by
  have h1 := rA _ (la_mem hA)
  have h2 := rB _ (hd_mem hB)
  cases dn with
  | true => exact ad_append (sh_ne hA) hB (ad_sh _ dA) dB (by rw [la_sh hA]; omega)
  | false => exact ad_append hA (sh_ne hB) dA (ad_sh _ dB) (by rw [hd_sh hB]; omega)
/-- tops, as the law counts them -/
def tk : L → Int
  | x :: y :: z :: l => b1 (x ≤ y ∧ z ≤ y) + tk (y :: z :: l)
  | _ => 0
def tv : L → Int
  | x :: y :: z :: l => b1 (y ≤ x ∧ y ≤ z) + tv (y :: z :: l)
  | _ => 0
theorem tk_eq : ∀ {l : L}, AD l → tk l = pk l
  | [], _ => rfl
  | [_], _ => rfl
  | [_, _], _ => rfl
  | x :: y :: z :: l, h => by
    have ih := tk_eq h.2
    have h1 := h.1
    have h2 := h.2.1
    unfold pk at ih ⊢
    simp only [tk, dirs, adj, ih] at ih ⊢
    have : b1 (x ≤ y ∧ z ≤ y) = gP (dr x y) (dr y z) := by
      unfold gP b1 dr
      by_cases a : x < y
      · by_cases b : y < z
        · rw [if_neg (by omega), if_pos a, if_pos b, if_neg (by omega)]
        · rw [if_pos (by omega), if_pos a, if_neg b, if_pos (by omega)]
      · rw [if_neg (by omega), if_neg a, if_neg (by omega)]
    rw [this]
theorem tv_eq : ∀ {l : L}, AD l → tv l = vl l
  | [], _ => rfl
  | [_], _ => rfl
  | [_, _], _ => rfl
  | x :: y :: z :: l, h => by
    have ih := tv_eq h.2
    have h1 := h.1
    have h2 := h.2.1
    unfold vl at ih ⊢
    simp only [tv, dirs, adj, ih] at ih ⊢
    have : b1 (y ≤ x ∧ y ≤ z) = gV (dr x y) (dr y z) := by
      unfold gV b1 dr
      by_cases a : x < y
      · rw [if_neg (by omega), if_pos a, if_neg (by omega)]
      · by_cases b : y < z
        · rw [if_pos (by omega), if_neg a, if_pos b, if_pos (by omega)]
        · rw [if_neg (by omega), if_neg a, if_neg b, if_neg (by omega)]
    rw [this]
/-! ### the longest zigzag -/
/-- the greatest of 0 and l -/
def mx : L → Int
  | [] => 0
  | x :: l => max x (mx l)
theorem mx_le {l : L} {m : Int} (h0 : 0 ≤ m) (h : ∀ x ∈ l, x ≤ m) : mx l ≤ m := by
  induction l with
  | nil => exact h0
  | cons x l ih =>
    have := h x List.mem_cons_self
    have := ih fun y hy => h y (List.mem_cons_of_mem _ hy)
    simp only [mx]
    omega
theorem le_mx {l : L} {x : Int} (h : x ∈ l) : x ≤ mx l := by
  induction l with
  | nil => cases h
  | cons y l ih =>
    simp only [mx]
    rcases List.mem_cons.mp h with rfl | h
    · omega
    · have := ih h
      omega
/-- a value, the longest zigzags that end there by a rise, by a fall -/
abbrev Z := Int × Int × Int
def zU (st : List Z) (v : Int) : Int := 1 + mx ((st.filter fun t => decide (t.1 < v)).map (·.2.2))
def zD (st : List Z) (v : Int) : Int := 1 + mx ((st.filter fun t => decide (v < t.1)).map (·.2.1))
def zst (st : List Z) (v : Int) : List Z := st ++ [(v, zU st v, zD st v)]
/-- how it stands behind a rise -/
structure Up (st : List Z) (v c : Int) : Prop where
  u : ∀ t ∈ st, t.2.1 ≤ c
  d : ∀ t ∈ st, t.2.2 ≤ c - 1
  hi : ∀ t ∈ st, v < t.1 → t.2.1 ≤ c - 2
  las : ∃ t ∈ st, t.1 = v ∧ t.2.1 = c
  ex : ∃ t ∈ st, t.1 < v ∧ t.2.2 = c - 1
  two : 2 ≤ c
structure Dn (st : List Z) (v c : Int) : Prop where
  d : ∀ t ∈ st, t.2.2 ≤ c
  u : ∀ t ∈ st, t.2.1 ≤ c - 1
  lo : ∀ t ∈ st, t.1 < v → t.2.2 ≤ c - 2
  las : ∃ t ∈ st, t.1 = v ∧ t.2.2 = c
  ex : ∃ t ∈ st, v < t.1 ∧ t.2.1 = c - 1
  two : 2 ≤ c
theorem zU_le {st : List Z} {v m : Int} (h0 : 1 ≤ m) (h : ∀ t ∈ st, t.1 < v → t.2.2 ≤ m - 1) : zU st v ≤ m := by
  have := mx_le (l := (st.filter fun t => decide (t.1 < v)).map (·.2.2)) (m := m - 1) (by omega) (by
    intro x hx
    obtain ⟨t, ht, rfl⟩ := List.mem_map.mp hx
    obtain ⟨h1, h2⟩ := List.mem_filter.mp ht
    exact h t h1 (by simpa using h2))
  unfold zU
  omega
theorem zD_le {st : List Z} {v m : Int} (h0 : 1 ≤ m) (h : ∀ t ∈ st, v < t.1 → t.2.1 ≤ m - 1) : zD st v ≤ m := by
  have := mx_le (l := (st.filter fun t => decide (v < t.1)).map (·.2.1)) (m := m - 1) (by omega) (by
    intro x hx
    obtain ⟨t, ht, rfl⟩ := List.mem_map.mp hx
    obtain ⟨h1, h2⟩ := List.mem_filter.mp ht
    exact h t h1 (by simpa using h2))
  unfold zD
  omega
theorem le_zU {st : List Z} {v : Int} {t : Z} (ht : t ∈ st) (h : t.1 < v) : t.2.2 + 1 ≤ zU st v := by
  have := le_mx (l := (st.filter fun t => decide (t.1 < v)).map (·.2.2)) (x := t.2.2) (List.mem_map.mpr ⟨t, List.mem_filter.mpr ⟨ht, by simpa using h⟩, rfl⟩)
  unfold zU
  omega
theorem le_zD {st : List Z} {v : Int} {t : Z} (ht : t ∈ st) (h : v < t.1) : t.2.1 + 1 ≤ zD st v := by
  have := le_mx (l := (st.filter fun t => decide (v < t.1)).map (·.2.1)) (x := t.2.1) (List.mem_map.mpr ⟨t, List.mem_filter.mpr ⟨ht, by simpa using h⟩, rfl⟩)
  unfold zD
  omega
theorem mem_zst {st : List Z} {v : Int} {t : Z} (h : t ∈ zst st v) : t ∈ st ∨ t = (v, zU st v, zD st v) := by
  rcases List.mem_append.mp h with h | h
  · exact .inl h
  · exact .inr (List.mem_singleton.mp h)
theorem in_zst {st : List Z} {v : Int} {t : Z} (h : t ∈ st) : t ∈ zst st v := List.mem_append_left _ h
theorem new_zst {st : List Z} {v : Int} : (v, zU st v, zD st v) ∈ zst st v := List.mem_append_right _ List.mem_cons_self
theorem up_up {st : List Z} {v c z : Int} (h : Up st v c) (hz : v < z) : Up (zst st z) z c := by
  have two := h.two
  have hu : zU st z = c := by
    obtain ⟨t, ht, h1, h2⟩ := h.ex
    have a := le_zU (v := z) ht (by omega)
    have b := zU_le (st := st) (v := z) (m := c) (by omega) fun t ht _ => h.d t ht
    omega
  have hd : zD st z ≤ c - 1 := zD_le (by omega) fun t ht hv => by
    have := h.hi t ht (by omega)
    omega
  refine ⟨fun t ht => ?_, fun t ht => ?_, fun t ht hv => ?_, ⟨_, new_zst, rfl, hu⟩, ?_, two⟩
  · rcases mem_zst ht with q | q
    · exact h.u t q
    · subst q; show zU st z ≤ c; omega
  · rcases mem_zst ht with q | q
    · exact h.d t q
    · subst q; exact hd
  · rcases mem_zst ht with q | q
    · exact h.hi t q (by omega)
    · subst q; exact absurd hv (by show ¬ z < z; omega)
  · obtain ⟨t, ht, h1, h2⟩ := h.ex
    exact ⟨t, in_zst ht, by omega, h2⟩
theorem up_dn {st : List Z} {v c z : Int} (h : Up st v c) (hz : z < v) : Dn (zst st z) z (c + 1) := by
  have two := h.two
  have hd : zD st z = c + 1 := by
    obtain ⟨t, ht, h1, h2⟩ := h.las
    have a := le_zD (v := z) ht (by omega)
    have b := zD_le (st := st) (v := z) (m := c + 1) (by omega) fun t ht _ => by have := h.u t ht; omega
    omega
  have hu : zU st z ≤ c := zU_le (by omega) fun t ht _ => h.d t ht
  refine ⟨fun t ht => ?_, fun t ht => ?_, fun t ht hv => ?_, ⟨_, new_zst, rfl, hd⟩, ?_, by omega⟩
  · rcases mem_zst ht with q | q
    · have := h.d t q; omega
    · subst q; show zD st z ≤ _; omega
  · rcases mem_zst ht with q | q
    · have := h.u t q; omega
    · subst q; show zU st z ≤ _; omega
  · rcases mem_zst ht with q | q
    · have := h.d t q; omega
    · subst q; exact absurd hv (by show ¬ z < z; omega)
  · obtain ⟨t, ht, h1, h2⟩ := h.las
    exact ⟨t, in_zst ht, by omega, by omega⟩
theorem dn_dn {st : List Z} {v c z : Int} (h : Dn st v c) (hz : z < v) : Dn (zst st z) z c := by
  have two := h.two
  have hd : zD st z = c := by
    obtain ⟨t, ht, h1, h2⟩ := h.ex
    have a := le_zD (v := z) ht (by omega)
    have b := zD_le (st := st) (v := z) (m := c) (by omega) fun t ht _ => h.u t ht
    omega
  have hu : zU st z ≤ c - 1 := zU_le (by omega) fun t ht hv => by
    have := h.lo t ht (by omega)
    omega
  refine ⟨fun t ht => ?_, fun t ht => ?_, fun t ht hv => ?_, ⟨_, new_zst, rfl, hd⟩, ?_, two⟩
  · rcases mem_zst ht with q | q
    · exact h.d t q
    · subst q; show zD st z ≤ _; omega
  · rcases mem_zst ht with q | q
    · exact h.u t q
    · subst q; exact hu
  · rcases mem_zst ht with q | q
    · exact h.lo t q (by omega)
    · subst q; exact absurd hv (by show ¬ z < z; omega)
  · obtain ⟨t, ht, h1, h2⟩ := h.ex
    exact ⟨t, in_zst ht, by omega, h2⟩
theorem dn_up {st : List Z} {v c z : Int} (h : Dn st v c) (hz : v < z) : Up (zst st z) z (c + 1) := by
  have two := h.two
  have hu : zU st z = c + 1 := by
    obtain ⟨t, ht, h1, h2⟩ := h.las
    have a := le_zU (v := z) ht (by omega)
    have b := zU_le (st := st) (v := z) (m := c + 1) (by omega) fun t ht _ => by have := h.d t ht; omega
    omega
  have hd : zD st z ≤ c := zD_le (by omega) fun t ht _ => h.u t ht
  refine ⟨fun t ht => ?_, fun t ht => ?_, fun t ht hv => ?_, ⟨_, new_zst, rfl, hu⟩, ?_, by omega⟩
  · rcases mem_zst ht with q | q
    · have := h.u t q; omega
    · subst q; show zU st z ≤ _; omega
  · rcases mem_zst ht with q | q
    · have := h.d t q; omega
    · subst q; show zD st z ≤ _; omega
  · rcases mem_zst ht with q | q
    · have := h.u t q; omega
    · subst q; exact absurd hv (by show ¬ z < z; omega)
  · obtain ⟨t, ht, h1, h2⟩ := h.las
    exact ⟨t, in_zst ht, by omega, by omega⟩
/-- through the rest of a row -/
theorem zz_rest : ∀ (l : L) (st : List Z) (v c : Int), AD (v :: l) →
    (Up st v c → let st' := l.foldl zst st; let c' := c + adj gP (1 :: dirs (v :: l)) + adj gV (1 :: dirs (v :: l)); ∃ w, Up st' w c' ∨ Dn st' w c') ∧
    (Dn st v c → let st' := l.foldl zst st; let c' := c + adj gP (-1 :: dirs (v :: l)) + adj gV (-1 :: dirs (v :: l)); ∃ w, Up st' w c' ∨ Dn st' w c')
  | [], st, v, c, _ => ⟨fun h => ⟨v, .inl (by simpa [dirs, adj] using h)⟩, fun h => ⟨v, .inr (by simpa [dirs, adj] using h)⟩⟩
  | z :: l, st, v, c, h => by
    have ne := h.1
    by_cases hz : v < z
    · have e : dr v z = 1 := by unfold dr; rw [if_pos hz]
      refine ⟨fun k => ?_, fun k => ?_⟩
      · have ih := (zz_rest l (zst st z) z c h.2).1 (up_up k hz)
        have e1 : gP 1 1 = 0 := by decide
        have e2 : gV 1 1 = 0 := by decide
        simp only [List.foldl_cons, dirs, e, adj, e1, e2, Int.zero_add]
        exact ih
      · have ih := (zz_rest l (zst st z) z (c + 1) h.2).1 (dn_up k hz)
        have e1 : gP (-1) 1 = 0 := by decide
        have e2 : gV (-1) 1 = 1 := by decide
        simp only [List.foldl_cons, dirs, e, adj, e1, e2, Int.zero_add]
        have e3 : c + adj gP (1 :: dirs (z :: l)) + (1 + adj gV (1 :: dirs (z :: l))) = c + 1 + adj gP (1 :: dirs (z :: l)) + adj gV (1 :: dirs (z :: l)) := by omega
        rw [e3]
        exact ih
    · have hz : z < v := by omega
      have e : dr v z = -1 := by unfold dr; rw [if_neg (by omega)]
      refine ⟨fun k => ?_, fun k => ?_⟩
      · have ih := (zz_rest l (zst st z) z (c + 1) h.2).2 (up_dn k hz)
        have e1 : gP 1 (-1) = 1 := by decide
        have e2 : gV 1 (-1) = 0 := by decide
        simp only [List.foldl_cons, dirs, e, adj, e1, e2, Int.zero_add]
        have e3 : c + (1 + adj gP (-1 :: dirs (z :: l))) + adj gV (-1 :: dirs (z :: l)) = c + 1 + adj gP (-1 :: dirs (z :: l)) + adj gV (-1 :: dirs (z :: l)) := by omega
        rw [e3]
        exact ih
      · have ih := (zz_rest l (zst st z) z c h.2).2 (dn_dn k hz)
        have e1 : gP (-1) (-1) = 0 := by decide
        have e2 : gV (-1) (-1) = 0 := by decide
        simp only [List.foldl_cons, dirs, e, adj, e1, e2, Int.zero_add]
        exact ih
/-- the greatest in the states -/
def zmax (st : List Z) : Int := mx (st.map (·.2.1) ++ st.map (·.2.2))
theorem zmax_up {st : List Z} {v c : Int} (h : Up st v c ∨ Dn st v c) : zmax st = c := by
  unfold zmax
  have le : mx (st.map (·.2.1) ++ st.map (·.2.2)) ≤ c := by
    refine mx_le ?_ fun x hx => ?_
    · rcases h with h | h <;> have := h.two <;> omega
    · rcases List.mem_append.mp hx with hx | hx
      · obtain ⟨t, ht, rfl⟩ := List.mem_map.mp hx
        rcases h with h | h
        · exact h.u t ht
        · have := h.u t ht; omega
      · obtain ⟨t, ht, rfl⟩ := List.mem_map.mp hx
        rcases h with h | h
        · have := h.d t ht; omega
        · exact h.d t ht
  have ge : c ≤ mx (st.map (·.2.1) ++ st.map (·.2.2)) := by
    rcases h with h | h
    · obtain ⟨t, ht, _, e⟩ := h.las
      rw [← e]
      exact le_mx (List.mem_append_left _ (List.mem_map.mpr ⟨t, ht, rfl⟩))
    · obtain ⟨t, ht, _, e⟩ := h.las
      rw [← e]
      exact le_mx (List.mem_append_right _ (List.mem_map.mpr ⟨t, ht, rfl⟩))
  omega
theorem zz_main {x y : Int} {l : L} (h : AD (x :: y :: l)) : zmax ((x :: y :: l).foldl zst []) = pk (x :: y :: l) + vl (x :: y :: l) + 2 := by
  have ne := h.1
  have s1 : zst [] x = [(x, 1, 1)] := by simp [zst, zU, zD, mx]
  have key : ∃ w, let c' := 2 + adj gP (dirs (x :: y :: l)) + adj gV (dirs (x :: y :: l)); Up (l.foldl zst (zst (zst [] x) y)) w c' ∨ Dn (l.foldl zst (zst (zst [] x) y)) w c' := by
    rw [s1]
    by_cases hz : x < y
    · have s2 : zst [(x, 1, 1)] y = [(x, 1, 1), (y, 2, 1)] := by
        have : ¬ y < x := by omega
        simp [zst, zU, zD, mx, hz, this]
        rfl
      have e : dr x y = 1 := by unfold dr; rw [if_pos hz]
      have up : Up [(x, 1, 1), (y, 2, 1)] y 2 := by
        refine ⟨fun t ht => ?_, fun t ht => ?_, fun t ht hv => ?_, ⟨(y, 2, 1), by simp, rfl, rfl⟩, ⟨(x, 1, 1), by simp, hz, rfl⟩, by omega⟩ <;>
          (simp only [List.mem_cons, List.not_mem_nil, or_false] at ht; rcases ht with rfl | rfl <;> simp at * <;> omega)
      rw [s2]
      simp only [dirs, e]
      exact (zz_rest l _ y 2 h.2).1 up
    · have hz : y < x := by omega
      have s2 : zst [(x, 1, 1)] y = [(x, 1, 1), (y, 1, 2)] := by
        have : ¬ x < y := by omega
        simp [zst, zU, zD, mx, hz, this]
        rfl
      have e : dr x y = -1 := by unfold dr; rw [if_neg (by omega)]
      have dn : Dn [(x, 1, 1), (y, 1, 2)] y 2 := by
        refine ⟨fun t ht => ?_, fun t ht => ?_, fun t ht hv => ?_, ⟨(y, 1, 2), by simp, rfl, rfl⟩, ⟨(x, 1, 1), by simp, hz, rfl⟩, by omega⟩ <;>
          (simp only [List.mem_cons, List.not_mem_nil, or_false] at ht; rcases ht with rfl | rfl <;> simp at * <;> omega)
      rw [s2]
      simp only [dirs, e]
      exact (zz_rest l _ y 2 h.2).2 dn
  obtain ⟨w, hw⟩ := key
  rw [List.foldl_cons, List.foldl_cons, zmax_up hw]
  unfold pk vl
  omega
end M06
end
section
/-! M06c: plans, what the program counts in them, and their orders. -/
namespace M06
mutual
/-- one; or runs laid together: cp: written as copies, dn: downwards -/
inductive P where
  | one
  | nd (cp dn : Bool) (rs : Rn)
inductive Rn where
  | nil
  | cons (n : Nat) (p : P) (r : Rn)
end
/-- n copies of B laid behind acc -/
def addN (dn : Bool) (B : L) : Nat → L → L
  | 0, acc => acc
  | n + 1, acc => addN dn B n (comb dn acc B)
def tri : Nat → Int
  | 0 => 0
  | n + 1 => tri n + n
theorem tri_eq (n : Nat) : (n : Int) * (n - 1) = 2 * tri n := by
  induction n with
  | zero => rfl
  | succ n ih =>
    simp only [tri]
    grind
theorem tri_div (n : Nat) : (n : Int) * (n - 1) / 2 = tri n := by
  rw [tri_eq]
  omega
theorem tri_div' (n : Nat) : (n : Int) * (n + 1) / 2 = tri n + n := by
  have := tri_eq n
  have h : (n : Int) * (n + 1) = 2 * (tri n + n) := by grind
  rw [h]
  omega
mutual
def P.size : P → Int
  | .one => 1
  | .nd _ _ rs => rs.size
def Rn.size : Rn → Int
  | .nil => 0
  | .cons n p r => n * p.size + r.size
end
mutual
def P.ord : P → L
  | .one => [0]
  | .nd _ dn rs => rs.ord dn []
def Rn.ord (dn : Bool) : Rn → L → L
  | .nil, acc => acc
  | .cons n p r, acc => r.ord dn (addN dn p.ord n acc)
end
mutual
def P.tI : P → Int
  | .one => 0
  | .nd _ dn rs => rs.tI dn 0 0
def Rn.tI (dn : Bool) : Rn → Int → Int → Int
  | .nil, found, _ => found
  | .cons n p r, found, ahead => r.tI dn (found + n * p.tI + if dn then ahead * n * p.size + p.size * p.size * tri n else 0) (ahead + n * p.size)
end
def Rn.cnt : Rn → Int
  | .nil => 0
  | .cons n _ r => n + r.cnt
mutual
def P.fI : P → Int
  | .one => 0
  | .nd _ dn rs => rs.fI + if dn then rs.cnt - 1 else 0
def Rn.fI : Rn → Int
  | .nil => 0
  | .cons n p r => n * p.fI + r.fI
end
mutual
def P.sI : P → Int
  | .one => 0
  | .nd _ dn rs => (rs.sI dn 0 0) - if dn then rs.size else 0
def Rn.sI (dn : Bool) : Rn → Int → Int → Int
  | .nil, found, _ => found
  | .cons n p r, found, ahead => r.sI dn (found + (n * p.sI + p.fI * (n * ahead + p.size * tri n)) + if dn then n * ahead + p.size * (tri n + n) else 0) (ahead + n * p.size)
end
mutual
/-- first, last, size -/
def P.eI : P → Int × Int × Int
  | .one => (0, 0, 1)
  | .nd _ dn rs => let whole := rs.size
    let f := rs.e1
    let l := rs.e2
    if dn then (whole - f.2.2 + f.1, l.2.1, whole) else (f.1, whole - l.2.2 + l.2.1, whole)
def Rn.e1 : Rn → Int × Int × Int
  | .nil => (0, 0, 0)
  | .cons _ p _ => p.eI
def Rn.e2 : Rn → Int × Int × Int
  | .nil => (0, 0, 0)
  | .cons _ p .nil => p.eI
  | .cons _ _ (.cons m q r) => (Rn.cons m q r).e2
end
def isCl (dn : Bool) (a b : Int × Int × Int) : Int := b1 (if dn then a.2.1 + b.2.2 - b.1 = 1 else a.2.2 - a.2.1 + b.1 = 1)
mutual
def P.cI : P → Int
  | .one => 0
  | .nd _ dn rs => rs.cI dn 0 none
def Rn.cI (dn : Bool) : Rn → Int → Option (Int × Int × Int) → Int
  | .nil, found, _ => found
  | .cons n p r, found, before => r.cI dn (found + n * p.cI + (match before with | some b => isCl dn b p.eI | none => 0) + if isCl dn p.eI p.eI = 1 then (n : Int) - 1 else 0) (some p.eI)
end
abbrev U := Int × Int × Int × Int
def met (a b : U) (w : Int) : U := (a.1 + b.1 + b1 (a.2.2.2 = 1 ∧ w = -1) + b1 (w = 1 ∧ b.2.2.1 = -1), a.2.1 + b.2.1 + b1 (a.2.2.2 = -1 ∧ w = 1) + b1 (w = -1 ∧ b.2.2.1 = 1), if a.2.2.1 ≠ 0 then a.2.2.1 else w, if b.2.2.2 ≠ 0 then b.2.2.2 else w)
def metN (a b : U) (w : Int) (n : Nat) : U :=
  let f := met a b w
  if n = 1 then f else
    let m := met f b w
    (f.1 + ((n : Int) - 1) * (m.1 - f.1), f.2.1 + ((n : Int) - 1) * (m.2.1 - f.2.1), f.2.2.1, m.2.2.2)
mutual
def P.uI : P → U
  | .one => (0, 0, 0, 0)
  | .nd _ dn rs => (rs.uI dn none).getD (0, 0, 0, 0)
def Rn.uI (dn : Bool) : Rn → Option U → Option U
  | .nil, w => w
  | .cons n p r, w =>
    let w1 := match w with | some a => met a p.uI (way dn) | none => p.uI
    r.uI dn (some (if 1 < n then metN w1 p.uI (way dn) (n - 1) else w1))
end
mutual
def P.ok : P → Prop
  | .one => True
  | .nd _ _ rs => rs ≠ .nil ∧ rs.ok
def Rn.ok : Rn → Prop
  | .nil => True
  | .cons n p r => 1 ≤ n ∧ p.ok ∧ r.ok
end
/-- an order is as the program says of its plan -/
structure G (p : P) : Prop where
  ne : p.ord ≠ []
  rg : Rg p.ord
  ad : AD p.ord
  size : p.size = p.ord.length
  t : p.tI = inv p.ord
  f : p.fI = desc p.ord
  s : p.sI = dsum 1 p.ord
  e : p.eI = (hd p.ord, la p.ord, (p.ord.length : Int))
  c : p.cI = near p.ord
  u : p.uI = (pk p.ord, vl p.ord, fdr p.ord, ldr p.ord)
def Rn.G : Rn → Prop
  | .nil => True
  | .cons n p r => 1 ≤ n ∧ M06.G p ∧ r.G
theorem comb_nil (dn : Bool) (B : L) : comb dn [] B = B := by
  cases dn with
  | true => rfl
  | false => show [] ++ sh 0 B = B; rw [sh_zero]; rfl
structure Ky (acc : L) : Prop where
  rg : Rg acc
  ad : AD acc
theorem ky_comb {dn : Bool} {acc B : L} (k : Ky acc) (hB : B ≠ []) (rB : Rg B) (dB : AD B) : Ky (comb dn acc B) := by
  by_cases h : acc = []
  · subst h
    rw [comb_nil]
    exact ⟨rB, dB⟩
  · exact ⟨comb_rg k.rg rB, ad_comb k.rg rB h hB k.ad dB⟩
theorem ky_addN {dn : Bool} {B : L} (hB : B ≠ []) (rB : Rg B) (dB : AD B) : ∀ (n : Nat) {acc : L}, Ky acc → Ky (addN dn B n acc)
  | 0, _, k => k
  | n + 1, _, k => ky_addN hB rB dB n (ky_comb k hB rB dB)
theorem addN_len {dn : Bool} {B : L} : ∀ (n : Nat) (acc : L), ((addN dn B n acc).length : Int) = acc.length + n * B.length
  | 0, acc => by simp [addN]
  | n + 1, acc => by
    rw [addN, addN_len n, comb_len]
    grind
theorem addN_inv {dn : Bool} {B : L} (hB : B ≠ []) (rB : Rg B) (dB : AD B) : ∀ (n : Nat) {acc : L}, Ky acc → inv (addN dn B n acc) = inv acc + n * inv B + if dn then acc.length * n * B.length + B.length * B.length * tri n else 0
  | 0, acc, k => by simp [addN, tri]
  | n + 1, acc, k => by
    rw [addN, addN_inv hB rB dB n (ky_comb k hB rB dB), inv_comb k.rg rB, comb_len]
    cases dn with
    | true => simp only [if_true, tri]; grind
    | false => simp; grind
/-- with the fall behind it -/
def descT (dn : Bool) (acc : L) : Int := desc acc + if dn = true ∧ acc ≠ [] then 1 else 0
theorem descT_comb {dn : Bool} {acc B : L} (k : Ky acc) (hB : B ≠ []) (rB : Rg B) : descT dn (comb dn acc B) = descT dn acc + desc B + if dn then 1 else 0 := by
  unfold descT
  by_cases h : acc = []
  · subst h
    rw [comb_nil]
    cases dn <;> simp [hB, adj]
  · rw [desc_comb k.rg rB h hB]
    have := comb_ne (dn := dn) (B := B) h
    cases dn <;> simp [h, this] <;> omega
theorem addN_desc {dn : Bool} {B : L} (hB : B ≠ []) (rB : Rg B) (dB : AD B) : ∀ (n : Nat) {acc : L}, Ky acc → descT dn (addN dn B n acc) = descT dn acc + n * desc B + if dn then (n : Int) else 0
  | 0, acc, k => by simp [addN]
  | n + 1, acc, k => by
    rw [addN, addN_desc hB rB dB n (ky_comb k hB rB dB), descT_comb k hB rB]
    cases dn <;> simp <;> grind
def dsumT (dn : Bool) (acc : L) : Int := dsum 1 acc + if dn then (acc.length : Int) else 0
theorem dsumT_comb {dn : Bool} {acc B : L} (k : Ky acc) (hB : B ≠ []) (rB : Rg B) : dsumT dn (comb dn acc B) = dsumT dn acc + dsum 1 B + acc.length * desc B + if dn then (acc.length : Int) + B.length else 0 := by
  unfold dsumT
  rw [comb_len]
  by_cases h : acc = []
  · subst h
    rw [comb_nil]
    cases dn <;> simp [dsum]
  · rw [dsum_comb k.rg rB h hB]
    cases dn <;> simp <;> omega
theorem addN_dsum {dn : Bool} {B : L} (hB : B ≠ []) (rB : Rg B) (dB : AD B) : ∀ (n : Nat) {acc : L}, Ky acc → dsumT dn (addN dn B n acc) = dsumT dn acc + (n * dsum 1 B + desc B * (n * acc.length + B.length * tri n)) + if dn then n * acc.length + B.length * (tri n + n) else 0
  | 0, acc, k => by simp [addN, tri]
  | n + 1, acc, k => by
    rw [addN, addN_dsum hB rB dB n (ky_comb k hB rB dB), dsumT_comb k hB rB, comb_len]
    cases dn with
    | true => simp only [if_true, tri]; grind
    | false => simp [tri]; grind
end M06
end
section
/-! M06d: every plan counts what stands in its order. -/
namespace M06
theorem ky_nil : Ky [] := ⟨fun x hx => (by cases hx), trivial⟩
theorem Rn.ky {dn : Bool} : ∀ {r : Rn} {acc : L}, r.G → Ky acc → Ky (r.ord dn acc)
  | .nil, acc, _, k => by rw [Rn.ord]; exact k
  | .cons n p r, acc, g, k => by
    rw [Rn.ord]
    exact Rn.ky g.2.2 (ky_addN g.2.1.ne g.2.1.rg g.2.1.ad n k)
theorem Rn.len {dn : Bool} : ∀ {r : Rn} {acc : L}, r.G → ((r.ord dn acc).length : Int) = acc.length + r.size
  | .nil, acc, _ => by rw [Rn.ord, Rn.size]; omega
  | .cons n p r, acc, g => by
    rw [Rn.ord, Rn.size, Rn.len g.2.2, addN_len, g.2.1.size]
    omega
theorem Rn.t_eq {dn : Bool} : ∀ {r : Rn} {acc : L}, r.G → Ky acc → r.tI dn (inv acc) acc.length = inv (r.ord dn acc)
  | .nil, acc, _, k => by rw [Rn.ord, Rn.tI]
  | .cons n p r, acc, g, k => by
    have ih := Rn.t_eq (dn := dn) g.2.2 (ky_addN (dn := dn) g.2.1.ne g.2.1.rg g.2.1.ad n k)
    rw [Rn.ord, Rn.tI, ← ih, addN_inv g.2.1.ne g.2.1.rg g.2.1.ad n k, addN_len, g.2.1.size, g.2.1.t]
theorem Rn.f_eq {dn : Bool} : ∀ {r : Rn} {acc : L}, r.G → Ky acc → descT dn (r.ord dn acc) = descT dn acc + r.fI + if dn then r.cnt else 0
  | .nil, acc, _, k => by rw [Rn.ord, Rn.fI, Rn.cnt]; simp
  | .cons n p r, acc, g, k => by
    rw [Rn.ord, Rn.fI, Rn.cnt, Rn.f_eq g.2.2 (ky_addN g.2.1.ne g.2.1.rg g.2.1.ad n k), addN_desc g.2.1.ne g.2.1.rg g.2.1.ad n k, g.2.1.f]
    cases dn <;> simp <;> omega
theorem Rn.s_eq {dn : Bool} : ∀ {r : Rn} {acc : L}, r.G → Ky acc → r.sI dn (dsumT dn acc) acc.length = dsumT dn (r.ord dn acc)
  | .nil, acc, _, k => by rw [Rn.ord, Rn.sI]
  | .cons n p r, acc, g, k => by
    have ih := Rn.s_eq (dn := dn) g.2.2 (ky_addN (dn := dn) g.2.1.ne g.2.1.rg g.2.1.ad n k)
    rw [Rn.ord, Rn.sI, ← ih, addN_dsum g.2.1.ne g.2.1.rg g.2.1.ad n k, addN_len, g.2.1.size, g.2.1.s, g.2.1.f]
theorem addN_ne {dn : Bool} {B : L} : ∀ {n : Nat} {acc : L}, acc ≠ [] → addN dn B n acc ≠ []
  | 0, _, h => h
  | n + 1, _, h => by rw [addN]; exact addN_ne (comb_ne h)
theorem addN_ne1 {dn : Bool} {B : L} (hB : B ≠ []) {n : Nat} {acc : L} (h : 1 ≤ n) : addN dn B n acc ≠ [] := by
  cases n with
  | zero => omega
  | succ n =>
    rw [addN]
    by_cases hc : acc = []
    · subst hc
      rw [comb_nil]
      exact addN_ne hB
    · exact addN_ne (comb_ne hc)
theorem Rn.ne {dn : Bool} : ∀ {r : Rn} {acc : L}, acc ≠ [] → r.ord dn acc ≠ []
  | .nil, acc, h => by rw [Rn.ord]; exact h
  | .cons n p r, acc, h => by rw [Rn.ord]; exact Rn.ne (addN_ne h)
theorem Rn.ne1 {dn : Bool} {r : Rn} {acc : L} (g : r.G) (h : r ≠ .nil) : r.ord dn acc ≠ [] := by
  cases r with
  | nil => exact absurd rfl h
  | cons n p r => rw [Rn.ord]; exact Rn.ne (addN_ne1 g.2.1.ne g.1)
/-! ### ends -/
theorem addN_hd {dn : Bool} {B : L} (hB : B ≠ []) : ∀ {n : Nat} {acc : L}, acc ≠ [] → hd (addN dn B n acc) = hd acc + if dn then (n : Int) * B.length else 0
  | 0, acc, _ => by simp [addN]
  | n + 1, acc, h => by
    rw [addN, addN_hd hB (comb_ne h), hd_comb h]
    cases dn <;> simp <;> grind
theorem addN_la {dn : Bool} {B : L} (hB : B ≠ []) : ∀ {n : Nat} {acc : L}, 1 ≤ n → la (addN dn B n acc) = la B + if dn then 0 else (acc.length : Int) + ((n : Int) - 1) * B.length
  | 0, _, h => by omega
  | 1, acc, _ => by
    rw [addN, addN, la_comb hB]
    cases dn <;> simp <;> omega
  | n + 2, acc, _ => by
    rw [addN, addN_la (n := n + 1) hB (by omega), comb_len]
    cases dn <;> simp <;> grind
theorem Rn.hd_eq {dn : Bool} : ∀ {r : Rn} {acc : L}, r.G → acc ≠ [] → hd (r.ord dn acc) = hd acc + if dn then r.size else 0
  | .nil, acc, _, _ => by rw [Rn.ord, Rn.size]; simp
  | .cons n p r, acc, g, h => by
    rw [Rn.ord, Rn.size, Rn.hd_eq g.2.2 (addN_ne h), addN_hd g.2.1.ne h, g.2.1.size]
    cases dn <;> simp <;> omega
theorem Rn.hd_eq0 {dn : Bool} {r : Rn} (g : r.G) (h : r ≠ .nil) : hd (r.ord dn []) = r.e1.1 + if dn then r.size - r.e1.2.2 else 0 := by
  cases r with
  | nil => exact absurd rfl h
  | cons n p r =>
    obtain ⟨hn, gp, gr⟩ := g
    cases n with
    | zero => omega
    | succ n =>
      rw [Rn.ord, Rn.size, Rn.e1, gp.e, addN, comb_nil, Rn.hd_eq gr (addN_ne gp.ne), addN_hd gp.ne gp.ne, gp.size]
      cases dn <;> simp <;> grind
theorem Rn.la_eq {dn : Bool} : ∀ {r : Rn} {acc : L}, r.G → r ≠ .nil → la (r.ord dn acc) = r.e2.2.1 + if dn then 0 else acc.length + r.size - r.e2.2.2
  | .nil, _, _, h => absurd rfl h
  | .cons n p .nil, acc, g, _ => by
    rw [Rn.ord, Rn.ord, Rn.size, Rn.size, Rn.e2, g.2.1.e, addN_la g.2.1.ne g.1, g.2.1.size]
    cases dn <;> simp <;> grind
  | .cons n p (.cons m q r), acc, g, _ => by
    rw [Rn.ord, Rn.size, Rn.e2, Rn.la_eq (r := .cons m q r) g.2.2 (by simp), addN_len, g.2.1.size]
    cases dn <;> simp <;> omega
/-! ### neighbours -/
/-- acc ends as b does -/
def Bk (dn : Bool) (acc : L) (b : Int × Int × Int) : Prop := if dn then la acc = b.2.1 else (acc.length : Int) - la acc = b.2.2 - b.2.1
abbrev eO (l : L) : Int × Int × Int := (hd l, la l, (l.length : Int))
theorem bk_comb {dn : Bool} {acc B : L} (hB : B ≠ []) : Bk dn (comb dn acc B) (eO B) := by
  unfold Bk eO
  rw [la_comb hB, comb_len]
  cases dn <;> simp <;> omega
theorem bk_addN {dn : Bool} {B : L} (hB : B ≠ []) : ∀ {n : Nat} {acc : L}, 1 ≤ n → Bk dn (addN dn B n acc) (eO B)
  | 0, _, h => by omega
  | 1, acc, _ => bk_comb hB
  | n + 2, acc, _ => bk_addN (n := n + 1) hB (by omega)
theorem near_bk {dn : Bool} {acc B : L} {b : Int × Int × Int} (k : Ky acc) (h : acc ≠ []) (hb : Bk dn acc b) (hB : B ≠ []) (rB : Rg B) : near (comb dn acc B) = near acc + near B + isCl dn b (eO B) := by
  rw [near_comb k.rg rB h hB]
  unfold isCl
  unfold Bk at hb
  congr 1
  cases dn with
  | true =>
    simp only [if_true] at hb ⊢
    rw [hb]
  | false =>
    simp only [Bool.false_eq_true, if_false] at hb ⊢
    rw [hb]
theorem near_addN {dn : Bool} {B : L} (hB : B ≠ []) (rB : Rg B) (dB : AD B) : ∀ {n : Nat} {acc : L} {b : Int × Int × Int}, Ky acc → acc ≠ [] → Bk dn acc b → near (addN dn B (n + 1) acc) = near acc + ((n : Int) + 1) * near B + isCl dn b (eO B) + n * isCl dn (eO B) (eO B)
  | 0, acc, b, k, h, hb => by
    rw [addN, addN, near_bk k h hb hB rB]
    simp
  | n + 1, acc, b, k, h, hb => by
    rw [addN, near_addN hB rB dB (n := n) (ky_comb k hB rB dB) (comb_ne h) (bk_comb hB), near_bk k h hb hB rB]
    grind
theorem near_addN0 {dn : Bool} {B : L} (hB : B ≠ []) (rB : Rg B) (dB : AD B) (n : Nat) : near (addN dn B (n + 1) []) = ((n : Int) + 1) * near B + n * isCl dn (eO B) (eO B) := by
  rw [addN, comb_nil]
  cases n with
  | zero => simp [addN]
  | succ n =>
    rw [near_addN hB rB dB (b := eO B) ⟨rB, dB⟩ hB (by unfold Bk eO; cases dn <;> simp)]
    grind
theorem b1_01 (p : Prop) [Decidable p] : b1 p = 0 ∨ b1 p = 1 := by
  unfold b1
  split
  · exact .inr rfl
  · exact .inl rfl
theorem isCl_01 (dn : Bool) (a b : Int × Int × Int) : isCl dn a b = 0 ∨ isCl dn a b = 1 := b1_01 _
theorem cl_mul (dn : Bool) (a b : Int × Int × Int) (n : Int) : (if isCl dn a b = 1 then n else 0) = n * isCl dn a b := by
  rcases isCl_01 dn a b with h | h <;> simp [h]
theorem Rn.c_eq {dn : Bool} : ∀ {r : Rn} {acc : L} {b : Int × Int × Int}, r.G → Ky acc → acc ≠ [] → Bk dn acc b → r.cI dn (near acc) (some b) = near (r.ord dn acc)
  | .nil, acc, b, _, _, _, _ => by rw [Rn.ord, Rn.cI]
  | .cons n p r, acc, b, g, k, h, hb => by
    obtain ⟨hn, gp, gr⟩ := g
    cases n with
    | zero => omega
    | succ n =>
      have ih := Rn.c_eq (dn := dn) (b := eO p.ord) gr (ky_addN (dn := dn) gp.ne gp.rg gp.ad (n + 1) k) (addN_ne h) (bk_addN gp.ne (by omega))
      rw [Rn.ord, Rn.cI, ← ih, near_addN gp.ne gp.rg gp.ad k h hb, gp.e, gp.c, cl_mul]
      congr 1
      grind
theorem Rn.c_eq0 {dn : Bool} {r : Rn} (g : r.G) (h : r ≠ .nil) : r.cI dn 0 none = near (r.ord dn []) := by
  cases r with
  | nil => exact absurd rfl h
  | cons n p r =>
    obtain ⟨hn, gp, gr⟩ := g
    cases n with
    | zero => omega
    | succ n =>
      have ih := Rn.c_eq (dn := dn) (b := eO p.ord) gr (ky_addN (dn := dn) gp.ne gp.rg gp.ad (n + 1) (acc := []) ky_nil) (addN_ne1 gp.ne (by omega)) (bk_addN gp.ne (by omega))
      rw [Rn.ord, Rn.cI, ← ih, near_addN0 gp.ne gp.rg gp.ad, gp.e, gp.c, cl_mul]
      congr 1
      grind
/-! ### turns -/
abbrev uO (l : L) : U := (pk l, vl l, fdr l, ldr l)
theorem u_comb {dn : Bool} {acc B : L} (k : Ky acc) (h : acc ≠ []) (hB : B ≠ []) (rB : Rg B) : uO (comb dn acc B) = met (uO acc) (uO B) (way dn) := by
  unfold uO met
  rw [pk_comb k.rg rB h hB, vl_comb k.rg rB h hB, fdr_comb k.rg rB h hB, ldr_comb k.rg rB h hB]
theorem way_ne (dn : Bool) : way dn ≠ 0 := by cases dn <;> decide
theorem met_ne {a b : U} {w : Int} (hw : w ≠ 0) : (met a b w).2.2.1 ≠ 0 ∧ (met a b w).2.2.2 ≠ 0 := by
  unfold met
  refine ⟨?_, ?_⟩
  · show (if a.2.2.1 ≠ 0 then a.2.2.1 else w) ≠ 0
    split <;> assumption
  · show (if b.2.2.2 ≠ 0 then b.2.2.2 else w) ≠ 0
    split <;> assumption
/-- once more behind at least one -/
theorem met_more {a b : U} {w : Int} (hw : w ≠ 0) : ∀ n : Nat, met (metN a b w (n + 1)) b w = metN a b w (n + 2) := by
  intro n
  have f3 : ∀ f : U, f.2.2.1 ≠ 0 → (met f b w).2.2.1 = f.2.2.1 := fun f h => by
    show (if f.2.2.1 ≠ 0 then f.2.2.1 else w) = _
    rw [if_pos h]
  have l3 : ∀ f : U, (met f b w).2.2.2 = if b.2.2.2 ≠ 0 then b.2.2.2 else w := fun f => rfl
  have d1 : ∀ f f' : U, f.2.2.2 = f'.2.2.2 → (met f b w).1 - f.1 = (met f' b w).1 - f'.1 := fun f f' e => by
    show f.1 + b.1 + b1 (f.2.2.2 = 1 ∧ w = -1) + b1 (w = 1 ∧ b.2.2.1 = -1) - f.1 = f'.1 + b.1 + b1 (f'.2.2.2 = 1 ∧ w = -1) + b1 (w = 1 ∧ b.2.2.1 = -1) - f'.1
    rw [e]
    omega
  have d2 : ∀ f f' : U, f.2.2.2 = f'.2.2.2 → (met f b w).2.1 - f.2.1 = (met f' b w).2.1 - f'.2.1 := fun f f' e => by
    show f.2.1 + b.2.1 + b1 (f.2.2.2 = -1 ∧ w = 1) + b1 (w = -1 ∧ b.2.2.1 = 1) - f.2.1 = f'.2.1 + b.2.1 + b1 (f'.2.2.2 = -1 ∧ w = 1) + b1 (w = -1 ∧ b.2.2.1 = 1) - f'.2.1
    rw [e]
    omega
  obtain ⟨m3, m4⟩ := met_ne (a := a) (b := b) hw
  have h34 : (metN a b w (n + 1)).2.2.1 = (met a b w).2.2.1 ∧ (metN a b w (n + 1)).2.2.2 = (met a b w).2.2.2 := by
    unfold metN
    by_cases h : n + 1 = 1
    · simp [h]
    · simp only [if_neg h]
      exact ⟨trivial, by rw [l3, l3]⟩
  have e1 := d1 (metN a b w (n + 1)) (met a b w) h34.2
  have e2 := d2 (metN a b w (n + 1)) (met a b w) h34.2
  have e3 := f3 (metN a b w (n + 1)) (by rw [h34.1]; exact m3)
  have e4 := l3 (metN a b w (n + 1))
  have g1 : (metN a b w (n + 1)).1 = (met a b w).1 + (n : Int) * ((met (met a b w) b w).1 - (met a b w).1) := by
    unfold metN
    by_cases h : n + 1 = 1
    · have : n = 0 := by omega
      subst this
      simp
    · simp only [if_neg h]
      have : (((n + 1 : Nat) : Int) - 1) = n := by omega
      rw [this]
  have g2 : (metN a b w (n + 1)).2.1 = (met a b w).2.1 + (n : Int) * ((met (met a b w) b w).2.1 - (met a b w).2.1) := by
    unfold metN
    by_cases h : n + 1 = 1
    · have : n = 0 := by omega
      subst this
      simp
    · simp only [if_neg h]
      have : (((n + 1 : Nat) : Int) - 1) = n := by omega
      rw [this]
  have k : metN a b w (n + 2) = ((met a b w).1 + ((n : Int) + 1) * ((met (met a b w) b w).1 - (met a b w).1), (met a b w).2.1 + ((n : Int) + 1) * ((met (met a b w) b w).2.1 - (met a b w).2.1), (met a b w).2.2.1, (met (met a b w) b w).2.2.2) := by
    unfold metN
    simp only [if_neg (show ¬ n + 2 = 1 by omega)]
    have : (((n + 2 : Nat) : Int) - 1) = (n : Int) + 1 := by omega
    rw [this]
  rw [k]
  refine Prod.ext ?_ (Prod.ext ?_ (Prod.ext ?_ ?_))
  · show (met (metN a b w (n + 1)) b w).1 = (met a b w).1 + ((n : Int) + 1) * _
    grind
  · show (met (metN a b w (n + 1)) b w).2.1 = (met a b w).2.1 + ((n : Int) + 1) * _
    grind
  · rw [e3, h34.1]
  · rw [e4]; rfl
theorem addN_last {dn : Bool} {B : L} : ∀ (n : Nat) (acc : L), addN dn B (n + 1) acc = comb dn (addN dn B n acc) B
  | 0, acc => rfl
  | n + 1, acc => by
    rw [addN, addN_last n, ← addN]
theorem u_addN {dn : Bool} {B : L} (hB : B ≠ []) (rB : Rg B) (dB : AD B) : ∀ {n : Nat} {acc : L}, Ky acc → acc ≠ [] → uO (addN dn B (n + 1) acc) = metN (uO acc) (uO B) (way dn) (n + 1)
  | 0, acc, k, h => by
    rw [addN, addN, u_comb k h hB rB]
    rfl
  | n + 1, acc, k, h => by
    rw [addN_last, u_comb (ky_addN hB rB dB (n + 1) k) (addN_ne h) hB rB, u_addN hB rB dB k h, met_more (way_ne dn)]
theorem Rn.u_eq {dn : Bool} : ∀ {r : Rn} {acc : L}, r.G → Ky acc → acc ≠ [] → r.uI dn (some (uO acc)) = some (uO (r.ord dn acc))
  | .nil, acc, _, _, _ => by rw [Rn.ord, Rn.uI]
  | .cons n p r, acc, g, k, h => by
    obtain ⟨hn, gp, gr⟩ := g
    cases n with
    | zero => omega
    | succ n =>
      have ih := Rn.u_eq (dn := dn) gr (ky_addN (dn := dn) gp.ne gp.rg gp.ad (n + 1) k) (addN_ne h)
      rw [Rn.ord, Rn.uI, ← ih, gp.u]
      congr 2
      rw [← u_comb k h gp.ne gp.rg]
      cases n with
      | zero => rw [if_neg (by omega)]; rfl
      | succ n =>
        rw [if_pos (by omega)]
        show metN (uO (comb dn acc p.ord)) (uO p.ord) (way dn) (n + 1) = uO (addN dn p.ord (n + 1 + 1) acc)
        rw [addN, u_addN gp.ne gp.rg gp.ad (ky_comb k gp.ne gp.rg gp.ad) (comb_ne h)]
theorem Rn.u_eq0 {dn : Bool} {r : Rn} (g : r.G) (h : r ≠ .nil) : r.uI dn none = some (uO (r.ord dn [])) := by
  cases r with
  | nil => exact absurd rfl h
  | cons n p r =>
    obtain ⟨hn, gp, gr⟩ := g
    cases n with
    | zero => omega
    | succ n =>
      have ih := Rn.u_eq (dn := dn) gr (ky_addN (dn := dn) gp.ne gp.rg gp.ad (n + 1) (acc := []) ky_nil) (addN_ne1 gp.ne (by omega))
      rw [Rn.ord, Rn.uI, ← ih, gp.u]
      congr 2
      rw [addN, comb_nil]
      cases n with
      | zero => rw [if_neg (by omega)]; rfl
      | succ n =>
        rw [if_pos (by omega)]
        show metN (uO p.ord) (uO p.ord) (way dn) (n + 1) = uO (addN dn p.ord (n + 1) p.ord)
        rw [u_addN gp.ne gp.rg gp.ad ⟨gp.rg, gp.ad⟩ gp.ne]
/-! ### every plan -/
theorem g_nd {cp dn : Bool} {rs : Rn} (g : rs.G) (h : rs ≠ .nil) : G (.nd cp dn rs) := by
  have ne := Rn.ne1 (dn := dn) (acc := []) g h
  have ky := Rn.ky (dn := dn) g ky_nil
  have len := Rn.len (dn := dn) (acc := []) g
  simp only [List.length_nil] at len
  have lenz : ((rs.ord dn []).length : Int) = rs.size := by omega
  refine ⟨?_, ?_, ?_, ?_, ?_, ?_, ?_, ?_, ?_, ?_⟩ <;> simp only [P.ord]
  · exact ne
  · exact ky.rg
  · exact ky.ad
  · rw [P.size]; exact lenz.symm
  · rw [P.tI]
    exact Rn.t_eq (dn := dn) (acc := []) g ky_nil
  · rw [P.fI]
    have e := Rn.f_eq (dn := dn) (acc := []) g ky_nil
    unfold descT at e
    cases dn <;> simp [ne, adj] at e ⊢ <;> omega
  · rw [P.sI]
    have e := Rn.s_eq (dn := dn) (acc := []) g ky_nil
    unfold dsumT at e
    cases dn with
    | true =>
      simp [dsum] at e ⊢
      rw [e, lenz]
      omega
    | false =>
      simp [dsum] at e ⊢
      exact e
  · rw [P.eI]
    have e1 := Rn.hd_eq0 (dn := dn) g h
    have e2 := Rn.la_eq (dn := dn) (acc := []) g h
    simp only [List.length_nil] at e2
    cases dn with
    | true =>
      simp at e1 e2 ⊢
      rw [e1, e2, lenz]
      exact ⟨by omega, rfl, rfl⟩
    | false =>
      simp at e1 e2 ⊢
      rw [e1, e2, lenz]
      exact ⟨rfl, by omega, rfl⟩
  · rw [P.cI]
    exact Rn.c_eq0 g h
  · rw [P.uI, Rn.u_eq0 g h]
    rfl
theorem g_one : G .one := by
  refine ⟨?_, ?_, ?_, ?_, ?_, ?_, ?_, ?_, ?_, ?_⟩ <;> simp only [P.ord]
  · simp
  · intro x hx
    obtain rfl := List.mem_singleton.mp hx
    simp
  · trivial
  · rw [P.size]; rfl
  · rw [P.tI]; rfl
  · rw [P.fI]; rfl
  · rw [P.sI]; rfl
  · rw [P.eI]; rfl
  · rw [P.cI]; rfl
  · rw [P.uI]; rfl
mutual
theorem allG : ∀ p : P, p.ok → G p
  | .one, _ => g_one
  | .nd cp dn rs, h => by
    rw [P.ok] at h
    exact g_nd (allR rs h.2) h.1
theorem allR : ∀ r : Rn, r.ok → r.G
  | .nil, _ => trivial
  | .cons n p r, h => by
    rw [Rn.ok] at h
    exact ⟨h.1, allG p h.2.1, allR r h.2.2⟩
end
end M06
end
section
/-! E30a: the package's defs at plans. -/
namespace VL.K30
open PySem M06
abbrev sOne : Str := Str.ofString "one"
abbrev sUp : Str := Str.ofString "up"
abbrev sDn : Str := Str.ofString "down"
abbrev sUps : Str := Str.ofString "ups"
abbrev sDns : Str := Str.ofString "downs"
def wd (dn : Bool) : Str := if dn then sDn else sUp
def wds (dn : Bool) : Str := if dn then sDns else sUps
mutual
def pD : P → D
  | .one => .tup [.str sOne]
  | .nd cp dn rs => if cp then .tup [.str (wds dn), .int (hdN rs), hdD rs] else .tup [.str (wd dn), .tup (parts rs)]
def hdD : Rn → D
  | .nil => .non
  | .cons _ p _ => pD p
def parts : Rn → List D
  | .nil => []
  | .cons _ p r => pD p :: parts r
def hdN : Rn → Int
  | .nil => 0
  | .cons n _ _ => n
end
def runsD : Rn → List D
  | .nil => []
  | .cons n p r => .tup [pD p, .int n] :: runsD r
def ones : Rn → Prop
  | .nil => True
  | .cons n _ r => n = 1 ∧ ones r
def cnt : Rn → Nat
  | .nil => 0
  | .cons _ _ r => cnt r + 1
/-! a plan of the package, no greater than b -/
mutual
def wf (b : Int) : P → Prop
  | .one => 1 ≤ b
  | .nd cp dn rs => rs ≠ .nil ∧ (if cp then ∃ n p, rs = .cons n p .nil else ones rs ∧ cnt rs ≤ 12) ∧ wfR b rs ∧ rs.size ≤ b
def wfR (b : Int) : Rn → Prop
  | .nil => True
  | .cons n p r => 1 ≤ n ∧ wf b p ∧ wfR b r
end
abbrev tabC : List (Str × D) := [(sUps, .str sUp), (sDns, .str sDn)]
@[simp] theorem tab_wds (dn : Bool) : tabGet (wds dn) tabC = some (.str (wd dn)) := by cases dn <;> rfl
@[simp] theorem tab_wd (dn : Bool) : tabGet (wd dn) tabC = none := by cases dn <;> rfl
@[simp] theorem sub0 {x : D} {r : List D} : subD (.tup (x :: r)) (.int 0) = some x := by simp [subD, placeOf]
@[simp] theorem sub1 {x y : D} {r : List D} : subD (.tup (x :: y :: r)) (.int 1) = some y := by
  have : (1 : Int) < (r.length : Int) + 1 + 1 := by omega
  simp [subD, placeOf, this]
@[simp] theorem sub2 {x y z : D} {r : List D} : subD (.tup (x :: y :: z :: r)) (.int 2) = some z := by
  have : (2 : Int) < (r.length : Int) + 1 + 1 + 1 := by omega
  simp [subD, placeOf, this]
theorem parts_len : ∀ r : Rn, (parts r).length = cnt r
  | .nil => by rw [parts]; rfl
  | .cons n p r => by rw [parts, cnt, List.length_cons, parts_len r]
theorem runs_map : ∀ {r : Rn}, ones r → (parts r).map (fun d => D.tup [d, .int 1]) = runsD r
  | .nil, _ => by rw [parts]; rfl
  | .cons n p r, h => by
    rw [parts, runsD, List.map_cons, runs_map h.2, h.1]
    rfl
theorem e_runs_of (k : Nat) {b : Int} {cp dn : Bool} {rs : Rn} (h : wf b (.nd cp dn rs)) : call X (k + 1) 10 [pD (.nd cp dn rs)] = some (.v (.tup (runsD rs)), .non) := by
  rw [wf] at h
  obtain ⟨h1, h2, h3, h4⟩ := h
  rw [go_f at_runs_of rfl rfl]
  cases cp with
  | true =>
    rw [if_pos rfl] at h2
    obtain ⟨n, p, rfl⟩ := h2
    rw [pD, if_pos rfl, hdN, hdD]
    simp [f_runs_of, runsD]
  | false =>
    rw [if_neg Bool.false_ne_true] at h2
    rw [pD, if_neg Bool.false_ne_true]
    have hl : lcL [1] (tnE (th X k) (.nm 1) [] (.tup [.var 1, .con (.int 1)])) (parts rs) [.v (.tup [.str (wd dn), .tup (parts rs)]), .no] = .ok (runsD rs) [.v (.tup [.str (wd dn), .tup (parts rs)]), .no] := by
      rw [← runs_map h2.1]
      refine lcL_map (fun d => D.tup [d, .int 1]) fun d hd => ⟨[.v (.tup [.str (wd dn), .tup (parts rs)]), .v d], tnE_ok (ρ3 := [.v (.tup [.str (wd dn), .tup (parts rs)]), .v d]) (by simp) (by simp), ?_⟩
      rfl
    have hq := lcE_ok (T := th X k) (p := .nm 1) (cs := []) (e := .tup [.var 1, .con (.int 1)]) (ρ := [.v (.tup [.str (wd dn), .tup (parts rs)]), .no]) (xs := parts rs) (by simp [isFree]) (by rw [parts_len]; exact Nat.le_trans h2.2 (by decide)) (by simpa using hl)
    simp [f_runs_of, hq]
theorem e_word_of (k : Nat) {cp dn : Bool} {rs : Rn} : call X (k + 1) 11 [pD (.nd cp dn rs)] = some (.v (.str (wd dn)), .non) := by
  rw [go_f at_word_of rfl rfl]
  cases cp with
  | true =>
    rw [pD, if_pos rfl]
    simp [f_word_of]
  | false =>
    rw [pD, if_neg Bool.false_ne_true]
    simp [f_word_of]
/-! ### its size -/
mutual
def ht : P → Nat
  | .one => 0
  | .nd _ _ rs => htR rs + 1
def htR : Rn → Nat
  | .nil => 0
  | .cons _ p r => max (ht p) (htR r)
end
mutual
theorem dat_pD : ∀ p : P, dat (pD p) = true
  | .one => by rw [pD]; rfl
  | .nd cp dn rs => by
    rw [pD]
    cases cp with
    | true => simp [dat, dats, dat_hdD rs]
    | false => simp [dat, dats, dat_parts rs]
theorem dat_hdD : ∀ r : Rn, dat (hdD r) = true
  | .nil => by rw [hdD]; rfl
  | .cons _ p _ => by rw [hdD]; exact dat_pD p
theorem dat_parts : ∀ r : Rn, dats (parts r) = true
  | .nil => by rw [parts]; rfl
  | .cons _ p r => by rw [parts, dats, dat_pD p, dat_parts r]; rfl
end
@[simp] theorem nd_one {cp dn : Bool} {rs : Rn} : cmpop .eq (pD (.nd cp dn rs)) (.tup [.str sOne]) = some false := by
  have h : eqOk (pD (.nd cp dn rs)) (.tup [.str sOne]) = true := by
    unfold eqOk
    rw [dat_pD]
    simp [dat, dats, flat, flats]
  rw [cm_eq' h, pD]
  cases cp <;> simp [eqD, eqDs]
@[simp] theorem one_one : cmpop .eq (pD .one) (.tup [.str sOne]) = some true := by
  rw [pD]
  rfl
mutual
theorem size_pos {b : Int} : ∀ {p : P}, wf b p → 1 ≤ p.size ∧ p.size ≤ b
  | .one, h => by rw [wf] at h; rw [P.size]; omega
  | .nd cp dn rs, h => by
    rw [wf] at h
    have := sizeR_pos h.2.2.1
    rw [P.size]
    refine ⟨?_, h.2.2.2⟩
    cases rs with
    | nil => exact absurd rfl h.1
    | cons n p r =>
      rw [wfR] at h
      have h1 := size_pos h.2.2.1.2.1
      have h2 := sizeR_pos h.2.2.1.2.2
      have h3 := h.2.2.1.1
      rw [Rn.size]
      have : (1 : Int) * 1 ≤ n * p.size := Int.mul_le_mul (by omega) h1.1 (by omega) (by omega)
      omega
theorem sizeR_pos {b : Int} : ∀ {r : Rn}, wfR b r → 0 ≤ r.size
  | .nil, _ => by rw [Rn.size]; exact Int.le_refl _
  | .cons n p r, h => by
    rw [wfR] at h
    have h1 := size_pos h.2.1
    have h2 := sizeR_pos h.2.2
    rw [Rn.size]
    have : (0 : Int) ≤ n * p.size := Int.mul_nonneg (by omega) (by omega)
    omega
end
/-- n copies within b -/
theorem run_le {b : Int} {n : Nat} {p : P} (h : wf b p) (hn : n * p.size ≤ b) : (n : Int) ≤ b := by
  have h1 := size_pos h
  have : (n : Int) * 1 ≤ n * p.size := Int.mul_le_mul_of_nonneg_left h1.1 (by omega)
  omega
def szs : Rn → List Int
  | .nil => []
  | .cons n p r => n * p.size :: szs r
theorem szs_sum : ∀ r : Rn, (szs r).sum = r.size
  | .nil => by rw [Rn.size]; rfl
  | .cons n p r => by rw [Rn.size, szs, List.sum_cons, szs_sum r]
theorem runs_len : ∀ r : Rn, (runsD r).length = cnt r
  | .nil => rfl
  | .cons n p r => by rw [runsD, cnt, List.length_cons, runs_len r]
theorem cnt_le {b : Int} {cp dn : Bool} {rs : Rn} (h : wf b (.nd cp dn rs)) : cnt rs ≤ 12 := by
  rw [wf] at h
  cases cp with
  | true =>
    have h2 := h.2.1
    rw [if_pos rfl] at h2
    obtain ⟨n, p, e⟩ := h2
    rw [e]
    simp [cnt]
  | false =>
    have h2 := h.2.1
    rw [if_neg Bool.false_ne_true] at h2
    exact h2.2
theorem wide_of {i b : Int} (h0 : 0 ≤ i) (h1 : i ≤ b) (hb : b < wideB) : i.natAbs < wideB := by omega
mutual
theorem e_size_of {b : Int} (hb : b < wideB) : ∀ {p : P}, wf b p → ∀ {k : Nat}, ht p ≤ k → call X (k + 2) 12 [pD p] = some (.v (.int p.size), .non)
  | .one, _, k, _ => by
    rw [go_f at_size_of rfl rfl, P.size]
    simp [f_size_of]
  | .nd cp dn rs, h, k, hk => by
    have h' := h
    rw [wf] at h
    rw [ht] at hk
    have hl := e_sizes hb h.2.2.1 (k := k - 1) (by omega) h.2.2.2 (x := pD (.nd cp dn rs))
    rw [show k - 1 + 2 = k + 1 by omega] at hl
    have hq := lcE_ok (T := th X (k + 1)) (p := .tp [.nm 1, .nm 2]) (cs := []) (e := .bin .mul (.var 2) (.call 12 [.var 1])) (ρ := [.v (pD (.nd cp dn rs)), .no, .no]) (xs := runsD rs) (by simp [isFree]) (by rw [runs_len]; exact Nat.le_trans (cnt_le h') (by decide)) (by simpa using hl)
    rw [go_f at_size_of rfl rfl, P.size]
    simp [f_size_of, e_runs_of k h', hq, szs_sum]
theorem e_sizes {b : Int} (hb : b < wideB) : ∀ {r : Rn}, wfR b r → ∀ {k : Nat}, htR r ≤ k → r.size ≤ b → ∀ {x : D}, lcL [1, 2] (tnE (th X (k + 2)) (.tp [.nm 1, .nm 2]) [] (.bin .mul (.var 2) (.call 12 [.var 1]))) (runsD r) [.v x, .no, .no] = .ok ((szs r).map .int) [.v x, .no, .no]
  | .nil, _, k, _, _, x => rfl
  | .cons n p r, h, k, hk, hs, x => by
    rw [wfR] at h
    rw [htR] at hk
    rw [Rn.size] at hs
    have h0 := sizeR_pos h.2.2
    have h1 := size_pos h.2.1
    have h2 : (n : Int) * p.size ≤ b := by omega
    have h3 := run_le h.2.1 h2
    have ih := e_size_of hb h.2.1 (k := k) (by omega)
    have ihr := e_sizes hb h.2.2 (k := k) (by omega) (by
      have : (0 : Int) ≤ n * p.size := Int.mul_nonneg (by omega) (by omega)
      omega) (x := x)
    have hm : mulOk n p.size = true := mulOk_w (wide_of (by omega) h3 hb) (wide_of (by omega) h1.2 hb)
    rw [runsD, szs, List.map_cons]
    refine lcL_cons (ρ1 := [.v x, .v (pD p), .v (.int n)]) (tnE_ok (ρ3 := [.v x, .v (pD p), .v (.int n)]) (by simp) ?_) ?_
    · simp [ih, bop_mul hm]
    · exact ihr
end
end VL.K30
end
section
/-! M06e: bounds. -/
namespace M06
theorem below_le (x : Int) : ∀ l : L, 0 ≤ below x l ∧ below x l ≤ l.length
  | [] => by simp [below]
  | y :: l => by
    have ih := below_le x l
    have := b1_01 (y < x)
    rw [below, List.length_cons]
    omega
theorem inv_le : ∀ l : L, 0 ≤ inv l ∧ inv l ≤ l.length * l.length
  | [] => by simp [inv]
  | x :: l => by
    have ih := inv_le l
    have := below_le x l
    rw [inv, List.length_cons]
    have e : ((l.length + 1 : Nat) : Int) * ((l.length + 1 : Nat) : Int) = l.length * l.length + l.length + l.length + 1 := by grind
    rw [e]
    omega
theorem adj_le {g : Int → Int → Int} (hg : ∀ x y, 0 ≤ g x y ∧ g x y ≤ 1) : ∀ l : L, 0 ≤ adj g l ∧ adj g l ≤ l.length
  | [] => by simp [adj]
  | [_] => by simp [adj]
  | x :: y :: l => by
    have ih := adj_le hg (y :: l)
    have := hg x y
    rw [adj, List.length_cons]
    omega
theorem b1_le (p : Prop) [Decidable p] : 0 ≤ b1 p ∧ b1 p ≤ 1 := by
  have := b1_01 p
  omega
theorem desc_le (l : L) : 0 ≤ desc l ∧ desc l ≤ l.length := adj_le (fun x y => b1_le _) l
theorem near_le (l : L) : 0 ≤ near l ∧ near l ≤ l.length := adj_le (fun x y => b1_le _) l
theorem dirs_len : ∀ l : L, (dirs l).length ≤ l.length
  | [] => by simp [dirs]
  | [_] => by simp [dirs]
  | x :: y :: l => by
    have := dirs_len (y :: l)
    rw [dirs, List.length_cons, List.length_cons]
    omega
theorem pk_le (l : L) : 0 ≤ pk l ∧ pk l ≤ l.length := by
  have := adj_le (g := gP) (fun x y => b1_le _) (dirs l)
  have := dirs_len l
  unfold pk
  omega
theorem vl_le (l : L) : 0 ≤ vl l ∧ vl l ≤ l.length := by
  have := adj_le (g := gV) (fun x y => b1_le _) (dirs l)
  have := dirs_len l
  unfold vl
  omega
theorem dsum_le : ∀ (k : Int) (l : L), 0 ≤ k → 0 ≤ dsum k l ∧ dsum k l ≤ (k + l.length) * l.length
  | k, [], h => by simp [dsum]
  | k, [_], h => by simp [dsum]; omega
  | k, x :: y :: l, h => by
    have ih := dsum_le (k + 1) (y :: l) (by omega)
    rw [dsum]
    simp only [List.length_cons] at ih ⊢
    have e : (k + ((l.length + 1 + 1 : Nat) : Int)) * ((l.length + 1 + 1 : Nat) : Int) = (k + 1 + ((l.length + 1 : Nat) : Int)) * ((l.length + 1 : Nat) : Int) + (k + l.length + 2) := by grind
    rw [e]
    by_cases hy : y < x
    · simp only [if_pos hy]; omega
    · simp only [if_neg hy]; omega
theorem dsum1_le (l : L) : 0 ≤ dsum 1 l ∧ dsum 1 l ≤ (1 + l.length) * l.length := dsum_le 1 l (by omega)
theorem tri_le : ∀ n : Nat, 0 ≤ tri n ∧ tri n ≤ n * n
  | 0 => by simp [tri]
  | n + 1 => by
    have := tri_le n
    rw [tri]
    have e : ((n + 1 : Nat) : Int) * ((n + 1 : Nat) : Int) = n * n + n + n + 1 := by grind
    rw [e]
    omega
end M06
end
section
/-! E30b: pairs that fall. -/
namespace VL.K30
open PySem M06
mutual
theorem ok_wf {b : Int} : ∀ {p : P}, wf b p → p.ok
  | .one, _ => by rw [P.ok]; trivial
  | .nd cp dn rs, h => by
    rw [wf] at h
    rw [P.ok]
    exact ⟨h.1, okR_wf h.2.2.1⟩
theorem okR_wf {b : Int} : ∀ {r : Rn}, wfR b r → r.ok
  | .nil, _ => by rw [Rn.ok]; trivial
  | .cons n p r, h => by
    rw [wfR] at h
    rw [Rn.ok]
    exact ⟨h.1, ok_wf h.2.1, okR_wf h.2.2⟩
end
/-- the bound: all products lie far below what the language allows -/
def BB : Int := 2 ^ 2000
theorem BB_pos : 0 ≤ BB := by unfold BB; exact Int.le_of_lt (by decide +kernel)
theorem BB_wide : BB < wideB := by unfold BB; decide +kernel
theorem sq_wide {i b : Int} (hb0 : 0 ≤ b) (hb : b ≤ BB) (h0 : 0 ≤ i) (h1 : i ≤ (1 + b) * (1 + b)) : i.natAbs < wideB := by
  have e : (1 + BB) * (1 + BB) < wideB := by unfold BB; decide +kernel
  have : (1 + b) * (1 + b) ≤ (1 + BB) * (1 + BB) := Int.mul_le_mul (by omega) (by omega) (by omega) (by have := BB_pos; omega)
  omega
theorem ln_wide {i b : Int} (hb : b ≤ BB) (h0 : 0 ≤ i) (h1 : i ≤ b) : i.natAbs < wideB := by
  have := BB_wide
  omega
theorem sq_le {b : Int} (h : 0 ≤ b) : b * b ≤ (1 + b) * (1 + b) := Int.mul_le_mul (by omega) (by omega) h (by omega)
theorem t_le {b : Int} {p : P} (h : wf b p) : 0 ≤ p.tI ∧ p.tI ≤ b * b := by
  have g := allG p (ok_wf h)
  have := inv_le p.ord
  have hs := size_pos h
  rw [g.t]
  rw [g.size] at hs
  have : (p.ord.length : Int) * p.ord.length ≤ b * b := Int.mul_le_mul hs.2 hs.2 (by omega) (by omega)
  omega
abbrev bT : List S := [.asg (.nm 5) (.call 12 [(.var 3)]),
    .aug 1 .add (.bin .mul (.var 4) (.call 29 [(.var 3)])),
    .ife (.cmp .eq (.call 11 [(.var 0)]) (.glo (.str sDn))) [.aug 1 .add (.bin .add (.bin .mul (.bin .mul (.var 2) (.var 4)) (.var 5)) (.bin .mul (.bin .mul (.var 5) (.var 5)) (.bin .div (.bin .mul (.var 4) (.bin .sub (.var 4) (.con (.int (1))))) (.con (.int (2))))))] [],
    .aug 2 .add (.bin .mul (.var 4) (.var 5))]
theorem wd_eq (dn : Bool) : (wd dn == sDn) = dn := by cases dn <;> decide
theorem turn_t {k n : Nat} {p : P} {cp dn : Bool} {rs : Rn} {f a : Int} {s3 s4 s5 : Sl} (h3 : Fr s3) (h4 : Fr s4) (h5 : Fr s5)
    (hs : call X (k + 1) 12 [pD p] = some (.v (.int p.size), .non)) (ht : call X (k + 1) 29 [pD p] = some (.v (.int p.tI), .non))
    (m1 : mulOk n p.tI = true) (m2 : mulOk a n = true) (m3 : mulOk (a * n) p.size = true) (m4 : mulOk p.size p.size = true) (m5 : mulOk (p.size * p.size) (tri n) = true) (m6 : mulOk n ((n : Int) - 1) = true) (m7 : mulOk n p.size = true) :
    ∃ ρ1, asgD (.tp [.nm 3, .nm 4]) (.tup [pD p, .int n]) [.v (pD (.nd cp dn rs)), .v (.int f), .v (.int a), s3, s4, s5] = some ρ1 ∧
      execs (th X (k + 1)) bT ρ1 = .nx [.v (pD (.nd cp dn rs)), .v (.int (f + n * p.tI + if dn then a * n * p.size + p.size * p.size * tri n else 0)), .v (.int (a + n * p.size)), .v (pD p), .v (.int n), .v (.int p.size)] := by
  refine ⟨[.v (pD (.nd cp dn rs)), .v (.int f), .v (.int a), .v (pD p), .v (.int n), s5], by simp [h3.set, h4.set], ?_⟩
  have hw := e_word_of k (cp := cp) (dn := dn) (rs := rs)
  have hd := tri_div n
  simp [hs, ht, hw, h5.set, bop_mul m1, bop_mul m2, bop_mul m3, bop_mul m4, bop_mul m6, bop_mul m7, wd_eq]
  cases dn with
  | true => simp [bop_mul m1, bop_mul m2, bop_mul m3, bop_mul m4, bop_mul m5, bop_mul m6, bop_mul m7, hd]
  | false => simp [bop_mul m7]
theorem nd_Fr {s : Sl} (h : Fr s) : Fr s := h
mutual
theorem e_turned {b : Int} (hb0 : 0 ≤ b) (hb : b ≤ BB) : ∀ {p : P}, wf b p → ∀ {k : Nat}, ht p ≤ k → call X (k + 2) 29 [pD p] = some (.v (.int p.tI), .non)
  | .one, _, k, _ => by
    rw [go_f at_turned_in rfl rfl, P.tI]
    simp [f_turned_in]
  | .nd cp dn rs, h, k, hk => by
    have h' := h
    rw [wf] at h
    rw [ht] at hk
    obtain ⟨a', s3, s4, s5, hl⟩ := e_turnedR hb0 hb h.2.2.1 (k := k - 1) (by omega) (a := 0) (f := 0) (cp := cp) (dn := dn) (rs := rs) (Int.le_refl 0) (by have := h.2.2.2; omega) fr_no fr_no fr_no
    rw [show k - 1 + 2 = k + 1 by omega] at hl
    rw [go_f at_turned_in rfl rfl, P.tI]
    simp [f_turned_in, e_runs_of k h']
    change endR ((forL _ (execs (th X (k + 1)) bT) (runsD rs) _).seq _) = _
    rw [hl]
    simp
theorem e_turnedR {b : Int} (hb0 : 0 ≤ b) (hb : b ≤ BB) : ∀ {r : Rn}, wfR b r → ∀ {k : Nat}, htR r ≤ k → ∀ {f a : Int} {cp dn : Bool} {rs : Rn} {s3 s4 s5 : Sl}, 0 ≤ a → a + r.size ≤ b → Fr s3 → Fr s4 → Fr s5 →
    ∃ a' s3' s4' s5', forL (asgD (.tp [.nm 3, .nm 4])) (execs (th X (k + 2)) bT) (runsD r) [.v (pD (.nd cp dn rs)), .v (.int f), .v (.int a), s3, s4, s5] = .nx [.v (pD (.nd cp dn rs)), .v (.int (r.tI dn f a)), a', s3', s4', s5']
  | .nil, _, k, _, f, a, cp, dn, rs, s3, s4, s5, _, _, _, _, _ => by
    rw [Rn.tI]
    exact ⟨_, _, _, _, rfl⟩
  | .cons n p r, h, k, hk, f, a, cp, dn, rs, s3, s4, s5, ha, hab, h3, h4, h5 => by
    rw [wfR] at h
    rw [htR] at hk
    rw [Rn.size] at hab
    have q0 := sizeR_pos h.2.2
    have q1 := size_pos h.2.1
    have q2 : (0 : Int) ≤ n * p.size := Int.mul_nonneg (by omega) (by omega)
    have q3 := run_le h.2.1 (show n * p.size ≤ b by omega)
    have q4 := t_le h.2.1
    have q5 := tri_le n
    have q6 := sq_le hb0
    have q7 : a * n ≤ b * b := Int.mul_le_mul (by omega) q3 (by omega) hb0
    have q8 : 0 ≤ a * n := Int.mul_nonneg ha (by omega)
    have q9 : p.size * p.size ≤ b * b := Int.mul_le_mul q1.2 q1.2 (by omega) hb0
    have q10 : 0 ≤ p.size * p.size := Int.mul_nonneg (by omega) (by omega)
    have q11 : (n : Int) * n ≤ b * b := Int.mul_le_mul q3 q3 (by omega) hb0
    have w1 := ln_wide hb (by omega : (0 : Int) ≤ n) q3
    have w2 := ln_wide hb (by omega : (0 : Int) ≤ p.size) q1.2
    have hs := e_size_of (b := b) (by have := BB_wide; omega) h.2.1 (k := k) (by omega)
    have ht := e_turned hb0 hb h.2.1 (k := k) (by omega)
    obtain ⟨ρ1, e1, e2⟩ := turn_t (k := k + 1) (n := n) (p := p) (cp := cp) (dn := dn) (rs := rs) (f := f) (a := a) h3 h4 h5 hs ht
      (mulOk_w w1 (sq_wide hb0 hb q4.1 (by omega))) (mulOk_w (ln_wide hb ha (by omega)) w1) (mulOk_w (sq_wide hb0 hb q8 (by omega)) w2) (mulOk_w w2 w2) (mulOk_w (sq_wide hb0 hb q10 (by omega)) (sq_wide hb0 hb q5.1 (by omega))) (mulOk_w w1 (ln_wide hb (by omega) (by omega))) (mulOk_w w1 w2)
    rw [runsD, Rn.tI, forL_step e1 e2]
    exact e_turnedR hb0 hb h.2.2 (k := k) (by omega) (a := a + n * p.size) (f := f + n * p.tI + if dn then a * n * p.size + p.size * p.size * tri n else 0) (by omega) (by omega) (fr_v _) (fr_v _) (fr_v _)
end
end VL.K30
end
section
/-! E30i: is it a plan. -/
namespace VL.K30
open PySem M06
abbrev MC : Int := 1000000000000000000000000000000000000000000000000000000000000000000000000000000000000000000000000000000000000000000000000000000000000000000000000000000000000000000000000000000000000000000000000000000000000000000000000000000000000000000000000000000000000000000000000000000000000000000000000000000000000
theorem isTy_t {xs : List D} : isTy [.tuple] (.tup xs) = some true := rfl
theorem isTy_s {s : Str} : isTy [.str] (.str s) = some true := rfl
theorem e_is_within (k : Nat) (i a b : Int) : call X (k + 2) 1 [.int i, .int a, .int b] = some (.v (.bl (decide (a ≤ i) && decide (i ≤ b))), .non) := by
  have h0 : call X (k + 1) 0 [.int i] = some (.v (.bl true), .non) := by rfl
  rw [go_f at_is_within rfl rfl]
  simp [f_is_within, chR_vv, h0]
  by_cases h : a ≤ i <;> simp [h]
theorem e_is_one (k : Nat) (p : P) : call X (k + 1) 5 [pD p] = some (.v (.bl (match p with | .one => true | _ => false)), .non) := by
  rw [go_f at_is_one rfl rfl]
  cases p with
  | one =>
    rw [pD]
    simp [f_is_one, isTy_t, isTy_s]
  | nd cp dn rs =>
    rw [pD]
    cases cp <;> simp [f_is_one, isTy_t]
theorem e_parts_of (k : Nat) {b : Int} {cp dn : Bool} {rs : Rn} (h : wf b (.nd cp dn rs)) (hb : b ≤ MC) : call X (k + 3) 6 [pD (.nd cp dn rs)] = some (.v (.tup (parts rs)), .non) := by
  have h' := h
  rw [wf] at h
  rw [go_f at_parts_of rfl rfl, pD]
  cases cp with
  | true =>
    have h2 := h.2.1
    rw [if_pos rfl] at h2
    obtain ⟨n, p, rfl⟩ := h2
    have h3 := h.2.2.1
    rw [wfR] at h3
    have hs := h.2.2.2
    rw [Rn.size, Rn.size, Int.add_zero] at hs
    have h4 := run_le h3.2.1 hs
    have hw := e_is_within k (n : Int) 1 MC
    have e1 : decide ((1 : Int) ≤ n) = true := by
      have := h3.1
      simp; omega
    have e2 : decide ((n : Int) ≤ MC) = true := by simp; omega
    rw [e1, e2] at hw
    have c3 : cmpop .nin (.int 3) (.tup [.int 2, .int 3]) = some false := rfl
    simp [f_parts_of, isTy_t, isTy_s, hdN, hdD, parts, c3, hw]
  | false =>
    have h2 := h.2.1
    rw [if_neg Bool.false_ne_true] at h2
    have hl : 1 ≤ cnt rs := by
      cases rs with
      | nil => exact absurd rfl h.1
      | cons n p r => rw [cnt]; omega
    have c2 : cmpop .nin (.int 2) (.tup [.int 2, .int 3]) = some false := rfl
    have c4 : cmpop .nin (.str (wd dn)) (.tup [.str sUp, .str sDn]) = some false := by cases dn <;> rfl
    have e1 : (1 : Int) ≤ (cnt rs : Nat) := by omega
    have e2 : ((cnt rs : Nat) : Int) ≤ 12 := by omega
    simp [f_parts_of, isTy_t, isTy_s, c2, c4, chR_vv, parts_len, e1, e2]
end VL.K30
end
section
/-! E30j: the stack of forms. -/
namespace VL.K30
open PySem M06
mutual
/-- forms of a plan -/
def fm : P → Nat
  | .one => 1
  | .nd _ _ rs => fmR rs + 1
def fmR : Rn → Nat
  | .nil => 0
  | .cons _ p r => fm p + fmR r
end
abbrev St := List (P × Nat)
def stD (s : St) : List D := s.map fun t => .tup [pD t.1, .int (t.2 : Nat)]
def fmS : St → Nat
  | [] => 0
  | t :: s => fm t.1 + fmS s
theorem fmS_app : ∀ a b : St, fmS (a ++ b) = fmS a + fmS b
  | [], b => by simp [fmS]
  | t :: a, b => by simp [fmS, fmS_app a b]; omega
def pls : Rn → List P
  | .nil => []
  | .cons _ p r => p :: pls r
theorem parts_pls : ∀ r : Rn, parts r = (pls r).map pD
  | .nil => by rw [parts]; rfl
  | .cons n p r => by rw [parts, pls, List.map_cons, parts_pls r]
theorem sub_snoc (xs : List D) (t : D) : subD (.lst (xs ++ [t])) (.int (-1)) = some t := by
  have h1 : ¬ (0 : Int) ≤ -1 := by omega
  have h2 : -((xs ++ [t]).length : Int) ≤ -1 := by simp; omega
  have h3 : ((-1 : Int) + (xs ++ [t]).length).toNat = xs.length := by simp; omega
  show (placeOf (xs ++ [t]).length (-1)).bind (fun k => (xs ++ [t])[k]?) = some t
  unfold placeOf
  rw [if_neg h1, if_pos h2, h3]
  show (xs ++ [t])[xs.length]? = some t
  simp
theorem slc_snoc (xs : List D) (t : D) : slcD .hi (.lst (xs ++ [t])) [-1] = some (.fl xs) := by
  show (slcL .hi (xs ++ [t]) [-1]).map _ = _
  have h : cutOf (xs ++ [t]).length (-1) = xs.length := by
    unfold cutOf
    rw [if_pos (by omega)]
    simp
    omega
  show some (R.fl (cutL (xs ++ [t]) 0 (cutOf (xs ++ [t]).length (-1)))) = _
  rw [h]
  simp [cutL]
end VL.K30
end
section
/-! E30k: has_form at a plan. -/
namespace VL.K30
open PySem M06
abbrev bH : List S := [.asgs [(.tp [(.nm 3), (.nm 4)]), (.nm 1)] [(.sub (.var 1) (.neg (.con (.int (1))))), (.slc .hi (.var 1) [(.neg (.con (.int (1))))])],
    .aug 2 .add (.con (.int (1))),
    .ife (.or (.cmp .gt (.var 2) (.glo (.int (200)))) (.cmp .gt (.var 4) (.glo (.int (70))))) [.ret (.con (.bl false))] [],
    .ife (.not (.call 5 [(.var 3)])) [.asg (.nm 5) (.call 6 [(.var 3)]),
    .ife (.cmp .is_ (.var 5) (.con .non)) [.ret (.con (.bl false))] [],
    .asg (.nm 1) (.bin .add (.var 1) (.lc .of [(.var 5)] (.nm 6) [] (.tup [(.var 6), (.bin .add (.var 4) (.con (.int (1))))])))] []]
theorem step_one {k : Nat} {x : Sl} {s : St} {d : Nat} {m : Int} {s3 s4 s5 : Sl} (h3 : Fr s3) (h4 : Fr s4) (hm : m + 1 ≤ 200) (hd : d ≤ 70) :
    execs (th X (k + 3)) bH [x, .ol (stD (s ++ [(.one, d)])), .v (.int m), s3, s4, s5, .no] = .nx [x, .ol (stD s), .v (.int (m + 1)), .v (pD .one), .v (.int (d : Nat)), s5, .no] := by
  have e0 : stD (s ++ [(.one, d)]) = stD s ++ [.tup [pD .one, .int (d : Nat)]] := by simp [stD]
  have h1 := sub_snoc (stD s) (.tup [pD .one, .int (d : Nat)])
  have h2 := slc_snoc (stD s) (.tup [pD .one, .int (d : Nat)])
  have i1 : ¬ (200 : Int) < m + 1 := by omega
  have i2 : ¬ (70 : Int) < (d : Nat) := by omega
  have o1 := e_is_one (k + 2) .one
  rw [e0]
  simp [h1, h2, h3.set, h4.set, i1, i2, o1]
theorem step_nd {k : Nat} {b : Int} {x : Sl} {s : St} {cp dn : Bool} {rs : Rn} {d : Nat} {m : Int} {s3 s4 s5 : Sl} (h : wf b (.nd cp dn rs)) (hb : b ≤ MC) (h3 : Fr s3) (h4 : Fr s4) (h5 : Fr s5) (hm : m + 1 ≤ 200) (hd : d ≤ 70) (hl : s.length + cnt rs ≤ 16777216) :
    execs (th X (k + 3)) bH [x, .ol (stD (s ++ [(.nd cp dn rs, d)])), .v (.int m), s3, s4, s5, .no] = .nx [x, .ol (stD (s ++ (pls rs).map fun p => (p, d + 1))), .v (.int (m + 1)), .v (pD (.nd cp dn rs)), .v (.int (d : Nat)), .v (.tup (parts rs)), .no] := by
  have e0 : stD (s ++ [(.nd cp dn rs, d)]) = stD s ++ [.tup [pD (.nd cp dn rs), .int (d : Nat)]] := by simp [stD]
  have h1 := sub_snoc (stD s) (.tup [pD (.nd cp dn rs), .int (d : Nat)])
  have h2 := slc_snoc (stD s) (.tup [pD (.nd cp dn rs), .int (d : Nat)])
  have i1 : ¬ (200 : Int) < m + 1 := by omega
  have i2 : ¬ (70 : Int) < (d : Nat) := by omega
  have o1 := e_is_one (k + 2) (.nd cp dn rs)
  have o2 := e_parts_of k h hb
  have nn : isNon (.tup (parts rs)) = false := rfl
  have en : stD (s ++ (pls rs).map fun p => (p, d + 1)) = stD s ++ (parts rs).map fun y => D.tup [y, .int ((d : Int) + 1)] := by
    rw [parts_pls]
    simp [stD]
  have hlc : lcL [6] (tnE (th X (k + 3)) (.nm 6) [] (.tup [.var 6, .bin .add (.var 4) (.con (.int 1))])) (parts rs) [x, .ol (stD s), .v (.int (m + 1)), .v (pD (.nd cp dn rs)), .v (.int (d : Nat)), .v (.tup (parts rs)), .no] =
      .ok ((parts rs).map fun y => D.tup [y, .int ((d : Int) + 1)]) [x, .ol (stD s), .v (.int (m + 1)), .v (pD (.nd cp dn rs)), .v (.int (d : Nat)), .v (.tup (parts rs)), .no] := by
    refine lcL_map (fun y => D.tup [y, .int ((d : Int) + 1)]) fun y hy => ⟨[x, .ol (stD s), .v (.int (m + 1)), .v (pD (.nd cp dn rs)), .v (.int (d : Nat)), .v (.tup (parts rs)), .v y], tnE_ok (ρ3 := [x, .ol (stD s), .v (.int (m + 1)), .v (pD (.nd cp dn rs)), .v (.int (d : Nat)), .v (.tup (parts rs)), .v y]) (by simp) (by simp), rfl⟩
  have hq := lcE_ok (T := th X (k + 3)) (p := .nm 6) (cs := []) (e := .tup [.var 6, .bin .add (.var 4) (.con (.int 1))]) (ρ := [x, .ol (stD s), .v (.int (m + 1)), .v (pD (.nd cp dn rs)), .v (.int (d : Nat)), .v (.tup (parts rs)), .no]) (xs := parts rs) (by simp [isFree]) (by rw [parts_len]; exact Nat.le_trans (cnt_le h) (by decide)) (by simpa using hlc)
  have ha : binop .add (.lst (stD s)) (.lst ((parts rs).map fun y => D.tup [y, .int ((d : Int) + 1)])) = some (.fl (stD s ++ (parts rs).map fun y => D.tup [y, .int ((d : Int) + 1)])) := by
    show (if _ then _ else _) = _
    rw [if_pos (by simp [stD, parts_len]; exact hl)]
  rw [e0, en]
  simp [h1, h2, h3.set, h4.set, h5.set, i1, i2, o1, o2, nn, hq, ha]
end VL.K30
end
section
/-! E30l: has_form, is_plan. -/
namespace VL.K30
open PySem M06
theorem fm_pos : ∀ p : P, 1 ≤ fm p
  | .one => by rw [fm]; exact Nat.le_refl _
  | .nd _ _ rs => by rw [fm]; omega
theorem fm_pls (d : Nat) : ∀ r : Rn, fmS ((pls r).map fun p => (p, d)) = fmR r
  | .nil => by rw [fmR]; rfl
  | .cons n p r => by
    rw [fmR, pls, List.map_cons, fmS, fm_pls d r]
theorem len_le : ∀ s : St, s.length ≤ fmS s
  | [] => Nat.le_refl _
  | t :: s => by
    have := len_le s
    have := fm_pos t.1
    rw [fmS, List.length_cons]
    omega
theorem cnt_fm : ∀ r : Rn, cnt r ≤ fmR r
  | .nil => by rw [fmR]; exact Nat.le_refl _
  | .cons n p r => by
    have := cnt_fm r
    have := fm_pos p
    rw [fmR, cnt]
    omega
theorem pls_wf {b : Int} : ∀ {r : Rn}, wfR b r → ∀ p ∈ pls r, wf b p ∧ ht p ≤ htR r
  | .nil, _, p, h => by cases h
  | .cons n q r, w, p, h => by
    rw [wfR] at w
    rw [htR]
    rcases List.mem_cons.mp h with rfl | h
    · exact ⟨w.2.1, by omega⟩
    · obtain ⟨h1, h2⟩ := pls_wf w.2.2 p h
      exact ⟨h1, by omega⟩
theorem loop_h {b : Int} (hb : b ≤ MC) {k : Nat} {x : Sl} : ∀ (n : Nat) {s : St} {m : Nat} {s3 s4 s5 : Sl}, Fr s3 → Fr s4 → Fr s5 → fmS s < n → m + fmS s ≤ 200 → (∀ t ∈ s, wf b t.1 ∧ t.2 + ht t.1 ≤ 70) →
    ∃ m' s3' s4' s5', whileL (den (th X (k + 3)) (.cmp .gt (.bi .len [.var 1]) (.con (.int 0)))).t (execs (th X (k + 3)) bH) n [x, .ol (stD s), .v (.int (m : Nat)), s3, s4, s5, .no] = .nx [x, .ol [], m', s3', s4', s5', .no]
  | 0, s, m, s3, s4, s5, _, _, _, h, _, _ => by omega
  | n + 1, s, m, s3, s4, s5, h3, h4, h5, hf, hm, hs => by
    rcases List.eq_nil_or_concat s with rfl | ⟨ys, t, rfl⟩
    · exact ⟨.v (.int (m : Nat)), s3, s4, s5, whileL_end (by simp [stD])⟩
    · rw [List.concat_eq_append] at hf hm hs ⊢
      obtain ⟨p, d⟩ := t
      have hc : (den (th X (k + 3)) (.cmp .gt (.bi .len [.var 1]) (.con (.int 0)))).t [x, .ol (stD (ys ++ [(p, d)])), .v (.int (m : Nat)), s3, s4, s5, .no] = .ok true [x, .ol (stD (ys ++ [(p, d)])), .v (.int (m : Nat)), s3, s4, s5, .no] := by
        have : (0 : Int) < (ys.length : Int) + 1 := by omega
        simp [stD, this]
      rw [fmS_app] at hf hm
      have hp := hs (p, d) (List.mem_append_right _ List.mem_cons_self)
      have hy : ∀ t ∈ ys, wf b t.1 ∧ t.2 + ht t.1 ≤ 70 := fun t ht => hs t (List.mem_append_left _ ht)
      have e1 : fmS [(p, d)] = fm p := by simp [fmS]
      rw [e1] at hf hm
      have fp := fm_pos p
      cases p with
      | one =>
        have st := step_one (k := k) (x := x) (s := ys) (d := d) (m := (m : Nat)) (s3 := s3) (s4 := s4) (s5 := s5) h3 h4 (by omega) (by omega)
        rw [whileL_go hc st]
        obtain ⟨m', a, b', c', e⟩ := loop_h hb (k := k) (x := x) n (s := ys) (m := m + 1) (fr_v (pD .one)) (fr_v (.int (d : Nat))) h5 (by omega) (by omega) hy
        exact ⟨m', a, b', c', e⟩
      | nd cp dn rs =>
        rw [fm] at hf hm
        have hw := hp.1
        have hh : d + (htR rs + 1) ≤ 70 := by have := hp.2; rw [ht] at this; exact this
        have c1 := cnt_fm rs
        have c2 := len_le ys
        have st := step_nd (k := k) (x := x) (s := ys) (d := d) (m := (m : Nat)) (s3 := s3) (s4 := s4) (s5 := s5) hw hb h3 h4 h5 (by omega) (by omega) (by omega)
        rw [whileL_go hc st]
        have hw2 := hw
        rw [wf] at hw2
        obtain ⟨m', a, b', c', e⟩ := loop_h hb (k := k) (x := x) n (s := ys ++ (pls rs).map fun p => (p, d + 1)) (m := m + 1) (fr_v (pD (.nd cp dn rs))) (fr_v (.int (d : Nat))) (fr_v (.tup (parts rs))) (by rw [fmS_app, fm_pls]; omega) (by rw [fmS_app, fm_pls]; omega) (fun t ht' => by
          rcases List.mem_append.mp ht' with z | z
          · exact hy t z
          · obtain ⟨q, hq, rfl⟩ := List.mem_map.mp z
            obtain ⟨w1, w2⟩ := pls_wf hw2.2.2.1 q hq
            exact ⟨w1, by show d + 1 + ht q ≤ 70; omega⟩)
        exact ⟨m', a, b', c', e⟩
theorem e_has_form {b : Int} (hb : b ≤ MC) (k : Nat) {p : P} (h : wf b p) (hf : fm p ≤ 200) (hh : ht p ≤ 69) : call X (k + 4) 7 [pD p] = some (.v (.bl true), .non) := by
  obtain ⟨m', a, b', c', e⟩ := loop_h hb (k := k) (x := .v (pD p)) WF (s := [(p, 1)]) (m := 0) fr_no fr_no fr_no (by simp [fmS, WF]; omega) (by simp [fmS]; omega) (fun t ht' => by
    obtain rfl := List.mem_singleton.mp ht'
    exact ⟨h, by show 1 + ht p ≤ 70; omega⟩)
  rw [go_f at_has_form rfl rfl]
  simp [f_has_form]
  change endR (((whileL _ (execs (th X (k + 3)) bH) WF [.v (pD p), .ol (stD [(p, 1)]), .v (.int ((0 : Nat) : Int)), .no, .no, .no, .no])).seq _) = _
  rw [e]
  simp
end VL.K30
end
section
/-! E30m: the package's open defs at plans. -/
namespace VL.K30
open PySem M06
theorem MC_BB : MC ≤ BB := by unfold BB; decide +kernel
/-- a plan that the package takes -/
structure Pl (b : Int) (p : P) : Prop where
  wf : wf b p
  b0 : 0 ≤ b
  b1 : b ≤ MC
  fm : fm p ≤ 200
  ht : ht p ≤ 9
section
variable {b : Int} {p : P} (h : Pl b p)
include h
theorem Pl.bb : b ≤ BB := Int.le_trans h.b1 MC_BB
theorem Pl.bw : b < wideB := Int.lt_of_le_of_lt h.bb BB_wide
theorem e_is_plan (k : Nat) : call X (k + 15) 8 [pD p] = some (.v (.bl true), .non) := by
  have h1 := e_has_form h.b1 (k + 10) h.wf h.fm (Nat.le_trans h.ht (by decide))
  have h2 := e_size_of h.bw h.wf (k := k + 12) (by have := h.ht; omega)
  have h3 := size_pos h.wf
  have h4 : p.size ≤ MC := Int.le_trans h3.2 h.b1
  rw [go_f at_is_plan rfl rfl]
  simp [f_is_plan, h1, h2, h4]
theorem e_check_plan (k : Nat) : call X (k + 16) 9 [pD p] = some (.v .non, .non) := by
  rw [go_f at_check_plan rfl rfl]
  simp [f_check_plan, e_is_plan h k]
theorem e_turned_pairs (k : Nat) : call X (k + 17) 30 [pD p] = some (.v (.int p.tI), .non) := by
  have h2 := e_turned h.b0 h.bb h.wf (k := k + 14) (by have := h.ht; omega)
  rw [go_f at_turned_pairs rfl rfl]
  simp [f_turned_pairs, e_check_plan h k, h2]





end
end VL.K30
end
section
/-! M07: what the law's own helpers say of orders. -/
namespace M06
theorem adj_snoc (g : Int → Int → Int) {pre : L} (h : pre ≠ []) (x : Int) : adj g (pre ++ [x]) = adj g pre + g (la pre) x := by
  rw [adj_append g h (by simp)]
  simp [adj, hd]
theorem dsum_snoc {pre : L} (h : pre ≠ []) (x : Int) : dsum 1 (pre ++ [x]) = dsum 1 pre + if x < la pre then (pre.length : Int) else 0 := by
  rw [dsum_append 1 h (by simp)]
  simp [dsum, hd]
  split <;> omega
theorem la_snoc (pre : L) (x : Int) : la (pre ++ [x]) = x := by
  rw [la_append (by simp)]
  rfl
theorem la_get : ∀ {pre : L}, pre ≠ [] → pre[pre.length - 1]? = some (la pre)
  | [], h => absurd rfl h
  | [x], _ => rfl
  | x :: y :: l, _ => by
    have := la_get (pre := y :: l) (by simp)
    simpa [la] using this
theorem get_la {pre rest : L} (h : pre ≠ []) : (pre ++ rest)[pre.length - 1]? = some (la pre) := by
  have := List.length_pos_iff.mpr h
  rw [List.getElem?_append_left (by omega), la_get h]
theorem get_hd {pre rest : L} {x : Int} : (pre ++ x :: rest)[pre.length]? = some x := by simp
/-! laid together -/
def lay (dn : Bool) (os : List L) : L := os.foldl (comb dn) []
theorem lay_rep {dn : Bool} {B : L} : ∀ (n : Nat) (acc : L), (List.replicate n B).foldl (comb dn) acc = addN dn B n acc
  | 0, acc => rfl
  | n + 1, acc => by rw [List.replicate_succ, List.foldl_cons, lay_rep n, addN]
def fdl (dn : Bool) (w : Int) (acc : L) : L := if dn then sh (w - acc.length) acc else acc
theorem fdl_len (dn : Bool) (w : Int) (acc : L) : (fdl dn w acc).length = acc.length := by
  cases dn <;> simp [fdl]
theorem fdl_step (dn : Bool) (w : Int) (acc B : L) : fdl dn w (comb dn acc B) = fdl dn w acc ++ sh (if dn then w - acc.length - B.length else acc.length) B := by
  cases dn with
  | true =>
    simp only [fdl, comb, if_true, sh_append, sh_sh, List.length_append, sh_len]
    congr 2 <;> simp <;> omega
  | false => simp [fdl, comb]
theorem fdl_end (dn : Bool) {acc : L} : fdl dn acc.length acc = acc := by
  cases dn with
  | true => simp [fdl, sh_zero]
  | false => rfl
theorem fold_len {dn : Bool} : ∀ (os : List L) (acc : L), ((os.foldl (comb dn) acc).length : Int) = acc.length + (os.map fun o => (o.length : Int)).sum
  | [], acc => by simp
  | o :: os, acc => by
    rw [List.foldl_cons, fold_len os, comb_len, List.map_cons, List.sum_cons]
    omega
/-- runs of one each -/
def one1 : List P → Rn
  | [] => .nil
  | p :: ps => .cons 1 p (one1 ps)
theorem one1_ord {dn : Bool} : ∀ (ps : List P) (acc : L), (one1 ps).ord dn acc = (ps.map P.ord).foldl (comb dn) acc
  | [], acc => by rw [one1, Rn.ord]; rfl
  | p :: ps, acc => by
    rw [one1, Rn.ord, one1_ord ps]
    rfl
/-! below, as the law counts -/
theorem below_filter (x : Int) : ∀ l : L, below x l = ((l.filter fun y => decide (y < x)).length : Int)
  | [] => rfl
  | y :: l => by
    rw [below, below_filter x l, List.filter_cons, b1]
    by_cases h : y < x
    · simp [h]; omega
    · simp [h]
def invs : L → List Int
  | [] => []
  | x :: l => below x l :: invs l
theorem invs_sum : ∀ l : L, (invs l).sum = inv l
  | [] => rfl
  | x :: l => by rw [invs, List.sum_cons, invs_sum l, inv]
/-! tops -/
theorem tk_short {l : L} (h : l.length ≤ 2) : tk l = 0 := by
  match l, h with
  | [], _ => rfl
  | [_], _ => rfl
  | [_, _], _ => rfl
theorem tv_short {l : L} (h : l.length ≤ 2) : tv l = 0 := by
  match l, h with
  | [], _ => rfl
  | [_], _ => rfl
  | [_, _], _ => rfl
theorem mx_foldl : ∀ (l : L) (m : Int), 0 ≤ m → l.foldl max m = max m (mx l)
  | [], m, h => by simp [mx]; omega
  | x :: l, m, h => by
    rw [List.foldl_cons, mx_foldl l (max m x) (by omega), mx]
    omega
end M06
end
section
/-! M09: an order holds each of 0 .. n - 1 once. -/
namespace M06
def rg (n : Nat) : L := (List.range n).map fun (k : Nat) => (k : Int)
def Pm (l : L) : Prop := l.Perm (rg l.length)
theorem rg_len (n : Nat) : (rg n).length = n := by simp [rg]
theorem rg_add (a b : Nat) : rg (a + b) = rg a ++ sh a (rg b) := by
  unfold rg sh
  rw [List.range_add]
  simp
theorem sh_perm {c : Int} {a b : L} (h : a.Perm b) : (sh c a).Perm (sh c b) := h.map _
theorem comb_pm {dn : Bool} {A B : L} (hA : Pm A) (hB : Pm B) : Pm (comb dn A B) := by
  unfold Pm at *
  rw [comb_len]
  cases dn with
  | true =>
    show (sh B.length A ++ B).Perm _
    rw [Nat.add_comm, rg_add]
    exact (List.perm_append_comm).trans (hB.append (sh_perm hA))
  | false =>
    show (A ++ sh A.length B).Perm _
    rw [rg_add]
    exact hA.append (sh_perm hB)
theorem addN_pm {dn : Bool} {B : L} (hB : Pm B) : ∀ (n : Nat) {acc : L}, Pm acc → Pm (addN dn B n acc)
  | 0, acc, h => h
  | n + 1, acc, h => by rw [addN]; exact addN_pm hB n (comb_pm h hB)
theorem pm_nil : Pm [] := by unfold Pm; exact List.Perm.refl _
mutual
theorem ord_pm : ∀ p : P, Pm p.ord
  | .one => by rw [P.ord]; unfold Pm; exact List.Perm.refl _
  | .nd _ dn rs => by rw [P.ord]; exact ordR_pm dn rs pm_nil
theorem ordR_pm (dn : Bool) : ∀ (r : Rn) {acc : L}, Pm acc → Pm (r.ord dn acc)
  | .nil, acc, h => by rw [Rn.ord]; exact h
  | .cons n p r, acc, h => by rw [Rn.ord]; exact ordR_pm dn r (addN_pm (ord_pm p) n h)
end
theorem rg_sorted : ∀ n : Nat, (rg n).Pairwise (· ≤ ·) := by
  intro n
  unfold rg
  rw [List.pairwise_map]
  exact List.pairwise_lt_range.imp fun h => by omega
end M06
end
section
/-! M10: forms: runs put together, joined; what order they tell. -/
namespace M06
mutual
def eqP : P → P → Bool
  | .one, .one => true
  | .nd _ d r, .nd _ e s => (d == e) && eqR r s
  | _, _ => false
def eqR : Rn → Rn → Bool
  | .nil, .nil => true
  | .cons n p r, .cons m q s => (eqP p q && decide (n = m)) && eqR r s
  | _, _ => false
end
mutual
theorem eqP_ord : ∀ {p q : P}, eqP p q = true → p.ord = q.ord
  | .one, .one, _ => rfl
  | .one, .nd _ _ _, h => by simp [eqP] at h
  | .nd _ _ _, .one, h => by simp [eqP] at h
  | .nd _ d r, .nd _ e s, h => by
    rw [eqP, Bool.and_eq_true, beq_iff_eq] at h
    rw [P.ord, P.ord, h.1, eqR_ord h.2]
theorem eqR_ord {dn : Bool} : ∀ {r s : Rn}, eqR r s = true → ∀ {acc : L}, r.ord dn acc = s.ord dn acc
  | .nil, .nil, _, _ => rfl
  | .nil, .cons _ _ _, h, _ => by simp [eqR] at h
  | .cons _ _ _, .nil, h, _ => by simp [eqR] at h
  | .cons n p r, .cons m q s, h, acc => by
    rw [eqR, Bool.and_eq_true, Bool.and_eq_true, decide_eq_true_eq] at h
    rw [Rn.ord, Rn.ord, eqP_ord h.1.1, h.1.2, eqR_ord h.2]
end
mutual
theorem eqP_refl : ∀ p : P, eqP p p = true
  | .one => by rw [eqP]
  | .nd _ d r => by rw [eqP, eqR_refl r]; simp
theorem eqR_refl : ∀ r : Rn, eqR r r = true
  | .nil => by rw [eqR]
  | .cons n p r => by rw [eqR, eqP_refl p, eqR_refl r]; simp
end
/-! laying -/
theorem comb_nilr (dn : Bool) (A : L) : comb dn A [] = A := by
  cases dn
  · show A ++ sh A.length [] = A
    simp
  · show sh (([] : L).length : Int) A ++ [] = A
    simp [sh_zero]
theorem comb_assoc (dn : Bool) (A B C : L) : comb dn (comb dn A B) C = comb dn A (comb dn B C) := by
  cases dn with
  | false =>
    show (A ++ sh A.length B) ++ sh ((A ++ sh A.length B).length : Int) C = A ++ sh A.length (B ++ sh B.length C)
    rw [sh_append, sh_sh, List.append_assoc]
    congr 3
    simp
  | true =>
    show sh C.length (sh B.length A ++ B) ++ C = sh ((sh C.length B ++ C).length : Int) A ++ (sh C.length B ++ C)
    rw [sh_append, sh_sh, List.append_assoc]
    congr 2
    simp
    omega
theorem lay_nil (dn : Bool) : lay dn [] = [] := rfl
theorem foldl_lay {dn : Bool} : ∀ (os : List L) (A : L), os.foldl (comb dn) A = comb dn A (lay dn os)
  | [], A => (comb_nilr dn A).symm
  | o :: os, A => by
    show os.foldl (comb dn) (comb dn A o) = comb dn A (os.foldl (comb dn) (comb dn [] o))
    rw [foldl_lay os, foldl_lay os, comb_nil, comb_assoc]
theorem lay_cons (dn : Bool) (o : L) (os : List L) : lay dn (o :: os) = comb dn o (lay dn os) := by
  show os.foldl (comb dn) (comb dn [] o) = _
  rw [foldl_lay, comb_nil]
theorem lay_app (dn : Bool) (a b : List L) : lay dn (a ++ b) = comb dn (lay dn a) (lay dn b) := by
  show (a ++ b).foldl (comb dn) [] = _
  rw [List.foldl_append, foldl_lay b]
  rfl
theorem lay_one (dn : Bool) (o : L) : lay dn [o] = o := by rw [lay_cons, lay_nil, comb_nilr]
theorem lay_rep_mul (dn : Bool) (o : L) (m : Nat) : ∀ n : Nat, lay dn (List.replicate n (lay dn (List.replicate m o))) = lay dn (List.replicate (m * n) o)
  | 0 => by simp
  | n + 1 => by
    rw [List.replicate_succ, lay_cons, lay_rep_mul dn o m n, ← lay_app, List.replicate_append_replicate]
    congr 2
    rw [Nat.mul_succ]
    omega
/-! runs -/
abbrev RL := List (P × Nat)
def toRn : RL → Rn
  | [] => .nil
  | (p, n) :: l => .cons n p (toRn l)
def ofRn : Rn → RL
  | .nil => []
  | .cons n p r => (p, n) :: ofRn r
theorem toRn_of : ∀ r : Rn, toRn (ofRn r) = r
  | .nil => rfl
  | .cons n p r => by rw [ofRn, toRn, toRn_of r]
theorem ofRn_to : ∀ l : RL, ofRn (toRn l) = l
  | [] => rfl
  | (p, n) :: l => by rw [toRn, ofRn, ofRn_to l]
/-- the orders that are laid -/
def fl (l : RL) : List L := l.flatMap fun t => List.replicate t.2 t.1.ord
theorem fl_nil : fl [] = [] := rfl
theorem fl_cons (p : P) (n : Nat) (l : RL) : fl ((p, n) :: l) = List.replicate n p.ord ++ fl l := rfl
theorem fl_app (a b : RL) : fl (a ++ b) = fl a ++ fl b := by unfold fl; rw [List.flatMap_append]
theorem fl_one (p : P) (n : Nat) : fl [(p, n)] = List.replicate n p.ord := by rw [fl_cons, fl_nil, List.append_nil]
theorem ord_fl {dn : Bool} : ∀ (r : Rn) (acc : L), r.ord dn acc = comb dn acc (lay dn (fl (ofRn r)))
  | .nil, acc => by rw [Rn.ord, ofRn, fl_nil, lay_nil, comb_nilr]
  | .cons n p r, acc => by rw [Rn.ord, ord_fl r, ofRn, fl_cons, lay_app, ← lay_rep, foldl_lay, comb_assoc]
theorem nd_ord (cp dn : Bool) (r : Rn) : (P.nd cp dn r).ord = lay dn (fl (ofRn r)) := by rw [P.ord, ord_fl, comb_nil]
def putL (l : RL) (p : P) (n : Nat) : RL := match l.getLast? with
  | some t => if eqP t.1 p then l.dropLast ++ [(p, t.2 + n)] else l ++ [(p, n)]
  | none => [(p, n)]
theorem putL_fl (l : RL) (p : P) (n : Nat) : fl (putL l p n) = fl l ++ List.replicate n p.ord := by
  unfold putL
  rcases List.eq_nil_or_concat l with rfl | ⟨ys, t, rfl⟩
  · exact fl_one p n
  · rw [List.concat_eq_append, List.getLast?_concat]
    dsimp only
    by_cases h : eqP t.1 p = true
    · rw [if_pos h, List.dropLast_concat, fl_app, fl_app, fl_one, List.append_assoc]
      have : fl [t] = List.replicate t.2 p.ord := by
        rw [← eqP_ord h]
        exact fl_one t.1 t.2
      rw [this, List.replicate_append_replicate]
    · rw [if_neg h, fl_app, fl_one]
def putRs (l : RL) (rs : RL) : RL := rs.foldl (fun l t => putL l t.1 t.2) l
theorem putRs_fl : ∀ (rs l : RL), fl (putRs l rs) = fl l ++ fl rs
  | [], l => by rw [fl_nil, List.append_nil]; rfl
  | (p, n) :: rs, l => by
    show fl (putRs (putL l p n) rs) = _
    rw [putRs_fl rs, putL_fl, fl_cons, List.append_assoc]
def putN (rs : RL) : Nat → RL → RL
  | 0, l => l
  | n + 1, l => putN rs n (putRs l rs)
theorem putN_fl (rs : RL) : ∀ (n : Nat) (l : RL), fl (putN rs n l) = fl l ++ (List.replicate n (fl rs)).flatten
  | 0, l => by simp [putN]
  | n + 1, l => by
    rw [putN, putN_fl rs n, putRs_fl, List.replicate_succ, List.flatten_cons, List.append_assoc]
/-- n copies of the form p put behind runs laid by dn -/
def putC (dn : Bool) (l : RL) : P → Nat → RL
  | .one, n => putL l .one n
  | .nd cp d rs, n => if d = dn then (match rs with
      | .cons m q .nil => putL l q (m * n)
      | rs => putN (ofRn rs) n l) else putL l (.nd cp d rs) n
theorem lay_flat (dn : Bool) (xs : List L) : ∀ n : Nat, lay dn (List.replicate n xs).flatten = lay dn (List.replicate n (lay dn xs))
  | 0 => rfl
  | n + 1 => by rw [List.replicate_succ, List.flatten_cons, lay_app, lay_flat dn xs n, List.replicate_succ, lay_cons]
theorem putC_lay (dn : Bool) (l : RL) (p : P) (n : Nat) : lay dn (fl (putC dn l p n)) = comb dn (lay dn (fl l)) (lay dn (List.replicate n p.ord)) := by
  have h1 : ∀ q, lay dn (fl (putL l q n)) = comb dn (lay dn (fl l)) (lay dn (List.replicate n q.ord)) := fun q => by rw [putL_fl, lay_app]
  cases p with
  | one => rw [putC]; exact h1 _
  | nd cp d rs =>
    by_cases hd : d = dn
    · subst hd
      have h2 : lay d (fl (putN (ofRn rs) n l)) = comb d (lay d (fl l)) (lay d (List.replicate n (P.nd cp d rs).ord)) := by
        rw [putN_fl, lay_app, lay_flat, nd_ord]
      match rs with
      | .nil => simpa [putC] using h2
      | .cons m q .nil =>
        rw [show putC d l (.nd cp d (.cons m q .nil)) n = putL l q (m * n) by simp [putC]]
        rw [putL_fl, lay_app, nd_ord, ofRn, ofRn, fl_one, lay_rep_mul]
      | .cons m q (.cons a b c) => simpa [putC] using h2
    · rw [show putC dn l (.nd cp d rs) n = putL l (.nd cp d rs) n by simp [putC, hd]]
      exact h1 _
def joinL (dn : Bool) (ps : RL) : RL := ps.foldl (fun l t => putC dn l t.1 t.2) []
def joinF (dn : Bool) : RL → P
  | [t] => if t.2 = 1 then t.1 else .nd false dn (toRn [t])
  | l => .nd false dn (toRn l)
theorem joinF_1 {dn : Bool} {p : P} : joinF dn [(p, 1)] = p := by simp [joinF]
theorem joinF_n {dn : Bool} {p : P} {n : Nat} (h : n ≠ 1) : joinF dn [(p, n)] = .nd false dn (toRn [(p, n)]) := by simp [joinF, h]
theorem joinF_m {dn : Bool} : ∀ {l : RL}, l.length ≠ 1 → joinF dn l = .nd false dn (toRn l)
  | [], _ => rfl
  | [t], h => absurd rfl h
  | _ :: _ :: _, _ => rfl
def joinP (dn : Bool) (ps : RL) : P := joinF dn (joinL dn ps)
theorem joinF_ord (dn : Bool) (l : RL) : (joinF dn l).ord = lay dn (fl l) := by
  by_cases h : l.length = 1
  · match l, h with
    | [(p, n)], _ =>
      by_cases hn : n = 1
      · subst hn
        rw [joinF_1, fl_one]
        exact (lay_one dn p.ord).symm
      · rw [joinF_n hn, nd_ord, ofRn_to]
  · rw [joinF_m h, nd_ord, ofRn_to]
theorem joinL_lay (dn : Bool) : ∀ (ps l : RL), lay dn (fl (ps.foldl (fun l t => putC dn l t.1 t.2) l)) = comb dn (lay dn (fl l)) (lay dn (fl ps))
  | [], l => by rw [fl_nil, lay_nil, comb_nilr]; rfl
  | (p, n) :: ps, l => by
    rw [List.foldl_cons, joinL_lay dn ps, putC_lay, fl_cons, lay_app, comb_assoc]
theorem joinP_ord (dn : Bool) (ps : RL) : (joinP dn ps).ord = lay dn (fl ps) := by
  unfold joinP joinL
  rw [joinF_ord, joinL_lay, fl_nil, lay_nil, comb_nil]
/-! the normal form -/
mutual
def nf : P → P
  | .one => .one
  | .nd _ dn rs => joinP dn (nfR rs)
def nfR : Rn → RL
  | .nil => []
  | .cons n p r => (nf p, n) :: nfR r
end
mutual
theorem nf_ord : ∀ p : P, (nf p).ord = p.ord
  | .one => by rw [nf]
  | .nd cp dn rs => by rw [nf, joinP_ord, nfR_fl rs, nd_ord]
theorem nfR_fl : ∀ r : Rn, fl (nfR r) = fl (ofRn r)
  | .nil => by rw [nfR, ofRn]
  | .cons n p r => by rw [nfR, ofRn, fl_cons, fl_cons, nf_ord p, nfR_fl r]
end
end M06
end
section
/-! M11: forms turned; what order they tell. -/
namespace M06
def upO (o : L) : L := o.map fun x => (o.length : Int) - 1 - x
def inO (o : L) : L := (rg o.length).map fun v => (o.idxOf v : Int)
@[simp] theorem upO_len (o : L) : (upO o).length = o.length := by simp [upO]
@[simp] theorem inO_len (o : L) : (inO o).length = o.length := by simp [inO, rg_len]
theorem Pm.mem {o : L} (h : Pm o) {x : Int} : x ∈ o ↔ 0 ≤ x ∧ x < o.length := by
  rw [List.Perm.mem_iff h]
  unfold rg
  simp
  constructor
  · rintro ⟨k, hk, rfl⟩
    omega
  · intro hx
    exact ⟨x.toNat, by omega, by omega⟩
theorem up_comb {dn : Bool} (A B : L) : upO (comb dn A B) = comb (!dn) (upO A) (upO B) := by
  unfold upO
  rw [comb_len]
  cases dn with
  | false =>
    show (A ++ sh A.length B).map _ = sh (B.map _).length (A.map _) ++ B.map _
    unfold sh
    rw [List.map_append, List.map_map, List.map_map, List.length_map]
    congr 1
    · apply List.map_congr_left
      intro x _
      simp
      omega
    · apply List.map_congr_left
      intro x _
      simp
      omega
  | true =>
    show (sh B.length A ++ B).map _ = A.map _ ++ sh (A.map _).length (B.map _)
    unfold sh
    rw [List.map_append, List.map_map, List.map_map, List.length_map]
    congr 1
    · apply List.map_congr_left
      intro x _
      simp
      omega
    · apply List.map_congr_left
      intro x _
      simp
      omega
theorem rev_comb {dn : Bool} (A B : L) : (comb dn A B).reverse = comb (!dn) B.reverse A.reverse := by
  cases dn with
  | false =>
    show (A ++ sh A.length B).reverse = sh A.reverse.length B.reverse ++ A.reverse
    unfold sh
    simp
  | true =>
    show (sh B.length A ++ B).reverse = B.reverse ++ sh B.reverse.length A.reverse
    unfold sh
    simp
theorem idx_sh (c x : Int) : ∀ B : L, (sh c B).idxOf (c + x) = B.idxOf x
  | [] => rfl
  | b :: B => by
    rw [sh_cons, List.idxOf_cons, List.idxOf_cons, idx_sh c x B]
    have : (c + b == c + x) = (b == x) := by
      by_cases h : b = x
      · subst h; simp
      · rw [beq_eq_false_iff_ne.mpr h, beq_eq_false_iff_ne.mpr (by omega)]
    rw [this]
theorem in_comb {dn : Bool} {A B : L} (hA : Pm A) (hB : Pm B) : inO (comb dn A B) = if dn then comb true (inO B) (inO A) else comb false (inO A) (inO B) := by
  unfold inO
  rw [comb_len]
  cases dn with
  | false =>
    rw [if_neg Bool.false_ne_true, rg_add, List.map_append]
    show List.map (fun v => (((A ++ sh A.length B).idxOf v : Nat) : Int)) _ ++ _ = (rg A.length).map (fun v => ((A.idxOf v : Nat) : Int)) ++ sh ((rg A.length).map _).length ((rg B.length).map fun v => ((B.idxOf v : Nat) : Int))
    congr 1
    · apply List.map_congr_left
      intro x hx
      have : x ∈ A := by rw [List.Perm.mem_iff hA]; exact hx
      rw [List.idxOf_append, if_pos this]
    · unfold sh
      rw [List.map_map, List.map_map]
      apply List.map_congr_left
      intro x hx
      have h1 := (Pm.mem hB).mp (by rw [List.Perm.mem_iff hB]; exact hx)
      have h2 : ¬ ((A.length : Int) + x) ∈ A := fun h => by
        have := (Pm.mem hA).mp h
        omega
      show ((((A ++ sh A.length B).idxOf ((A.length : Int) + x)) : Nat) : Int) = _
      rw [List.idxOf_append, if_neg h2, idx_sh]
      simp [rg_len]
      omega
  | true =>
    rw [if_pos rfl, Nat.add_comm, rg_add, List.map_append]
    show List.map (fun v => (((sh B.length A ++ B).idxOf v : Nat) : Int)) _ ++ _ = sh ((rg A.length).map _).length ((rg B.length).map fun v => ((B.idxOf v : Nat) : Int)) ++ (rg A.length).map (fun v => ((A.idxOf v : Nat) : Int))
    congr 1
    · unfold sh
      rw [List.map_map]
      apply List.map_congr_left
      intro x hx
      have h1 := (Pm.mem hB).mp (by rw [List.Perm.mem_iff hB]; exact hx)
      have h2 : ¬ x ∈ sh B.length A := fun h => by
        obtain ⟨y, hy, e⟩ := List.mem_map.mp h
        have := (Pm.mem hA).mp hy
        omega
      show ((((sh B.length A ++ B).idxOf x) : Nat) : Int) = _
      rw [List.idxOf_append, if_neg h2]
      simp [rg_len]
      omega
    · unfold sh
      rw [List.map_map]
      apply List.map_congr_left
      intro x hx
      have hx' : x ∈ A := by rw [List.Perm.mem_iff hA]; exact hx
      show ((((sh B.length A ++ B).idxOf ((B.length : Int) + x)) : Nat) : Int) = _
      have h2 : ((B.length : Int) + x) ∈ sh B.length A := List.mem_map.mpr ⟨x, hx', rfl⟩
      rw [List.idxOf_append, if_pos h2, idx_sh]
/-! the three turns -/
inductive Tn where
  | bk | up | sw
/-- the word behind a turn -/
def Tn.w : Tn → Bool → Bool
  | .sw, dn => dn
  | _, dn => !dn
/-- whether the parts are read from behind -/
def Tn.rv : Tn → Bool → Bool
  | .bk, _ => true
  | .up, _ => false
  | .sw, dn => dn
def Tn.O : Tn → L → L
  | .bk, o => o.reverse
  | .up, o => upO o
  | .sw, o => inO o
def rvL {α : Type} (b : Bool) (l : List α) : List α := if b then l.reverse else l
theorem Tn.O_nil (t : Tn) : t.O [] = [] := by cases t <;> rfl
theorem Tn.O_one (t : Tn) : t.O [0] = [0] := by cases t <;> rfl
theorem Tn.O_comb (t : Tn) (dn : Bool) {A B : L} (hA : Pm A) (hB : Pm B) : t.O (comb dn A B) = if t.rv dn then comb (t.w dn) (t.O B) (t.O A) else comb (t.w dn) (t.O A) (t.O B) := by
  cases t with
  | bk => exact rev_comb A B
  | up => exact up_comb A B
  | sw =>
    show inO _ = _
    rw [in_comb hA hB]
    cases dn <;> rfl
theorem lay_pm {dn : Bool} : ∀ {os : List L}, (∀ o ∈ os, Pm o) → Pm (lay dn os)
  | [], _ => pm_nil
  | o :: os, h => by
    rw [lay_cons]
    exact comb_pm (h o List.mem_cons_self) (lay_pm fun x hx => h x (List.mem_cons_of_mem _ hx))
theorem Tn.O_lay (t : Tn) (dn : Bool) : ∀ {os : List L}, (∀ o ∈ os, Pm o) → t.O (lay dn os) = lay (t.w dn) (rvL (t.rv dn) (os.map t.O))
  | [], _ => by rw [lay_nil, Tn.O_nil]; unfold rvL; split <;> rfl
  | o :: os, h => by
    have h2 : ∀ x ∈ os, Pm x := fun x hx => h x (List.mem_cons_of_mem _ hx)
    rw [lay_cons, Tn.O_comb t dn (h o List.mem_cons_self) (lay_pm h2), Tn.O_lay t dn h2, List.map_cons]
    unfold rvL
    cases t.rv dn with
    | true => rw [if_pos rfl, if_pos rfl, if_pos rfl, List.reverse_cons, lay_app, lay_one]
    | false => rw [if_neg Bool.false_ne_true, if_neg Bool.false_ne_true, if_neg Bool.false_ne_true, lay_cons]
mutual
/-- a form turned -/
def tF (t : Tn) : P → P
  | .one => .one
  | .nd _ dn rs => joinP (t.w dn) (rvL (t.rv dn) (tR t rs))
def tR (t : Tn) : Rn → RL
  | .nil => []
  | .cons n p r => (tF t p, n) :: tR t r
end
theorem fl_rev : ∀ l : RL, fl l.reverse = (fl l).reverse
  | [] => rfl
  | (p, n) :: l => by
    rw [List.reverse_cons, fl_app, fl_rev l, fl_one, fl_cons, List.reverse_append]
    simp
theorem fl_rv (b : Bool) (l : RL) : fl (rvL b l) = rvL b (fl l) := by
  unfold rvL
  cases b
  · rfl
  · exact fl_rev l
theorem fl_pm (l : RL) : ∀ o ∈ fl l, Pm o := by
  intro o ho
  unfold fl at ho
  obtain ⟨t, _, h⟩ := List.mem_flatMap.mp ho
  rw [(List.mem_replicate.mp h).2]
  exact ord_pm _
mutual
theorem tF_ord (t : Tn) : ∀ p : P, (tF t p).ord = t.O p.ord
  | .one => by rw [tF, P.ord, Tn.O_one]
  | .nd cp dn rs => by rw [tF, joinP_ord, fl_rv, tR_fl t rs, nd_ord, Tn.O_lay t dn (fl_pm _)]
theorem tR_fl (t : Tn) : ∀ r : Rn, fl (tR t r) = (fl (ofRn r)).map t.O
  | .nil => by rw [tR, ofRn]; rfl
  | .cons n p r => by rw [tR, ofRn, fl_cons, fl_cons, tF_ord t p, tR_fl t r, List.map_append, List.map_replicate]
end
end M06
end
section
/-! M12: normal forms; two of one order are one. -/
namespace M06
mutual
def er : P → P
  | .one => .one
  | .nd _ d r => .nd false d (erR r)
def erR : Rn → Rn
  | .nil => .nil
  | .cons n p r => .cons n (er p) (erR r)
end
mutual
theorem eqP_er : ∀ p q : P, eqP p q = true ↔ er p = er q
  | .one, .one => by simp [eqP]
  | .one, .nd _ _ _ => by simp [eqP, er]
  | .nd _ _ _, .one => by simp [eqP, er]
  | .nd _ d r, .nd _ e s => by
    have h := eqR_er r s
    simp [eqP, er, h]
theorem eqR_er : ∀ r s : Rn, eqR r s = true ↔ erR r = erR s
  | .nil, .nil => by simp [eqR]
  | .nil, .cons _ _ _ => by simp [eqR, erR]
  | .cons _ _ _, .nil => by simp [eqR, erR]
  | .cons n p r, .cons m q s => by
    have h1 := eqP_er p q
    have h2 := eqR_er r s
    simp [eqR, erR, h1, h2]
    constructor
    · rintro ⟨⟨a, b⟩, c⟩; exact ⟨b, a, c⟩
    · rintro ⟨a, b, c⟩; exact ⟨⟨b, a⟩, c⟩
end
theorem eqP_f {p q : P} : eqP p q = false ↔ er p ≠ er q := by
  have h := eqP_er p q
  cases e : eqP p q with
  | true => rw [e] at h; simp [h.mp rfl]
  | false => rw [e] at h; simp at h; simp [h]
theorem er_ord {p q : P} (h : er p = er q) : p.ord = q.ord := eqP_ord ((eqP_er p q).mpr h)
/-! normal -/
def hdw : P → Option Bool
  | .one => none
  | .nd _ d _ => some d
def tot : RL → Nat
  | [] => 0
  | (_, n) :: l => n + tot l
def Adj : RL → Prop
  | (p, _) :: (q, m) :: l => er p ≠ er q ∧ Adj ((q, m) :: l)
  | _ => True
mutual
def NF : P → Prop
  | .one => True
  | .nd _ dn rs => 2 ≤ tot (ofRn rs) ∧ Adj (ofRn rs) ∧ NFR dn rs
def NFR (dn : Bool) : Rn → Prop
  | .nil => True
  | .cons n p r => (1 ≤ n ∧ NF p ∧ hdw p ≠ some dn) ∧ NFR dn r
end
/-- runs of parts that are normal and not laid so -/
def RunsOK (dn : Bool) (l : RL) : Prop := Adj l ∧ ∀ t ∈ l, 1 ≤ t.2 ∧ NF t.1 ∧ hdw t.1 ≠ some dn
theorem nfr_iff (dn : Bool) : ∀ r : Rn, NFR dn r ↔ ∀ t ∈ ofRn r, 1 ≤ t.2 ∧ NF t.1 ∧ hdw t.1 ≠ some dn
  | .nil => by simp [NFR, ofRn]
  | .cons n p r => by
    have h := nfr_iff dn r
    rw [NFR, ofRn, h]
    simp
theorem nf_nd {cp dn : Bool} {rs : Rn} : NF (.nd cp dn rs) ↔ 2 ≤ tot (ofRn rs) ∧ RunsOK dn (ofRn rs) := by
  rw [NF, nfr_iff]
  rfl
theorem adjR_snoc {p : P} {n : Nat} : ∀ {l : RL}, Adj l → (∀ t, l.getLast? = some t → er t.1 ≠ er p) → Adj (l ++ [(p, n)])
  | [], _, _ => trivial
  | [(q, m)], _, h => ⟨h (q, m) rfl, trivial⟩
  | (q, m) :: (q2, m2) :: l, a, h => by
    have ih := adjR_snoc (p := p) (n := n) (l := (q2, m2) :: l) a.2 (fun t ht => h t (by rw [List.getLast?_cons_cons]; exact ht))
    exact ⟨a.1, ih⟩
theorem adj_left {a : RL} : ∀ {b : RL}, Adj (a ++ b) → Adj a := by
  induction a with
  | nil => intro b _; trivial
  | cons t a ih =>
    intro b h
    cases a with
    | nil => exact trivial
    | cons u a => exact ⟨h.1, ih h.2⟩
theorem adj_last {q p : P} {m n : Nat} : ∀ {l : RL}, Adj (l ++ [(q, m)]) → er q = er p → Adj (l ++ [(p, n)])
  | [], _, _ => trivial
  | [(a, i)], h, e => ⟨by rw [← e]; exact h.1, trivial⟩
  | (a, i) :: (b, j) :: l, h, e => ⟨h.1, adj_last (l := (b, j) :: l) h.2 e⟩
theorem putL_ok {dn : Bool} {l : RL} {p : P} {n : Nat} (h : RunsOK dn l) (hn : 1 ≤ n) (hp : NF p) (hw : hdw p ≠ some dn) : RunsOK dn (putL l p n) ∧ putL l p n ≠ [] := by
  unfold putL
  rcases List.eq_nil_or_concat l with rfl | ⟨ys, t, rfl⟩
  · refine ⟨⟨trivial, ?_⟩, by simp⟩
    intro t ht
    obtain rfl := List.mem_singleton.mp ht
    exact ⟨hn, hp, hw⟩
  · rw [List.concat_eq_append] at h ⊢
    rw [List.getLast?_concat]
    dsimp only
    by_cases e : eqP t.1 p = true
    · rw [if_pos e, List.dropLast_concat]
      refine ⟨⟨adj_last (q := t.1) (m := t.2) h.1 ((eqP_er _ _).mp e), ?_⟩, by simp⟩
      intro u hu
      rcases List.mem_append.mp hu with z | z
      · exact h.2 u (List.mem_append_left _ z)
      · obtain rfl := List.mem_singleton.mp z
        exact ⟨by show 1 ≤ t.2 + n; omega, hp, hw⟩
    · rw [if_neg e]
      refine ⟨⟨adjR_snoc h.1 ?_, ?_⟩, by simp⟩
      · intro u hu
        rw [List.getLast?_concat] at hu
        cases hu
        exact fun q => e ((eqP_er _ _).mpr q)
      · intro u hu
        rcases List.mem_append.mp hu with z | z
        · exact h.2 u z
        · obtain rfl := List.mem_singleton.mp z
          exact ⟨hn, hp, hw⟩
theorem putRs_ok {dn : Bool} : ∀ {rs l : RL}, RunsOK dn l → (∀ t ∈ rs, 1 ≤ t.2 ∧ NF t.1 ∧ hdw t.1 ≠ some dn) → RunsOK dn (putRs l rs) ∧ (l ≠ [] ∨ rs ≠ [] → putRs l rs ≠ [])
  | [], l, h, _ => ⟨h, fun z => by rcases z with z | z; exact z; exact absurd rfl z⟩
  | (p, n) :: rs, l, h, hr => by
    have h1 := hr (p, n) List.mem_cons_self
    have h2 := putL_ok h h1.1 h1.2.1 h1.2.2
    have h3 := putRs_ok h2.1 (fun t ht => hr t (List.mem_cons_of_mem _ ht))
    exact ⟨h3.1, fun _ => h3.2 (.inl h2.2)⟩
theorem putN_ok {dn : Bool} {rs : RL} (hr : ∀ t ∈ rs, 1 ≤ t.2 ∧ NF t.1 ∧ hdw t.1 ≠ some dn) : ∀ (n : Nat) {l : RL}, RunsOK dn l → RunsOK dn (putN rs n l) ∧ (l ≠ [] ∨ (rs ≠ [] ∧ 1 ≤ n) → putN rs n l ≠ [])
  | 0, l, h => ⟨h, fun z => by rcases z with z | z; exact z; omega⟩
  | n + 1, l, h => by
    have h1 := putRs_ok h hr
    have h2 := putN_ok hr n h1.1
    refine ⟨h2.1, fun z => h2.2 (.inl (h1.2 ?_))⟩
    rcases z with z | z
    · exact .inl z
    · exact .inr z.1
theorem putC_ok {dn : Bool} {l : RL} {p : P} {n : Nat} (h : RunsOK dn l) (hn : 1 ≤ n) (hp : NF p) : RunsOK dn (putC dn l p n) ∧ putC dn l p n ≠ [] := by
  cases p with
  | one =>
    rw [putC]
    exact putL_ok h hn hp (by simp [hdw])
  | nd cp d rs =>
    by_cases hd : d = dn
    · subst hd
      have h2 := nf_nd.mp hp
      have h3 : ofRn rs ≠ [] := by
        intro e
        rw [e] at h2
        exact absurd h2.1 (by simp [tot])
      have h4 := putN_ok h2.2.2 n h
      have h5 : RunsOK d (putN (ofRn rs) n l) ∧ putN (ofRn rs) n l ≠ [] := ⟨h4.1, h4.2 (.inr ⟨h3, hn⟩)⟩
      match rs with
      | .nil => simpa [putC] using h5
      | .cons m q .nil =>
        rw [show putC d l (.nd cp d (.cons m q .nil)) n = putL l q (m * n) by simp [putC]]
        have h6 := h2.2.2 (q, m) (by simp [ofRn])
        exact putL_ok h (Nat.mul_le_mul h6.1 hn) h6.2.1 h6.2.2
      | .cons m q (.cons a b c) => simpa [putC] using h5
    · rw [show putC dn l (.nd cp d rs) n = putL l (.nd cp d rs) n by simp [putC, hd]]
      exact putL_ok h hn hp (by simp [hdw, hd])
theorem joinL_ok {dn : Bool} : ∀ {ps l : RL}, RunsOK dn l → (∀ t ∈ ps, 1 ≤ t.2 ∧ NF t.1) → RunsOK dn (ps.foldl (fun l t => putC dn l t.1 t.2) l) ∧ (l ≠ [] ∨ ps ≠ [] → ps.foldl (fun l t => putC dn l t.1 t.2) l ≠ [])
  | [], l, h, _ => ⟨h, fun z => by rcases z with z | z; exact z; exact absurd rfl z⟩
  | (p, n) :: ps, l, h, hr => by
    have h1 := hr (p, n) List.mem_cons_self
    have h2 := putC_ok h h1.1 h1.2
    have h3 := joinL_ok (ps := ps) h2.1 (fun t ht => hr t (List.mem_cons_of_mem _ ht))
    exact ⟨h3.1, fun _ => h3.2 (.inl h2.2)⟩
theorem tot_len {dn : Bool} : ∀ {l : RL}, (∀ t ∈ l, 1 ≤ t.2 ∧ NF t.1 ∧ hdw t.1 ≠ some dn) → l.length ≤ tot l
  | [], _ => Nat.le_refl _
  | (p, n) :: l, h => by
    have h1 := h (p, n) List.mem_cons_self
    have h2 := tot_len (l := l) fun t ht => h t (List.mem_cons_of_mem _ ht)
    rw [List.length_cons, tot]
    omega
theorem joinF_nf {dn : Bool} {l : RL} (h : RunsOK dn l) (h0 : l ≠ []) : NF (joinF dn l) := by
  by_cases h1 : l.length = 1
  · match l, h1 with
    | [(p, n)], _ =>
      have h2 := h.2 (p, n) List.mem_cons_self
      by_cases hn : n = 1
      · subst hn
        rw [joinF_1]
        exact h2.2.1
      · rw [joinF_n hn, nf_nd, ofRn_to]
        exact ⟨by simp [tot]; omega, h⟩
  · rw [joinF_m h1, nf_nd, ofRn_to]
    have := tot_len h.2
    have h3 := List.length_pos_iff.mpr h0
    exact ⟨by omega, h⟩
theorem joinP_nf {dn : Bool} {ps : RL} (h0 : ps ≠ []) (h : ∀ t ∈ ps, 1 ≤ t.2 ∧ NF t.1) : NF (joinP dn ps) := by
  have h1 := joinL_ok (dn := dn) (l := []) ⟨trivial, fun t ht => by cases ht⟩ h
  exact joinF_nf h1.1 (h1.2 (.inr h0))
mutual
theorem nf_nf : ∀ {p : P}, p.ok → NF (nf p)
  | .one, _ => by rw [nf, NF]; trivial
  | .nd cp dn rs, h => by
    rw [P.ok] at h
    rw [nf]
    refine joinP_nf ?_ (nfR_nf h.2)
    cases rs with
    | nil => exact absurd rfl h.1
    | cons n p r => rw [nfR]; simp
theorem nfR_nf : ∀ {r : Rn}, r.ok → ∀ t ∈ nfR r, 1 ≤ t.2 ∧ NF t.1
  | .nil, _, t, ht => by rw [nfR] at ht; cases ht
  | .cons n p r, h, t, ht => by
    rw [Rn.ok] at h
    rw [nfR] at ht
    rcases List.mem_cons.mp ht with rfl | ht
    · exact ⟨h.1, nf_nf h.2.1⟩
    · exact nfR_nf h.2.2 t ht
end
theorem rv_mem {α : Type} {b : Bool} {l : List α} {x : α} : x ∈ rvL b l ↔ x ∈ l := by
  unfold rvL
  cases b <;> simp
theorem rv_ne {α : Type} {b : Bool} {l : List α} (h : l ≠ []) : rvL b l ≠ [] := by
  unfold rvL
  cases b <;> simp [h]
mutual
theorem tF_nf (t : Tn) : ∀ {p : P}, NF p → NF (tF t p)
  | .one, _ => by rw [tF, NF]; trivial
  | .nd cp dn rs, h => by
    have h2 := nf_nd.mp h
    rw [NF] at h
    rw [tF]
    refine joinP_nf (rv_ne ?_) fun u hu => tR_nf t h.2.2 u (rv_mem.mp hu)
    cases rs with
    | nil => exact absurd h2.1 (by simp [ofRn, tot])
    | cons n p r => rw [tR]; simp
theorem tR_nf (t : Tn) {dn : Bool} : ∀ {r : Rn}, NFR dn r → ∀ u ∈ tR t r, 1 ≤ u.2 ∧ NF u.1
  | .nil, _, u, hu => by rw [tR] at hu; cases hu
  | .cons n p r, h, u, hu => by
    rw [NFR] at h
    rw [tR] at hu
    rcases List.mem_cons.mp hu with rfl | hu
    · exact ⟨h.1.1, tF_nf t h.1.2.1⟩
    · exact tR_nf t h.2 u hu
end
mutual
theorem nf_ok : ∀ {p : P}, NF p → p.ok
  | .one, _ => by rw [P.ok]; trivial
  | .nd cp dn rs, h => by
    have h2 := nf_nd.mp h
    rw [NF] at h
    rw [P.ok]
    refine ⟨?_, nfr_ok h.2.2⟩
    intro e
    subst e
    exact absurd h2.1 (by simp [ofRn, tot])
theorem nfr_ok {dn : Bool} : ∀ {r : Rn}, NFR dn r → r.ok
  | .nil, _ => by rw [Rn.ok]; trivial
  | .cons n p r, h => by
    rw [NFR] at h
    rw [Rn.ok]
    exact ⟨h.1.1, nf_ok h.1.2.1, nfr_ok h.2⟩
end
/-! ### what is laid so cannot be laid otherwise -/
def Ind (dn : Bool) (o : L) : Prop := ∀ A B, A ≠ [] → B ≠ [] → Rg A → Rg B → o ≠ comb dn A B
theorem Pm.rg {o : L} (h : Pm o) : Rg o := fun x hx => (Pm.mem h).mp hx
theorem hd_la {dn : Bool} {A B : L} (hA : A ≠ []) (hB : B ≠ []) (rA : Rg A) (rB : Rg B) : if dn then la (comb dn A B) < hd (comb dn A B) else hd (comb dn A B) < la (comb dn A B) := by
  rw [hd_comb hA, la_comb hB]
  have h1 := rA _ (hd_mem hA)
  have h2 := rB _ (la_mem hB)
  cases dn <;> simp <;> omega
theorem ind_of {dn : Bool} {A B : L} (hA : A ≠ []) (hB : B ≠ []) (rA : Rg A) (rB : Rg B) : Ind (!dn) (comb dn A B) := by
  intro C D hC hD rC rD e
  have h1 := hd_la (dn := dn) hA hB rA rB
  have h2 := hd_la (dn := !dn) hC hD rC rD
  rw [← e] at h2
  cases dn <;> simp at h1 h2 <;> omega
theorem ind_one (dn : Bool) : Ind dn [0] := by
  intro A B hA hB _ _ e
  have := congrArg List.length e
  rw [comb_len] at this
  have h1 := List.length_pos_iff.mpr hA
  have h2 := List.length_pos_iff.mpr hB
  simp at this
  omega
theorem comb_ne2 {dn : Bool} {A B : L} (h : B ≠ []) : comb dn A B ≠ [] := by
  intro e
  have := congrArg List.length e
  rw [comb_len, List.length_nil] at this
  have h2 := List.length_pos_iff.mpr h
  omega
theorem sh_inj {c : Int} {a b : L} (h : sh c a = sh c b) : a = b := by
  have := congrArg (sh (-c)) h
  rw [sh_sh, sh_sh] at this
  simpa [Int.add_left_neg, sh_zero] using this
/-- the shorter first one cuts the longer one -/
theorem cut_lt {dn : Bool} {A R A' R' : L} (hA : A ≠ []) (rA : Rg A) (rR : Rg R) (rA' : Rg A') (h : comb dn A R = comb dn A' R') (hl : A.length < A'.length) : ¬ Ind dn A' := by
  intro ind
  have hlen := congrArg List.length h
  rw [comb_len, comb_len] at hlen
  cases dn with
  | false =>
    have h : A ++ sh A.length R = A' ++ sh A'.length R' := h
    obtain ⟨M, e1, e2⟩ : ∃ M, A' = A ++ M ∧ sh A.length R = M ++ sh A'.length R' := by
      rcases List.append_eq_append_iff.mp h with ⟨M, e1, e2⟩ | ⟨M, e1, e2⟩
      · exact ⟨M, e1, e2⟩
      · have := congrArg List.length e1
        simp at this
        omega
    have hM : M ≠ [] := by
      intro e
      subst e
      rw [List.append_nil] at e1
      rw [e1] at hl
      omega
    have hb : M = sh A.length (sh (-(A.length : Int)) M) := by
      rw [sh_sh, Int.add_right_neg, sh_zero]
    refine ind A (sh (-(A.length : Int)) M) hA (sh_ne hM) rA ?_ ?_
    · intro y hy
      obtain ⟨x, hx, rfl⟩ := List.mem_map.mp hy
      have h1 := rA' x (by rw [e1]; exact List.mem_append_right _ hx)
      have h2 : x ∈ sh A.length R := by rw [e2]; exact List.mem_append_left _ hx
      obtain ⟨z, hz, rfl⟩ := List.mem_map.mp h2
      have h3 := rR z hz
      have h4 := congrArg List.length e1
      simp at h4 ⊢
      omega
    · show A' = A ++ sh A.length (sh (-(A.length : Int)) M)
      rw [← hb]
      exact e1
  | true =>
    have h : sh R.length A ++ R = sh R'.length A' ++ R' := h
    obtain ⟨M, e1, e2⟩ : ∃ M, sh R'.length A' = sh R.length A ++ M ∧ R = M ++ R' := by
      rcases List.append_eq_append_iff.mp h with ⟨M, e1, e2⟩ | ⟨M, e1, e2⟩
      · exact ⟨M, e1, e2⟩
      · have := congrArg List.length e1
        simp at this
        omega
    have hM : M ≠ [] := by
      intro e
      subst e
      have := congrArg List.length e1
      simp at this
      omega
    have hR : (R.length : Int) = M.length + R'.length := by rw [e2]; simp
    have e3 : A' = sh M.length A ++ sh (-(R'.length : Int)) M := by
      have := congrArg (sh (-(R'.length : Int))) e1
      rw [sh_sh, Int.add_left_neg, sh_zero, sh_append, sh_sh, hR] at this
      rw [this]
      congr 2
      omega
    refine ind A (sh (-(R'.length : Int)) M) hA (sh_ne hM) rA ?_ ?_
    · intro y hy
      have h1 := rA' y (by rw [e3]; exact List.mem_append_right _ hy)
      obtain ⟨x, hx, rfl⟩ := List.mem_map.mp hy
      have h2 := rR x (by rw [e2]; exact List.mem_append_left _ hx)
      simp at h1 ⊢
      omega
    · show A' = sh (sh (-(R'.length : Int)) M).length A ++ sh (-(R'.length : Int)) M
      rw [sh_len]
      exact e3
theorem comb_cancel {dn : Bool} {A R A' R' : L} (h : comb dn A R = comb dn A' R') (hl : A.length = A'.length) : A = A' ∧ R = R' := by
  have hlen := congrArg List.length h
  rw [comb_len, comb_len] at hlen
  cases dn with
  | false =>
    have h : A ++ sh A.length R = A' ++ sh A'.length R' := h
    obtain ⟨h1, h2⟩ := List.append_inj h hl
    subst h1
    exact ⟨rfl, sh_inj h2⟩
  | true =>
    have h : sh R.length A ++ R = sh R'.length A' ++ R' := h
    obtain ⟨h1, h2⟩ := List.append_inj h (by simp [hl])
    subst h2
    exact ⟨sh_inj h1, rfl⟩
theorem lay_inj {dn : Bool} : ∀ {os os' : List L}, (∀ o ∈ os, o ≠ [] ∧ Pm o ∧ Ind dn o) → (∀ o ∈ os', o ≠ [] ∧ Pm o ∧ Ind dn o) → lay dn os = lay dn os' → os = os'
  | [], [], _, _, _ => rfl
  | [], o :: os, _, h, e => by
    rw [lay_nil, lay_cons] at e
    exact absurd e.symm (comb_ne (h o List.mem_cons_self).1)
  | o :: os, [], h, _, e => by
    rw [lay_nil, lay_cons] at e
    exact absurd e (comb_ne (h o List.mem_cons_self).1)
  | o :: os, o' :: os', h, h', e => by
    rw [lay_cons, lay_cons] at e
    have a := h o List.mem_cons_self
    have a' := h' o' List.mem_cons_self
    have r : Pm (lay dn os) := lay_pm fun x hx => (h x (List.mem_cons_of_mem _ hx)).2.1
    have r' : Pm (lay dn os') := lay_pm fun x hx => (h' x (List.mem_cons_of_mem _ hx)).2.1
    rcases Nat.lt_trichotomy o.length o'.length with z | z | z
    · exact absurd a'.2.2 (cut_lt a.1 a.2.1.rg r.rg a'.2.1.rg e z)
    · obtain ⟨e1, e2⟩ := comb_cancel e z
      rw [e1, lay_inj (fun x hx => h x (List.mem_cons_of_mem _ hx)) (fun x hx => h' x (List.mem_cons_of_mem _ hx)) e2]
    · exact absurd a.2.2 (cut_lt a'.1 a'.2.1.rg r'.rg a.2.1.rg e.symm z)
end M06
end
section
/-! M13: two normal forms of one order are one; heights, lengths. -/
namespace M06
theorem ok_ne {p : P} (h : p.ok) : p.ord ≠ [] := (allG p h).ne
theorem ok_size {p : P} (h : p.ok) : p.size = p.ord.length := (allG p h).size
theorem NF.ne {p : P} (h : NF p) : p.ord ≠ [] := ok_ne (nf_ok h)
theorem fl_len : ∀ l : RL, (fl l).length = tot l
  | [] => rfl
  | (p, n) :: l => by rw [fl_cons, tot, List.length_append, List.length_replicate, fl_len l]
theorem fl_ne {dn : Bool} {l : RL} (h : RunsOK dn l) : ∀ o ∈ fl l, o ≠ [] := by
  intro o ho
  unfold fl at ho
  obtain ⟨t, h1, h2⟩ := List.mem_flatMap.mp ho
  rw [(List.mem_replicate.mp h2).2]
  exact (h.2 t h1).2.1.ne
theorem nf_comb {cp dn : Bool} {rs : Rn} (h : NF (.nd cp dn rs)) : ∃ A B, A ≠ [] ∧ B ≠ [] ∧ Pm A ∧ Pm B ∧ (P.nd cp dn rs).ord = comb dn A B := by
  have h2 := nf_nd.mp h
  have hl := fl_len (ofRn rs)
  have hn := fl_ne h2.2
  have hp := fl_pm (ofRn rs)
  rw [nd_ord]
  match hf : fl (ofRn rs) with
  | [] => rw [hf] at hl; simp at hl; omega
  | [a] => rw [hf] at hl; simp at hl; omega
  | a :: b :: os =>
    rw [hf] at hn hp
    refine ⟨a, lay dn (b :: os), hn a (by simp), ?_, hp a (by simp), lay_pm fun x hx => hp x (List.mem_cons_of_mem _ hx), by rw [lay_cons]⟩
    rw [lay_cons]
    exact comb_ne (hn b (by simp))
theorem nf_dir {cp dn : Bool} {rs : Rn} (h : NF (.nd cp dn rs)) : if dn then la (P.nd cp dn rs).ord < hd (P.nd cp dn rs).ord else hd (P.nd cp dn rs).ord < la (P.nd cp dn rs).ord := by
  obtain ⟨A, B, hA, hB, pA, pB, e⟩ := nf_comb h
  rw [e]
  exact hd_la hA hB pA.rg pB.rg
theorem nf_ind {p : P} {dn : Bool} (h : NF p) (hw : hdw p ≠ some dn) : Ind dn p.ord := by
  cases p with
  | one => rw [P.ord]; exact ind_one dn
  | nd cp d rs =>
    obtain ⟨A, B, hA, hB, pA, pB, e⟩ := nf_comb h
    have : dn = !d := by
      have : d ≠ dn := fun z => hw (by rw [z]; rfl)
      cases d <;> cases dn <;> first | rfl | (exact absurd rfl this)
    rw [e, this]
    exact ind_of hA hB pA.rg pB.rg
theorem fl_ind {dn : Bool} {l : RL} (h : RunsOK dn l) : ∀ o ∈ fl l, o ≠ [] ∧ Pm o ∧ Ind dn o := by
  intro o ho
  refine ⟨fl_ne h o ho, fl_pm l o ho, ?_⟩
  unfold fl at ho
  obtain ⟨t, h1, h2⟩ := List.mem_flatMap.mp ho
  rw [(List.mem_replicate.mp h2).2]
  exact nf_ind (h.2 t h1).2.1 (h.2 t h1).2.2
theorem RunsOK.tail {dn : Bool} {t : P × Nat} {l : RL} (h : RunsOK dn (t :: l)) : RunsOK dn l := by
  refine ⟨?_, fun u hu => h.2 u (List.mem_cons_of_mem _ hu)⟩
  have := h.1
  cases l with
  | nil => exact trivial
  | cons u l => exact this.2
theorem rep_head {o : L} {n : Nat} {l : List L} (h : 1 ≤ n) : ∃ l', List.replicate n o ++ l = o :: l' := by
  cases n with
  | zero => omega
  | succ n => exact ⟨_, rfl⟩
mutual
theorem uniq : ∀ {p q : P}, NF p → NF q → p.ord = q.ord → er p = er q
  | .one, .one, _, _, _ => rfl
  | .one, .nd cp d r, _, h, e => by
    obtain ⟨A, B, hA, hB, _, _, e2⟩ := nf_comb h
    rw [P.ord] at e
    rw [← e] at e2
    have := congrArg List.length e2
    rw [comb_len] at this
    have h1 := List.length_pos_iff.mpr hA
    have h2 := List.length_pos_iff.mpr hB
    simp at this
    omega
  | .nd cp d r, .one, h, _, e => by
    obtain ⟨A, B, hA, hB, _, _, e2⟩ := nf_comb h
    have e3 : P.one.ord = [0] := by rw [P.ord]
    rw [e, e3] at e2
    have := congrArg List.length e2
    rw [comb_len] at this
    have h1 := List.length_pos_iff.mpr hA
    have h2 := List.length_pos_iff.mpr hB
    simp at this
    omega
  | .nd cp d r, .nd cp' d' s, h, h', e => by
    have a := nf_dir h
    have a' := nf_dir h'
    rw [← e] at a'
    have ed : d = d' := by
      cases d <;> cases d' <;> first | rfl | (simp at a a'; omega)
    subst ed
    have b := (nf_nd.mp h).2
    have b' := (nf_nd.mp h').2
    rw [nd_ord, nd_ord] at e
    have := uniqR b b' (lay_inj (fl_ind b) (fl_ind b') e)
    rw [er, er, this]
theorem uniqR {dn : Bool} : ∀ {r s : Rn}, RunsOK dn (ofRn r) → RunsOK dn (ofRn s) → fl (ofRn r) = fl (ofRn s) → erR r = erR s
  | .nil, .nil, _, _, _ => rfl
  | .nil, .cons m q s, _, h, e => by
    rw [ofRn, ofRn, fl_nil, fl_cons] at e
    obtain ⟨l', e2⟩ := rep_head (o := q.ord) (l := fl (ofRn s)) (h.2 (q, m) (by rw [ofRn]; exact List.mem_cons_self)).1
    rw [e2] at e
    cases e
  | .cons n p r, .nil, h, _, e => by
    rw [ofRn, ofRn, fl_nil, fl_cons] at e
    obtain ⟨l', e2⟩ := rep_head (o := p.ord) (l := fl (ofRn r)) (h.2 (p, n) (by rw [ofRn]; exact List.mem_cons_self)).1
    rw [e2] at e
    cases e
  | .cons n p r, .cons m q s, h, h', e => by
    rw [ofRn] at h h' e
    rw [show ofRn (.cons m q s) = (q, m) :: ofRn s from rfl] at e
    have a := h.2 (p, n) List.mem_cons_self
    have a' := h'.2 (q, m) List.mem_cons_self
    rw [fl_cons, fl_cons] at e
    have eo : p.ord = q.ord := by
      obtain ⟨l1, e1⟩ := rep_head (o := p.ord) (l := fl (ofRn r)) a.1
      obtain ⟨l2, e2⟩ := rep_head (o := q.ord) (l := fl (ofRn s)) a'.1
      rw [e1, e2] at e
      exact (List.cons.inj e).1
    have ee := uniq a.2.1 a'.2.1 eo
    have en : n = m := by
      rcases Nat.lt_trichotomy n m with z | z | z
      · obtain ⟨d, rfl⟩ : ∃ d, m = n + (d + 1) := ⟨m - n - 1, by omega⟩
        rw [eo, ← List.replicate_append_replicate, List.append_assoc] at e
        have e3 := List.append_cancel_left e
        cases r with
        | nil => rw [ofRn, fl_nil, List.replicate_succ] at e3; cases e3
        | cons n' p' r' =>
          have b := h.2 (p', n') (by rw [ofRn]; exact List.mem_cons_of_mem _ List.mem_cons_self)
          rw [ofRn, fl_cons] at e3
          obtain ⟨l1, e1⟩ := rep_head (o := p'.ord) (l := fl (ofRn r')) b.1
          rw [e1, List.replicate_succ] at e3
          have e4 := (List.cons.inj e3).1
          have := uniq a.2.1 b.2.1 (by rw [e4, eo])
          have c := h.1
          rw [ofRn] at c
          exact absurd this c.1
      · exact z
      · obtain ⟨d, rfl⟩ : ∃ d, n = m + (d + 1) := ⟨n - m - 1, by omega⟩
        rw [eo, ← List.replicate_append_replicate, List.append_assoc] at e
        have e3 := List.append_cancel_left e
        cases s with
        | nil => rw [ofRn, fl_nil, List.replicate_succ] at e3; cases e3
        | cons n' p' r' =>
          have b := h'.2 (p', n') (by rw [ofRn]; exact List.mem_cons_of_mem _ List.mem_cons_self)
          rw [show ofRn (.cons n' p' r') = (p', n') :: ofRn r' from rfl, fl_cons] at e3
          obtain ⟨l1, e1⟩ := rep_head (o := p'.ord) (l := fl (ofRn r')) b.1
          rw [e1, List.replicate_succ] at e3
          have e4 := (List.cons.inj e3).1
          have := uniq a.2.1 b.2.1 (by rw [← e4, eo])
          have c := h'.1
          rw [ofRn] at c
          rw [ee] at this
          exact absurd this c.1
    subst en
    rw [eo] at e
    have e5 := List.append_cancel_left e
    have := uniqR h.tail h'.tail e5
    rw [erR, erR, ee, this]
end
theorem eqP_dec {p q : P} (hp : NF p) (hq : NF q) : eqP p q = decide (p.ord = q.ord) := by
  by_cases h : p.ord = q.ord
  · rw [decide_eq_true h]
    exact (eqP_er p q).mpr (uniq hp hq h)
  · rw [decide_eq_false h]
    cases e : eqP p q with
    | false => rfl
    | true => exact absurd (eqP_ord e) h
/-! heights, lengths -/
mutual
def ht : P → Nat
  | .one => 0
  | .nd _ _ rs => htR rs + 1
def htR : Rn → Nat
  | .nil => 0
  | .cons _ p r => max (ht p) (htR r)
end
mutual
def lenP : P → Nat
  | .one => 0
  | .nd _ _ rs => lenRn rs
def lenRn : Rn → Nat
  | .nil => 0
  | .cons _ p r => 1 + lenP p + lenRn r
end
theorem htR_le {h : Nat} : ∀ {r : Rn}, htR r ≤ h ↔ ∀ t ∈ ofRn r, ht t.1 ≤ h
  | .nil => by simp [htR, ofRn]
  | .cons n p r => by
    have ih := htR_le (h := h) (r := r)
    rw [htR, ofRn, List.forall_mem_cons, ← ih]
    show max (ht p) (htR r) ≤ h ↔ ht p ≤ h ∧ htR r ≤ h
    omega
theorem htR_to {h : Nat} {l : RL} : htR (toRn l) ≤ h ↔ ∀ t ∈ l, ht t.1 ≤ h := by rw [htR_le, ofRn_to]
theorem putL_ht {h : Nat} {l : RL} {p : P} {n : Nat} (hl : ∀ t ∈ l, ht t.1 ≤ h) (hp : ht p ≤ h) : ∀ t ∈ putL l p n, ht t.1 ≤ h := by
  unfold putL
  intro t ht'
  split at ht'
  · split at ht'
    · rcases List.mem_append.mp ht' with z | z
      · exact hl t ((List.dropLast_sublist l).mem z)
      · obtain rfl := List.mem_singleton.mp z
        exact hp
    · rcases List.mem_append.mp ht' with z | z
      · exact hl t z
      · obtain rfl := List.mem_singleton.mp z
        exact hp
  · obtain rfl := List.mem_singleton.mp ht'
    exact hp
theorem putRs_ht {h : Nat} : ∀ {rs l : RL}, (∀ t ∈ l, ht t.1 ≤ h) → (∀ t ∈ rs, ht t.1 ≤ h) → ∀ t ∈ putRs l rs, ht t.1 ≤ h
  | [], l, hl, _ => hl
  | (p, n) :: rs, l, hl, hr => putRs_ht (rs := rs) (putL_ht hl (hr (p, n) List.mem_cons_self)) fun t z => hr t (List.mem_cons_of_mem _ z)
theorem putN_ht {h : Nat} {rs : RL} (hr : ∀ t ∈ rs, ht t.1 ≤ h) : ∀ (n : Nat) {l : RL}, (∀ t ∈ l, ht t.1 ≤ h) → ∀ t ∈ putN rs n l, ht t.1 ≤ h
  | 0, l, hl => hl
  | n + 1, l, hl => putN_ht hr n (putRs_ht hl hr)
theorem putC_ht {h : Nat} {dn : Bool} {l : RL} {p : P} {n : Nat} (hl : ∀ t ∈ l, ht t.1 ≤ h) (hp : ht p ≤ h) : ∀ t ∈ putC dn l p n, ht t.1 ≤ h := by
  cases p with
  | one => rw [putC]; exact putL_ht hl hp
  | nd cp d rs =>
    by_cases hd : d = dn
    · subst hd
      rw [ht] at hp
      have h1 := htR_le.mp (show htR rs ≤ h by omega)
      have h2 := putN_ht h1 n hl
      match rs with
      | .nil => simpa [putC] using h2
      | .cons m q .nil =>
        rw [show putC d l (.nd cp d (.cons m q .nil)) n = putL l q (m * n) by simp [putC]]
        exact putL_ht hl (h1 (q, m) (by simp [ofRn]))
      | .cons m q (.cons a b c) => simpa [putC] using h2
    · rw [show putC dn l (.nd cp d rs) n = putL l (.nd cp d rs) n by simp [putC, hd]]
      exact putL_ht hl hp
theorem joinL_ht {h : Nat} {dn : Bool} : ∀ {ps l : RL}, (∀ t ∈ l, ht t.1 ≤ h) → (∀ t ∈ ps, ht t.1 ≤ h) → ∀ t ∈ ps.foldl (fun l t => putC dn l t.1 t.2) l, ht t.1 ≤ h
  | [], l, hl, _ => hl
  | (p, n) :: ps, l, hl, hp => joinL_ht (ps := ps) (putC_ht hl (hp (p, n) List.mem_cons_self)) fun t z => hp t (List.mem_cons_of_mem _ z)
theorem joinP_ht {h : Nat} {dn : Bool} {ps : RL} (hp : ∀ t ∈ ps, ht t.1 ≤ h) : ht (joinP dn ps) ≤ h + 1 := by
  have h1 := joinL_ht (dn := dn) (l := []) (fun t z => by cases z) hp
  unfold joinP joinL
  generalize ps.foldl (fun l t => putC dn l t.1 t.2) [] = l at h1
  by_cases h2 : l.length = 1
  · match l, h2 with
    | [(p, n)], _ =>
      by_cases hn : n = 1
      · subst hn
        rw [joinF_1]
        exact Nat.le_succ_of_le (h1 (p, 1) List.mem_cons_self)
      · rw [joinF_n hn, ht]
        exact Nat.succ_le_succ (htR_to.mpr h1)
  · rw [joinF_m h2, ht]
    exact Nat.succ_le_succ (htR_to.mpr h1)
mutual
theorem nf_ht : ∀ p : P, ht (nf p) ≤ ht p
  | .one => by rw [nf]; exact Nat.le_refl _
  | .nd cp dn rs => by rw [nf, ht]; exact joinP_ht (nfR_ht rs)
theorem nfR_ht : ∀ r : Rn, ∀ t ∈ nfR r, ht t.1 ≤ htR r
  | .nil, t, h => by rw [nfR] at h; cases h
  | .cons n p r, t, h => by
    rw [nfR] at h
    rw [htR]
    rcases List.mem_cons.mp h with rfl | h
    · have := nf_ht p
      show ht (nf p) ≤ _
      omega
    · have := nfR_ht r t h
      omega
end
mutual
theorem tF_ht (o : Tn) : ∀ p : P, ht (tF o p) ≤ ht p
  | .one => by rw [tF]; exact Nat.le_refl _
  | .nd cp dn rs => by
    rw [tF, ht]
    exact joinP_ht fun t z => tR_ht o rs t (rv_mem.mp z)
theorem tR_ht (o : Tn) : ∀ r : Rn, ∀ t ∈ tR o r, ht t.1 ≤ htR r
  | .nil, t, h => by rw [tR] at h; cases h
  | .cons n p r, t, h => by
    rw [tR] at h
    rw [htR]
    rcases List.mem_cons.mp h with rfl | h
    · have := tF_ht o p
      show ht (tF o p) ≤ _
      omega
    · have := tR_ht o r t h
      omega
end
theorem size1 {p : P} (h : p.ok) : 1 ≤ p.size := by
  rw [ok_size h]
  have := List.length_pos_iff.mpr (ok_ne h)
  omega
mutual
theorem lenP_le : ∀ {p : P}, p.ok → (lenP p : Int) ≤ ht p * p.size
  | .one, _ => by rw [lenP, ht]; simp
  | .nd cp dn rs, h => by
    rw [P.ok] at h
    have ih := lenRn_le h.2 (k := htR rs) (Nat.le_refl _)
    rw [lenP, ht, P.size]
    have e : ((htR rs + 1 : Nat) : Int) = htR rs + 1 := by omega
    rw [e]
    exact ih
theorem lenRn_le : ∀ {r : Rn}, r.ok → ∀ {k : Nat}, htR r ≤ k → (lenRn r : Int) ≤ (k + 1) * r.size
  | .nil, _, k, _ => by rw [lenRn, Rn.size]; simp
  | .cons n p r, h, k, hk => by
    rw [Rn.ok] at h
    rw [htR] at hk
    have h1 := lenP_le h.2.1
    have h2 := lenRn_le h.2.2 (k := k) (by omega)
    have h3 := size1 h.2.1
    have h4 : (ht p : Int) * p.size ≤ k * p.size := Int.mul_le_mul_of_nonneg_right (by omega) (by omega)
    have h5 : ((k : Int) + 1) * p.size ≤ (k + 1) * (n * p.size) := Int.mul_le_mul_of_nonneg_left (by
      have : (1 : Int) * p.size ≤ n * p.size := Int.mul_le_mul_of_nonneg_right (by omega) (by omega)
      omega) (by omega)
    have h6 : ((k : Int) + 1) * p.size = k * p.size + p.size := by rw [Int.add_mul, Int.one_mul]
    rw [lenRn, Rn.size, Int.mul_add]
    push_cast
    omega
end
end M06
end
section
/-! M15: sizes of what is laid. -/
namespace M06
theorem lay_len (dn : Bool) : ∀ os : List L, (lay dn os).length = (os.map List.length).sum
  | [] => rfl
  | o :: os => by rw [lay_cons, comb_len, lay_len dn os, List.map_cons, List.sum_cons]
theorem lay_ge {dn : Bool} : ∀ {os : List L}, (∀ o ∈ os, o ≠ []) → os.length ≤ (lay dn os).length
  | [], _ => Nat.zero_le _
  | o :: os, h => by
    have h1 := List.length_pos_iff.mpr (h o List.mem_cons_self)
    have h2 := lay_ge (dn := dn) (os := os) fun x hx => h x (List.mem_cons_of_mem _ hx)
    rw [lay_cons, comb_len, List.length_cons]
    omega
/-- how many numbers are laid -/
def sz (l : RL) : Nat := (lay false (fl l)).length
theorem sz_lay (dn : Bool) (l : RL) : (lay dn (fl l)).length = sz l := by unfold sz; rw [lay_len, lay_len]
theorem sz_nil : sz [] = 0 := rfl
theorem sz_cons (p : P) (n : Nat) (l : RL) : sz ((p, n) :: l) = n * p.ord.length + sz l := by
  unfold sz
  rw [fl_cons, lay_app, comb_len, lay_len, List.map_replicate]
  simp
theorem sz_rev (l : RL) : sz l.reverse = sz l := by
  unfold sz
  rw [lay_len, lay_len, fl_rev, List.map_reverse, List.sum_reverse]
theorem sz_rv (b : Bool) (l : RL) : sz (rvL b l) = sz l := by
  unfold rvL
  cases b
  · rfl
  · exact sz_rev l
theorem sz_putC (dn : Bool) (l : RL) (p : P) (n : Nat) : sz (putC dn l p n) = sz l + n * p.ord.length := by
  rw [← sz_lay dn, putC_lay, comb_len, sz_lay, lay_len, List.map_replicate]
  simp
theorem sz_join (dn : Bool) (ps : RL) : (joinP dn ps).ord.length = sz ps := by rw [joinP_ord, sz_lay]
theorem sz_nd (cp dn : Bool) (rs : Rn) : (P.nd cp dn rs).ord.length = sz (ofRn rs) := by rw [nd_ord, sz_lay]
theorem RunsOK.len {dn : Bool} {l : RL} (h : RunsOK dn l) : l.length ≤ sz l ∧ ∀ t ∈ l, t.2 ≤ sz l := by
  have h1 := tot_len h.2
  have h2 := lay_ge (dn := dn) (fl_ne h)
  rw [fl_len, sz_lay] at h2
  refine ⟨Nat.le_trans h1 h2, ?_⟩
  intro t ht
  have h3 : ∀ l : RL, t ∈ l → t.2 ≤ tot l := by
    intro l
    induction l with
    | nil => intro h; cases h
    | cons u l ih =>
      intro h
      rcases List.mem_cons.mp h with rfl | h
      · rw [tot]; omega
      · have := ih h
        rw [tot]
        omega
  exact Nat.le_trans (h3 l ht) h2
/-- forms that may be joined: few numbers, not deep -/
structure OkJ (B H : Nat) (ps : RL) : Prop where
  c : ∀ t ∈ ps, 1 ≤ t.2 ∧ NF t.1
  h : ∀ t ∈ ps, ht t.1 ≤ H
  n : sz ps ≤ B
theorem sz_part {l : RL} {t : P × Nat} (ht : t ∈ l) (h1 : 1 ≤ t.2) : t.1.ord.length ≤ sz l := by
  induction l with
  | nil => cases ht
  | cons u l ih =>
    obtain ⟨p, n⟩ := u
    rw [sz_cons]
    rcases List.mem_cons.mp ht with rfl | z
    · have : 1 * p.ord.length ≤ n * p.ord.length := Nat.mul_le_mul_right _ h1
      show p.ord.length ≤ _
      omega
    · have := ih z
      omega
mutual
theorem sz_tR (o : Tn) : ∀ r : Rn, sz (tR o r) = sz (ofRn r)
  | .nil => by rw [tR, ofRn]
  | .cons n p r => by rw [tR, ofRn, sz_cons, sz_cons, sz_tR o r, tF_len o p]
theorem tF_len (o : Tn) : ∀ p : P, (tF o p).ord.length = p.ord.length
  | .one => by rw [tF]
  | .nd cp dn rs => by rw [tF, sz_join, sz_rv, sz_tR o rs, sz_nd]
end
theorem sz_nfR : ∀ r : Rn, sz (nfR r) = sz (ofRn r)
  | .nil => by rw [nfR, ofRn]
  | .cons n p r => by rw [nfR, ofRn, sz_cons, sz_cons, sz_nfR r, nf_ord]
end M06
end
section
/-! M14: a plan written of a form; eight turns. -/
namespace M06
/-- groups of twelve -/
def chunks (ps : List P) : List (List P) := (List.range ((ps.length + 11) / 12)).map fun i => (ps.drop (12 * i)).take 12
theorem chunks_take (ps : List P) : ∀ k : Nat, ((List.range k).map fun i => (ps.drop (12 * i)).take 12).flatten = ps.take (12 * k)
  | 0 => by simp
  | k + 1 => by
    rw [List.range_succ, List.map_append, List.flatten_append, chunks_take ps k, List.map_singleton, List.flatten_singleton, Nat.mul_succ, List.take_add]
theorem chunks_flat (ps : List P) : (chunks ps).flatten = ps := by
  unfold chunks
  rw [chunks_take, List.take_of_length_le (by omega)]
theorem chunks_mem {ps c : List P} (h : c ∈ chunks ps) : c.length ≤ 12 ∧ c ≠ [] ∧ ∀ p ∈ c, p ∈ ps := by
  unfold chunks at h
  obtain ⟨i, hi, rfl⟩ := List.mem_map.mp h
  have := List.mem_range.mp hi
  refine ⟨by simp; omega, ?_, fun p hp => List.mem_of_mem_drop (List.mem_of_mem_take hp)⟩
  intro e
  have := congrArg List.length e
  simp at this
  omega
def grp (dn : Bool) (ps : List P) : List P := (chunks ps).map fun c => .nd false dn (one1 c)
def gs (dn : Bool) (ps : List P) : List P := if 12 < ps.length then grp dn ps else ps
def wrF (dn : Bool) : List P → P
  | [p] => p
  | ps => .nd false dn (one1 ps)
def wrJ (dn : Bool) (ps : List P) : P := wrF dn (gs dn ps)
theorem wrF_m {dn : Bool} : ∀ {ps : List P}, ps.length ≠ 1 → wrF dn ps = .nd false dn (one1 ps)
  | [], _ => rfl
  | [_], h => absurd rfl h
  | _ :: _ :: _, _ => rfl
theorem one_ord (cp dn : Bool) (ps : List P) : (P.nd cp dn (one1 ps)).ord = lay dn (ps.map P.ord) := by
  rw [P.ord, one1_ord]
  rfl
theorem lay_flatten (dn : Bool) : ∀ xs : List (List L), lay dn xs.flatten = lay dn (xs.map (lay dn))
  | [] => rfl
  | x :: xs => by rw [List.flatten_cons, lay_app, lay_flatten dn xs, List.map_cons, lay_cons]
theorem gs_ord (dn : Bool) (ps : List P) : lay dn ((gs dn ps).map P.ord) = lay dn (ps.map P.ord) := by
  unfold gs
  by_cases h : 12 < ps.length
  · rw [if_pos h]
    unfold grp
    rw [List.map_map]
    have e : (chunks ps).map (P.ord ∘ fun c => P.nd false dn (one1 c)) = ((chunks ps).map (List.map P.ord)).map (lay dn) := by
      rw [List.map_map]
      apply List.map_congr_left
      intro c _
      exact one_ord false dn c
    rw [e, ← lay_flatten, ← List.map_flatten, chunks_flat]
  · rw [if_neg h]
theorem wrF_ord (dn : Bool) (ps : List P) : (wrF dn ps).ord = lay dn (ps.map P.ord) := by
  by_cases h : ps.length = 1
  · match ps, h with
    | [p], _ => exact (lay_one dn p.ord).symm
  · rw [wrF_m h, one_ord]
theorem wrJ_ord (dn : Bool) (ps : List P) : (wrJ dn ps).ord = lay dn (ps.map P.ord) := by
  unfold wrJ
  rw [wrF_ord, gs_ord]
mutual
def wr : P → P
  | .one => .one
  | .nd _ dn rs => wrJ dn (wrR dn rs)
def wrR (dn : Bool) : Rn → List P
  | .nil => []
  | .cons n p r => (if n = 1 then wr p else .nd true dn (.cons n (wr p) .nil)) :: wrR dn r
end
mutual
theorem wr_ord : ∀ p : P, (wr p).ord = p.ord
  | .one => by rw [wr]
  | .nd cp dn rs => by rw [wr, wrJ_ord, wrR_ord dn rs, nd_ord]
theorem wrR_ord (dn : Bool) : ∀ r : Rn, lay dn ((wrR dn r).map P.ord) = lay dn (fl (ofRn r))
  | .nil => by rw [wrR, ofRn]; rfl
  | .cons n p r => by
    have e : (if n = 1 then wr p else .nd true dn (.cons n (wr p) .nil)).ord = lay dn (List.replicate n p.ord) := by
      by_cases h : n = 1
      · rw [if_pos h, wr_ord p, h]
        exact (lay_one dn p.ord).symm
      · rw [if_neg h, nd_ord, ofRn, ofRn, fl_one, wr_ord p]
    rw [wrR, List.map_cons, lay_cons, e, wrR_ord dn r, ofRn, fl_cons, lay_app]
end
theorem wrR_len (dn : Bool) : ∀ r : Rn, (wrR dn r).length = (ofRn r).length
  | .nil => by rw [wrR]; rfl
  | .cons n p r => by rw [wrR, ofRn, List.length_cons, List.length_cons, wrR_len dn r]
/-! ### eight turns -/
def tuO (t : Nat) (o : L) : L :=
  let o1 := if t % 2 = 1 then o.reverse else o
  let o2 := if t / 2 % 2 = 1 then upO o1 else o1
  if 4 ≤ t then inO o2 else o2
def tuF (t : Nat) (f : P) : P :=
  let f1 := if t % 2 = 1 then tF .bk f else f
  let f2 := if t / 2 % 2 = 1 then tF .up f1 else f1
  if 4 ≤ t then tF .sw f2 else f2
theorem tuF_ord (t : Nat) (f : P) : (tuF t f).ord = tuO t f.ord := by
  unfold tuF tuO
  dsimp only
  have hb := tF_ord .bk
  have hu := tF_ord .up
  have hs := tF_ord .sw
  by_cases h1 : t % 2 = 1
  · by_cases h2 : t / 2 % 2 = 1
    · by_cases h3 : 4 ≤ t
      · simp only [if_pos h1, if_pos h2, if_pos h3, hb, hu, hs]; rfl
      · simp only [if_pos h1, if_pos h2, if_neg h3, hb, hu, hs]; rfl
    · by_cases h3 : 4 ≤ t
      · simp only [if_pos h1, if_neg h2, if_pos h3, hb, hu, hs]; rfl
      · simp only [if_pos h1, if_neg h2, if_neg h3, hb, hu, hs]; rfl
  · by_cases h2 : t / 2 % 2 = 1
    · by_cases h3 : 4 ≤ t
      · simp only [if_neg h1, if_pos h2, if_pos h3, hb, hu, hs]; rfl
      · simp only [if_neg h1, if_pos h2, if_neg h3, hb, hu, hs]; rfl
    · by_cases h3 : 4 ≤ t
      · simp only [if_neg h1, if_neg h2, if_pos h3, hb, hu, hs]; rfl
      · simp only [if_neg h1, if_neg h2, if_neg h3, hb, hu, hs]
theorem tuF_ind (Q : P → Prop) (h : ∀ o p, Q p → Q (tF o p)) (t : Nat) (f : P) (hf : Q f) : Q (tuF t f) := by
  unfold tuF
  dsimp only
  have a : Q (if t % 2 = 1 then tF .bk f else f) := by
    by_cases h1 : t % 2 = 1
    · rw [if_pos h1]; exact h _ _ hf
    · rw [if_neg h1]; exact hf
  generalize (if t % 2 = 1 then tF .bk f else f) = f1 at a
  have b : Q (if t / 2 % 2 = 1 then tF .up f1 else f1) := by
    by_cases h1 : t / 2 % 2 = 1
    · rw [if_pos h1]; exact h _ _ a
    · rw [if_neg h1]; exact a
  generalize (if t / 2 % 2 = 1 then tF .up f1 else f1) = f2 at b
  by_cases h1 : 4 ≤ t
  · rw [if_pos h1]; exact h _ _ b
  · rw [if_neg h1]; exact b
/-! the eight turns of an order: how they go one behind another -/
def Grp (o : L) : Prop := inO o.reverse = upO (inO o) ∧ inO (upO o) = (inO o).reverse ∧ inO (inO o) = o
theorem fl_mem {l : RL} {o : L} (h : o ∈ fl l) : ∃ t ∈ l, o = t.1.ord := by
  unfold fl at h
  obtain ⟨t, h1, h2⟩ := List.mem_flatMap.mp h
  exact ⟨t, h1, (List.mem_replicate.mp h2).2⟩
theorem fl_pmO (t : Tn) (l : RL) : ∀ o ∈ (fl l).map t.O, Pm o := by
  intro o ho
  obtain ⟨x, hx, rfl⟩ := List.mem_map.mp ho
  obtain ⟨u, _, rfl⟩ := fl_mem hx
  rw [← tF_ord]
  exact ord_pm _
theorem rv_pm {b : Bool} {os : List L} (h : ∀ o ∈ os, Pm o) : ∀ o ∈ rvL b os, Pm o := fun o ho => h o (rv_mem.mp ho)
theorem grp_lay {dn : Bool} {l : RL} (h : ∀ o ∈ fl l, Grp o) : Grp (lay dn (fl l)) := by
  have p0 := fl_pm l
  have b1 : (lay dn (fl l)).reverse = lay (!dn) ((fl l).map Tn.bk.O).reverse := Tn.O_lay .bk dn p0
  have u1 : upO (lay dn (fl l)) = lay (!dn) ((fl l).map Tn.up.O) := Tn.O_lay .up dn p0
  have s1 : inO (lay dn (fl l)) = lay dn (rvL dn ((fl l).map Tn.sw.O)) := Tn.O_lay .sw dn p0
  have sb : inO (lay (!dn) ((fl l).map Tn.bk.O).reverse) = lay (!dn) (rvL (!dn) ((((fl l).map Tn.bk.O).reverse).map Tn.sw.O)) := Tn.O_lay .sw (!dn) fun o ho => fl_pmO .bk l o (List.mem_reverse.mp ho)
  have su : inO (lay (!dn) ((fl l).map Tn.up.O)) = lay (!dn) (rvL (!dn) (((fl l).map Tn.up.O).map Tn.sw.O)) := Tn.O_lay .sw (!dn) (fl_pmO .up l)
  have ss : inO (lay dn (rvL dn ((fl l).map Tn.sw.O))) = lay dn (rvL dn ((rvL dn ((fl l).map Tn.sw.O)).map Tn.sw.O)) := Tn.O_lay .sw dn (rv_pm (fl_pmO .sw l))
  have us : upO (lay dn (rvL dn ((fl l).map Tn.sw.O))) = lay (!dn) ((rvL dn ((fl l).map Tn.sw.O)).map Tn.up.O) := Tn.O_lay .up dn (rv_pm (fl_pmO .sw l))
  have bs : (lay dn (rvL dn ((fl l).map Tn.sw.O))).reverse = lay (!dn) ((rvL dn ((fl l).map Tn.sw.O)).map Tn.bk.O).reverse := Tn.O_lay .bk dn (rv_pm (fl_pmO .sw l))
  have m1 : (fl l).map (Tn.sw.O ∘ Tn.bk.O) = (fl l).map (Tn.up.O ∘ Tn.sw.O) := List.map_congr_left fun o ho => (h o ho).1
  have m2 : (fl l).map (Tn.sw.O ∘ Tn.up.O) = (fl l).map (Tn.bk.O ∘ Tn.sw.O) := List.map_congr_left fun o ho => (h o ho).2.1
  have m3 : (fl l).map (Tn.sw.O ∘ Tn.sw.O) = fl l := by
    have : (fl l).map (Tn.sw.O ∘ Tn.sw.O) = (fl l).map id := List.map_congr_left fun o ho => (h o ho).2.2
    rw [this, List.map_id]
  refine ⟨?_, ?_, ?_⟩
  · rw [b1, sb, s1, us]
    cases dn <;> simp [rvL, List.map_reverse, m1]
  · rw [u1, su, s1, bs]
    cases dn <;> simp [rvL, List.map_reverse, m2]
  · rw [s1, ss]
    cases dn <;> simp [rvL, List.map_reverse, m3]
mutual
theorem grp_ord : ∀ p : P, Grp p.ord
  | .one => by rw [P.ord]; exact ⟨rfl, rfl, rfl⟩
  | .nd cp dn rs => by rw [nd_ord]; exact grp_lay (grp_ordR rs)
theorem grp_ordR : ∀ r : Rn, ∀ o ∈ fl (ofRn r), Grp o
  | .nil, o, h => by rw [ofRn, fl_nil] at h; cases h
  | .cons n p r, o, h => by
    rw [ofRn, fl_cons] at h
    rcases List.mem_append.mp h with z | z
    · rw [(List.mem_replicate.mp z).2]
      exact grp_ord p
    · exact grp_ordR r o z
end
def tb (c b a : Bool) (o : L) : L :=
  let o1 := if a then o.reverse else o
  let o2 := if b then upO o1 else o1
  if c then inO o2 else o2
theorem upO2 (o : L) : upO (upO o) = o := by
  unfold upO
  rw [List.map_map, List.length_map]
  have : o.map ((fun x => (o.length : Int) - 1 - x) ∘ fun x => (o.length : Int) - 1 - x) = o.map id := List.map_congr_left fun x _ => by show (o.length : Int) - 1 - ((o.length : Int) - 1 - x) = x; omega
  rw [this, List.map_id]
theorem up_rev (o : L) : upO o.reverse = (upO o).reverse := by
  unfold upO
  rw [List.length_reverse, List.map_reverse]
/-- a turn behind another one -/
theorem tb_tb {o : L} (G : ∀ b a, Grp (tb false b a o)) (c b a c' b' a' : Bool) : tb c' b' a' (tb c b a o) = if c then tb (!c') (a' != b) (b' != a) o else tb c' (b' != b) (a' != a) o := by
  obtain ⟨p1, p2, p3⟩ := G false false
  obtain ⟨q1, q2, q3⟩ := G false true
  obtain ⟨r1, r2, r3⟩ := G true false
  obtain ⟨s1, s2, s3⟩ := G true true
  simp only [tb, Bool.false_eq_true, if_false, if_true, up_rev, List.reverse_reverse, upO2] at p1 p2 p3 q1 q2 q3 r1 r2 r3 s1 s2 s3
  cases c <;> cases b <;> cases a <;> cases c' <;> cases b' <;> cases a' <;> simp [tb, upO2, up_rev, ← p1, ← p2, p3, ← q1, ← q2, q3, ← r1, ← r2, r3, ← s1, ← s2, s3]
theorem tb_tu (t : Nat) (o : L) : tuO t o = tb (decide (4 ≤ t)) (decide (t / 2 % 2 = 1)) (decide (t % 2 = 1)) o := by
  unfold tuO tb
  simp only [decide_eq_true_eq]
theorem tb_grp (p : P) (c b a : Bool) : Grp (tb c b a p.ord) := by
  have e : tb c b a p.ord = (tuF ((if c then 4 else 0) + (if b then 2 else 0) + if a then 1 else 0) p).ord := by
    rw [tuF_ord, tb_tu]
    cases c <;> cases b <;> cases a <;> rfl
  rw [e]
  exact grp_ord _
abbrev B3 := Bool → Bool → Bool → Bool
def clB (f : B3) : Bool := [false, true].all fun c => [false, true].all fun b => [false, true].all fun a => [false, true].all fun c' => [false, true].all fun b' => [false, true].all fun a' =>
  !(f c b a) || !(f c' b' a') || (if c then f (!c') (a' != b) (b' != a) else f c' (b' != b) (a' != a))
def tbl (x1 x2 x3 x4 x5 x6 x7 : Bool) : B3
  | false, false, false => true
  | false, false, true => x1
  | false, true, false => x2
  | false, true, true => x3
  | true, false, false => x4
  | true, false, true => x5
  | true, true, false => x6
  | true, true, true => x7
def cnB (f : B3) : Nat := [f false false false, f false false true, f false true false, f false true true, f true false false, f true false true, f true true false, f true true true].countP id
theorem tbl_ok : ∀ x1 x2 x3 x4 x5 x6 x7 : Bool, (!(clB (tbl x1 x2 x3 x4 x5 x6 x7)) || [1, 2, 4, 8].contains (cnB (tbl x1 x2 x3 x4 x5 x6 x7))) = true := by decide +kernel
/-- how many turns leave an order as it is -/
theorem stab_len (p : P) : [1, 2, 4, 8].contains ((List.range 8).filter fun t => decide (tuO t p.ord = p.ord)).length = true := by
  have M := tb_tb (o := p.ord) fun b a => tb_grp p false b a
  generalize p.ord = o at M
  have h0 : decide (tb false false false o = o) = true := decide_eq_true rfl
  have hc : clB (fun c b a => decide (tb c b a o = o)) = true := by
    unfold clB
    simp only [List.all_eq_true]
    intro c _ b _ a _ c' _ b' _ a' _
    by_cases h1 : tb c b a o = o
    · by_cases h2 : tb c' b' a' o = o
      · have h3 := M c b a c' b' a'
        rw [h1, h2] at h3
        cases c
        · simp only [Bool.false_eq_true, if_false] at h3 ⊢
          rw [decide_eq_true h3.symm, Bool.or_true]
        · simp only [if_true] at h3 ⊢
          rw [decide_eq_true h3.symm, Bool.or_true]
      · simp [h2]
    · simp [h1]
  have hf : (fun c b a => decide (tb c b a o = o)) = tbl (decide (tb false false true o = o)) (decide (tb false true false o = o)) (decide (tb false true true o = o)) (decide (tb true false false o = o)) (decide (tb true false true o = o)) (decide (tb true true false o = o)) (decide (tb true true true o = o)) := by
    funext c b a
    cases c <;> cases b <;> cases a <;> first | rfl | exact h0
  have k := tbl_ok (decide (tb false false true o = o)) (decide (tb false true false o = o)) (decide (tb false true true o = o)) (decide (tb true false false o = o)) (decide (tb true false true o = o)) (decide (tb true true false o = o)) (decide (tb true true true o = o))
  rw [← hf, hc] at k
  have e : ((List.range 8).filter fun t => decide (tuO t o = o)).length = cnB (fun c b a => decide (tb c b a o = o)) := by
    rw [← List.countP_eq_length_filter]
    rfl
  rw [e]
  simpa using k
end M06
end
section
/-! M16: an order undone, place by place. -/
namespace M06
theorem Pm.nodup {o : L} (h : Pm o) : o.Nodup := by
  have : (M06.rg o.length).Nodup := by
    unfold M06.rg
    unfold List.Nodup
    rw [List.pairwise_map]
    exact List.nodup_range.imp fun h => by omega
  exact (List.Perm.nodup_iff h).mpr this
def bk (l : L) : L → Nat → L
  | [], _ => l
  | x :: r, i => bk (l.set x.toNat i) r (i + 1)
theorem bk_len : ∀ (r l : L) (i : Nat), (bk l r i).length = l.length
  | [], l, i => rfl
  | x :: r, l, i => by rw [bk, bk_len r]; simp
theorem bk_get : ∀ (r l : L) (i v : Nat), r.Nodup → (∀ x ∈ r, 0 ≤ x) → v < l.length → (bk l r i)[v]? = if (v : Int) ∈ r then some ((i + r.idxOf (v : Int) : Nat) : Int) else l[v]?
  | [], l, i, v, _, _, _ => by simp [bk]
  | x :: r, l, i, v, hn, hx, hv => by
    rw [List.nodup_cons] at hn
    have h0 := hx x List.mem_cons_self
    rw [bk, bk_get r _ _ v hn.2 (fun y hy => hx y (List.mem_cons_of_mem _ hy)) (by simpa using hv)]
    by_cases e : (v : Int) = x
    · have h1 : ¬ (v : Int) ∈ r := by rw [e]; exact hn.1
      have h2 : x.toNat = v := by omega
      rw [if_neg h1, if_pos (by rw [e]; exact List.mem_cons_self), h2, List.getElem?_set_self hv, e, List.idxOf_cons_self]
      simp
    · have h2 : ¬ x.toNat = v := by omega
      rw [List.getElem?_set_ne h2, List.idxOf_cons, beq_eq_false_iff_ne.mpr (fun z => e z.symm), cond_false]
      by_cases h3 : (v : Int) ∈ r
      · rw [if_pos h3, if_pos (List.mem_cons_of_mem _ h3)]
        congr 1
        omega
      · rw [if_neg h3, if_neg (by
          intro z
          rcases List.mem_cons.mp z with z | z
          · exact e z
          · exact h3 z)]
theorem bk_in {o : L} (h : Pm o) : bk (List.replicate o.length 0) o 0 = inO o := by
  apply List.ext_getElem?
  intro v
  by_cases hv : v < o.length
  · rw [bk_get o _ 0 v h.nodup (fun x hx => (h.mem.mp hx).1) (by simpa using hv), if_pos (h.mem.mpr ⟨by omega, by omega⟩)]
    unfold inO rg
    rw [List.getElem?_map, List.getElem?_map, List.getElem?_range hv]
    simp
  · rw [List.getElem?_eq_none (by rw [bk_len]; simp; omega), List.getElem?_eq_none (by rw [inO_len]; omega)]
theorem Pm.rev {o : L} (h : Pm o) : Pm o.reverse := by
  unfold Pm
  rw [List.length_reverse]
  exact (List.reverse_perm o).trans h
theorem Pm.up {o : L} (h : Pm o) : Pm (upO o) := by
  unfold Pm
  rw [upO_len]
  refine (List.Perm.map _ h).trans ?_
  have e : (M06.rg o.length).map (fun x => (o.length : Int) - 1 - x) = (M06.rg o.length).reverse := by
    unfold M06.rg
    rw [List.map_map]
    apply List.ext_getElem
    · simp
    · intro i h1 h2
      simp at h1
      simp
      omega
  rw [e]
  exact List.reverse_perm _
def tu2 (t : Nat) (o : L) : L := if t / 2 % 2 = 1 then upO (if t % 2 = 1 then o.reverse else o) else (if t % 2 = 1 then o.reverse else o)
theorem tuO_eq (t : Nat) (o : L) : tuO t o = if 4 ≤ t then inO (tu2 t o) else tu2 t o := rfl
theorem tu2_len (t : Nat) (o : L) : (tu2 t o).length = o.length := by
  unfold tu2
  by_cases h1 : t % 2 = 1 <;> by_cases h2 : t / 2 % 2 = 1 <;> simp [h1, h2]
theorem tu2_pm {t : Nat} {o : L} (h : Pm o) : Pm (tu2 t o) := by
  unfold tu2
  by_cases h1 : t % 2 = 1 <;> by_cases h2 : t / 2 % 2 = 1 <;> simp [h1, h2] <;> first | exact h.rev.up | exact h.rev | exact h.up | exact h
theorem tuO_len (t : Nat) (o : L) : (tuO t o).length = o.length := by
  rw [tuO_eq]
  split
  · rw [inO_len, tu2_len]
  · exact tu2_len t o
end M06
end
section
/-! M17: codes of orders: how many behind are less; back again. -/
namespace M06
theorem below_perm {a b : L} (h : a.Perm b) (x : Int) : below x a = below x b := by
  rw [below_filter, below_filter, (h.filter _).length_eq]
/-- taken out of what is left, one by one -/
def dec : L → L → L
  | _, [] => []
  | left, c :: cs => left.getD c.toNat 0 :: dec (left.eraseIdx c.toNat) cs
def Asc (l : L) : Prop := l.Pairwise (· < ·)
theorem asc_erase {l : L} (h : Asc l) (k : Nat) : Asc (l.eraseIdx k) := h.sublist (List.eraseIdx_sublist l k)
theorem asc_below : ∀ {l : L}, Asc l → ∀ {k : Nat} {x : Int}, l[k]? = some x → below x (l.eraseIdx k) = k ∧ below x l = k
  | [], _, k, x, hx => by simp at hx
  | y :: l, h, 0, x, hx => by
    have hx : y = x := by simpa using hx
    subst hx
    obtain ⟨h1, h2⟩ := List.pairwise_cons.mp h
    have e : below y l = 0 := below_none fun z hz => by have := h1 z hz; omega
    rw [List.eraseIdx_cons_zero, below, e]
    simp [b1]
  | y :: l, h, k + 1, x, hx => by
    have hx : l[k]? = some x := by simpa using hx
    obtain ⟨h1, h2⟩ := List.pairwise_cons.mp h
    have ih := asc_below h2 hx
    have hy := h1 x (List.mem_of_getElem? hx)
    rw [List.eraseIdx_cons_succ, below, below, ih.1, ih.2]
    simp [hy, b1]
    omega
theorem asc_idx : ∀ {l : L}, Asc l → ∀ {x : Int}, x ∈ l → l[(below x l).toNat]? = some x := by
  intro l h x hx
  obtain ⟨k, hk⟩ := List.getElem?_of_mem hx
  rw [(asc_below h hk).2]
  simpa using hk
theorem perm_erase : ∀ {l : L} {k : Nat} {x : Int}, l[k]? = some x → l.Perm (x :: l.eraseIdx k)
  | [], k, x, hx => by simp at hx
  | y :: l, 0, x, hx => by
    have hx : y = x := by simpa using hx
    subst hx
    exact List.Perm.refl _
  | y :: l, k + 1, x, hx => by
    have hx : l[k]? = some x := by simpa using hx
    rw [List.eraseIdx_cons_succ]
    exact ((perm_erase hx).cons y).trans (List.Perm.swap x y _)
theorem below_nn (x : Int) : ∀ l : L, 0 ≤ below x l
  | [] => Int.le_refl _
  | y :: l => by
    have := below_nn x l
    rw [below]
    unfold b1
    split <;> omega
/-- an order's code leads back to it -/
theorem dec_invs : ∀ {o left : L}, Asc left → o.Perm left → dec left (invs o) = o
  | [], left, _, _ => by rw [invs, dec]
  | x :: r, left, h, p => by
    have hx : x ∈ left := p.mem_iff.mp List.mem_cons_self
    have h1 := asc_idx h hx
    have h2 : below x left = below x r := by
      rw [← below_perm p, below]
      unfold b1
      simp
    rw [h2] at h1
    have p2 : r.Perm (left.eraseIdx (below x r).toNat) := (p.trans (perm_erase h1)).cons_inv
    rw [invs, dec, dec_invs (asc_erase h _) p2, List.getD_eq_getElem?_getD, h1]
    rfl
/-- what a code may be -/
def Cd : L → Prop
  | [] => True
  | c :: cs => 0 ≤ c ∧ c < (cs.length : Int) + 1 ∧ Cd cs
theorem dec_cd : ∀ {c left : L}, Cd c → c.length = left.length → Asc left → (dec left c).Perm left ∧ invs (dec left c) = c
  | [], left, _, hl, _ => by
    have : left = [] := List.length_eq_zero_iff.mp hl.symm
    subst this
    exact ⟨List.Perm.refl _, rfl⟩
  | x :: cs, left, h, hl, ha => by
    obtain ⟨h0, h1, h2⟩ := h
    rw [List.length_cons] at hl
    have hk : x.toNat < left.length := by omega
    have hx : left[x.toNat]? = some left[x.toNat] := List.getElem?_eq_getElem hk
    have le : (left.eraseIdx x.toNat).length = left.length - 1 := List.length_eraseIdx_of_lt hk
    obtain ⟨p, e⟩ := dec_cd (left := left.eraseIdx x.toNat) h2 (by rw [le]; omega) (asc_erase ha _)
    have b := (asc_below ha hx).1
    have g : left.getD x.toNat 0 = left[x.toNat] := by rw [List.getD_eq_getElem?_getD, hx]; rfl
    rw [dec, g, invs, e, below_perm p, b]
    refine ⟨?_, by congr 1; omega⟩
    exact (p.cons _).trans (perm_erase hx).symm
theorem invs_cd : ∀ o : L, Cd (invs o)
  | [] => trivial
  | x :: r => by
    have h := below_le x r
    rw [invs]
    have l : (invs r).length = r.length := by
      clear h
      induction r with
      | nil => rfl
      | cons y r ih => rw [invs, List.length_cons, List.length_cons, ih]
    exact ⟨h.1, by rw [l]; have := h.2; omega, invs_cd r⟩
theorem invs_len : ∀ o : L, (invs o).length = o.length
  | [] => rfl
  | x :: r => by rw [invs, List.length_cons, List.length_cons, invs_len r]
theorem rg_asc (n : Nat) : Asc (rg n) := by
  unfold Asc rg
  rw [List.pairwise_map]
  exact List.pairwise_lt_range.imp fun h => by omega
/-! numbers of codes -/
def fac : Nat → Nat
  | 0 => 1
  | n + 1 => (n + 1) * fac n
theorem fac_pos : ∀ n, 1 ≤ fac n
  | 0 => Nat.le_refl _
  | n + 1 => Nat.mul_le_mul (Nat.le_add_left 1 n) (fac_pos n)
/-- the number of a code, found so far -/
def num : Int → L → Int
  | f, [] => f
  | f, c :: cs => num (f * ((cs.length : Int) + 1) + c) cs
/-- digits: by 1, 2, .. -/
def dig : Nat → Nat → Int → L
  | 0, _, _ => []
  | n + 1, r, v => v % ((r : Int) + 1) :: dig n (r + 1) (v / ((r : Int) + 1))
theorem num_lin : ∀ (cs : L) (f : Int), num f cs = f * fac cs.length + num 0 cs
  | [], f => by simp [num, fac]
  | c :: cs, f => by
    have h1 := num_lin cs (f * ((cs.length : Int) + 1) + c)
    have h2 := num_lin cs (0 * ((cs.length : Int) + 1) + c)
    rw [num, num, h1, h2, List.length_cons, fac]
    push_cast
    grind
theorem num_lt : ∀ {cs : L}, Cd cs → 0 ≤ num 0 cs ∧ num 0 cs < fac cs.length
  | [], _ => by simp [num, fac]
  | c :: cs, h => by
    obtain ⟨h0, h1, h2⟩ := h
    have ih := num_lt h2
    have e := num_lin cs (0 * ((cs.length : Int) + 1) + c)
    rw [num, e, List.length_cons, fac]
    have a : (0 : Int) ≤ c * fac cs.length := Int.mul_nonneg h0 (by omega)
    have b : c * (fac cs.length : Int) ≤ cs.length * (fac cs.length : Int) := Int.mul_le_mul_of_nonneg_right (by omega) (by omega)
    push_cast
    have d : ((cs.length : Int) + 1) * (fac cs.length : Int) = cs.length * (fac cs.length : Int) + fac cs.length := by grind
    rw [d]
    have z : (0 * ((cs.length : Int) + 1) + c) = c := by omega
    rw [z]
    omega
theorem dig_num : ∀ {cs : L}, Cd cs → ∀ (n : Nat) (f : Int), 0 ≤ f → dig (cs.length + n) 0 (num f cs) = cs.reverse ++ dig n cs.length f
  | [], _, n, f, _ => by simp [num]
  | c :: cs, h, n, f, hf => by
    obtain ⟨h0, h1, h2⟩ := h
    have a : (0 : Int) ≤ f * ((cs.length : Int) + 1) := Int.mul_nonneg hf (by omega)
    have ih := dig_num h2 (n + 1) (f * ((cs.length : Int) + 1) + c) (by omega)
    have e : (c :: cs).length + n = cs.length + (n + 1) := by rw [List.length_cons]; omega
    have m1 : (f * ((cs.length : Int) + 1) + c) % ((cs.length : Int) + 1) = c := by
      rw [Int.add_comm, Int.add_mul_emod_self_right, Int.emod_eq_of_lt h0 h1]
    have m2 : (f * ((cs.length : Int) + 1) + c) / ((cs.length : Int) + 1) = f := by
      rw [Int.add_comm, Int.add_mul_ediv_right _ _ (by omega), Int.ediv_eq_zero_of_lt h0 h1]
      omega
    rw [num, e, ih, dig, m1, m2, List.reverse_cons, List.append_assoc]
    rfl
theorem dig_code {c : L} (h : Cd c) : (dig c.length 0 (num 0 c)).reverse = c := by
  have := dig_num h 0 0 (Int.le_refl 0)
  rw [Nat.add_zero] at this
  rw [this, dig, List.append_nil, List.reverse_reverse]
theorem num_surj : ∀ (n : Nat) (v : Int), 0 ≤ v → v < fac n → ∃ c, Cd c ∧ c.length = n ∧ num 0 c = v
  | 0, v, h0, h1 => ⟨[], trivial, rfl, by rw [fac] at h1; rw [num]; omega⟩
  | n + 1, v, h0, h1 => by
    have fp := fac_pos n
    have fp' : (0 : Int) < fac n := by omega
    have a := Int.emod_nonneg v (b := (fac n : Int)) (by omega)
    have b := Int.emod_lt_of_pos v fp'
    have d := Int.mul_ediv_add_emod v (fac n)
    obtain ⟨c, c1, c2, c3⟩ := num_surj n (v % fac n) a b
    have q0 : 0 ≤ v / fac n := Int.ediv_nonneg h0 (by omega)
    have q1 : v / fac n < (n : Int) + 1 := by
      apply Int.ediv_lt_of_lt_mul fp'
      rw [fac] at h1
      push_cast at h1
      exact h1
    refine ⟨v / fac n :: c, ⟨q0, by rw [c2]; exact q1, c1⟩, by rw [List.length_cons, c2], ?_⟩
    have e := num_lin c (0 * ((c.length : Int) + 1) + v / fac n)
    rw [num, e, c3, c2]
    have z : (0 * ((n : Int) + 1) + v / fac n) = v / fac n := by omega
    rw [z]
    have m : v / (fac n : Int) * fac n = fac n * (v / fac n) := Int.mul_comm _ _
    omega
end M06
end
section
/-! M18: codes of laid orders, by places. -/
namespace M06
theorem invs_sh (c : Int) : ∀ l : L, invs (sh c l) = invs l
  | [] => rfl
  | x :: l => by rw [sh_cons, invs, invs, below_sh, invs_sh c l]
theorem invs_up : ∀ {a b : L}, (∀ x ∈ a, ∀ y ∈ b, x ≤ y) → invs (a ++ b) = invs a ++ invs b
  | [], b, _ => rfl
  | x :: a, b, h => by
    rw [List.cons_append, invs, invs, below_append, below_none fun y hy => h x List.mem_cons_self y hy, Int.add_zero, invs_up fun z hz => h z (List.mem_cons_of_mem _ hz)]
    rfl
theorem invs_dn : ∀ {a b : L}, (∀ x ∈ a, ∀ y ∈ b, y < x) → invs (a ++ b) = (invs a).map (· + (b.length : Int)) ++ invs b
  | [], b, _ => rfl
  | x :: a, b, h => by
    rw [List.cons_append, invs, invs, below_append, below_all fun y hy => h x List.mem_cons_self y hy, invs_dn fun z hz => h z (List.mem_cons_of_mem _ hz)]
    rfl
theorem invs_comb {dn : Bool} {A B : L} (hA : Pm A) (hB : Pm B) : invs (comb dn A B) = (if dn then (invs A).map (· + (B.length : Int)) else invs A) ++ invs B := by
  cases dn with
  | false =>
    show invs (A ++ sh A.length B) = _
    rw [invs_up, invs_sh]
    · rfl
    · intro x hx y hy
      obtain ⟨z, hz, rfl⟩ := List.mem_map.mp hy
      have := hA.mem.mp hx
      have := hB.mem.mp hz
      omega
  | true =>
    show invs (sh B.length A ++ B) = _
    rw [invs_dn, invs_sh]
    · rfl
    · intro x hx y hy
      obtain ⟨z, hz, rfl⟩ := List.mem_map.mp hx
      have := hA.mem.mp hz
      have := hB.mem.mp hy
      omega
/-- how many ahead are greater -/
def above (x : Int) (l : L) : Int := ((l.filter fun y => decide (x < y)).length : Nat)
def gah (pre : L) : L → L
  | [] => []
  | x :: r => above x pre :: gah (pre ++ [x]) r
theorem gah_len : ∀ (r pre : L), (gah pre r).length = r.length
  | [], _ => rfl
  | x :: r, pre => by rw [gah, List.length_cons, List.length_cons, gah_len r]
theorem above_app (x : Int) (a b : L) : above x (a ++ b) = above x a + above x b := by unfold above; simp
theorem above_none {x : Int} {l : L} (h : ∀ y ∈ l, y ≤ x) : above x l = 0 := by
  unfold above
  rw [List.filter_eq_nil_iff.mpr fun y hy => by have := h y hy; simp; omega]
  rfl
theorem above_all {x : Int} {l : L} (h : ∀ y ∈ l, x < y) : above x l = l.length := by
  unfold above
  rw [List.filter_eq_self.mpr fun y hy => by have := h y hy; simpa using this]
theorem above_sh (c x : Int) (l : L) : above (c + x) (sh c l) = above x l := by
  unfold above sh
  rw [List.filter_map, List.length_map]
  congr 2
  apply List.filter_congr
  intro y _
  simp
theorem gah_app : ∀ (a b pre : L), gah pre (a ++ b) = gah pre a ++ gah (pre ++ a) b
  | [], b, pre => by simp [gah]
  | x :: a, b, pre => by rw [List.cons_append, gah, gah, gah_app a b, List.append_assoc]; rfl
theorem gah_pre : ∀ {r pre q : L} {k : Int}, (∀ x ∈ r, above x q = k) → gah (q ++ pre) r = (gah pre r).map (· + k)
  | [], pre, q, k, _ => rfl
  | x :: r, pre, q, k, h => by
    rw [gah, gah, above_app, h x List.mem_cons_self, List.append_assoc, gah_pre (fun y hy => h y (List.mem_cons_of_mem _ hy)), List.map_cons, Int.add_comm]
theorem gah_sh (c : Int) : ∀ r pre : L, gah (sh c pre) (sh c r) = gah pre r
  | [], _ => rfl
  | x :: r, pre => by
    rw [sh_cons, gah, gah, above_sh, ← gah_sh c r (pre ++ [x]), sh_append]
    simp
theorem gah_comb {dn : Bool} {A B : L} (hA : Pm A) (hB : Pm B) : gah [] (comb dn A B) = gah [] A ++ (if dn then (gah [] B).map (· + (A.length : Int)) else gah [] B) := by
  cases dn with
  | false =>
    show gah [] (A ++ sh A.length B) = _
    rw [gah_app, List.nil_append]
    have e := gah_pre (r := sh A.length B) (pre := []) (q := A) (k := 0) (fun x hx => by
      obtain ⟨z, hz, rfl⟩ := List.mem_map.mp hx
      refine above_none fun y hy => ?_
      have := hA.mem.mp hy
      have := hB.mem.mp hz
      omega)
    have e2 := gah_sh A.length B []
    rw [sh_nil] at e2
    rw [List.append_nil] at e
    rw [e, e2]
    simp
  | true =>
    show gah [] (sh B.length A ++ B) = _
    rw [gah_app, List.nil_append]
    have e := gah_pre (r := B) (pre := []) (q := sh B.length A) (k := A.length) (fun x hx => by
      rw [above_all fun y hy => ?_, sh_len]
      obtain ⟨z, hz, rfl⟩ := List.mem_map.mp hy
      have := hA.mem.mp hz
      have := hB.mem.mp hx
      omega)
    have e2 := gah_sh B.length A []
    rw [sh_nil] at e2
    rw [List.append_nil] at e
    rw [e, e2]
    simp
/-! by places -/
def cB (o : L) (i : Nat) : Int := (invs o).getD i 0
def cA (o : L) (i : Nat) : Int := (gah [] o).getD i 0
theorem gD_app {a b : L} {i : Nat} : (a ++ b).getD i 0 = if i < a.length then a.getD i 0 else b.getD (i - a.length) 0 := by
  by_cases h : i < a.length
  · rw [if_pos h, List.getD_eq_getElem?_getD, List.getD_eq_getElem?_getD, List.getElem?_append_left h]
  · rw [if_neg h, List.getD_eq_getElem?_getD, List.getD_eq_getElem?_getD, List.getElem?_append_right (by omega)]
theorem gD_map {a : L} {i : Nat} {k : Int} (h : i < a.length) : (a.map (· + k)).getD i 0 = a.getD i 0 + k := by
  rw [List.getD_eq_getElem?_getD, List.getD_eq_getElem?_getD, List.getElem?_map, List.getElem?_eq_getElem h]
  rfl
theorem cB_comb {dn : Bool} {A B : L} (hA : Pm A) (hB : Pm B) (i : Nat) : cB (comb dn A B) i = if i < A.length then cB A i + (if dn then (B.length : Int) else 0) else cB B (i - A.length) := by
  unfold cB
  rw [invs_comb hA hB]
  cases dn with
  | false =>
    simp only [Bool.false_eq_true, if_false, Int.add_zero]
    rw [gD_app, invs_len]
  | true =>
    simp only [if_true]
    rw [gD_app, List.length_map, invs_len]
    by_cases h : i < A.length
    · rw [if_pos h, if_pos h, gD_map (by rw [invs_len]; exact h)]
    · rw [if_neg h, if_neg h]
theorem cA_comb {dn : Bool} {A B : L} (hA : Pm A) (hB : Pm B) {i : Nat} (hi : i < A.length + B.length) : cA (comb dn A B) i = if i < A.length then cA A i else cA B (i - A.length) + (if dn then (A.length : Int) else 0) := by
  unfold cA
  rw [gah_comb hA hB, gD_app, gah_len]
  by_cases h : i < A.length
  · rw [if_pos h, if_pos h]
  · rw [if_neg h, if_neg h]
    cases dn with
    | false => simp
    | true =>
      simp only [if_true]
      rw [gD_map (by rw [gah_len]; omega)]
/-! copies, then others -/
theorem rep_pm {n : Nat} {o : L} {os : List L} (ho : Pm o) (h : ∀ x ∈ os, Pm x) : ∀ x ∈ List.replicate n o ++ os, Pm x := by
  intro x hx
  rcases List.mem_append.mp hx with z | z
  · rw [(List.mem_replicate.mp z).2]; exact ho
  · exact h x z
theorem rep_len (dn : Bool) (n : Nat) (o : L) (os : List L) : (lay dn (List.replicate n o ++ os)).length = n * o.length + (lay dn os).length := by
  rw [lay_app, comb_len, lay_len, List.map_replicate]
  simp
theorem cB_rep {dn : Bool} {o : L} {os : List L} (ho : Pm o) (h : ∀ x ∈ os, Pm x) : ∀ (n : Nat) (i : Nat), cB (lay dn (List.replicate n o ++ os)) i =
    if i < n * o.length then cB o (i % o.length) + (if dn then ((n * o.length + (lay dn os).length : Nat) : Int) - ((i / o.length : Nat) + 1) * o.length else 0) else cB (lay dn os) (i - n * o.length)
  | 0, i => by simp
  | n + 1, i => by
    have ih := cB_rep (dn := dn) ho h n
    rw [List.replicate_succ, List.cons_append, lay_cons, cB_comb ho (lay_pm (rep_pm ho h)), rep_len, Nat.succ_mul]
    by_cases h1 : i < o.length
    · have hc : i < n * o.length + o.length := by omega
      rw [if_pos h1, if_pos hc, Nat.mod_eq_of_lt h1, Nat.div_eq_of_lt h1]
      cases dn with
      | false => rfl
      | true =>
        simp
        omega
    · rw [if_neg h1, ih]
      have hp : 0 < o.length ∨ o.length = 0 := by omega
      by_cases h2 : i - o.length < n * o.length
      · have hp : 0 < o.length := by
          rcases Nat.eq_zero_or_pos o.length with z | z
          · rw [z] at h2; simp at h2
          · exact z
        have e1 : i % o.length = (i - o.length) % o.length := by rw [Nat.mod_eq_sub_mod (by omega)]
        have e2 : i / o.length = (i - o.length) / o.length + 1 := by
          rw [Nat.div_eq_sub_div hp (by omega)]
        have hc : i < n * o.length + o.length := by omega
        rw [if_pos h2, if_pos hc, e1, e2]
        cases dn with
        | false => rfl
        | true =>
          simp
          grind
      · have hc : ¬ i < n * o.length + o.length := by omega
        rw [if_neg h2, if_neg hc]
        congr 1
        omega
theorem cA_rep {dn : Bool} {o : L} {os : List L} (ho : Pm o) (h : ∀ x ∈ os, Pm x) : ∀ (n : Nat) (i : Nat), i < n * o.length + (lay dn os).length → cA (lay dn (List.replicate n o ++ os)) i =
    if i < n * o.length then cA o (i % o.length) + (if dn then ((i / o.length * o.length : Nat) : Int) else 0) else cA (lay dn os) (i - n * o.length) + (if dn then ((n * o.length : Nat) : Int) else 0)
  | 0, i, _ => by cases dn <;> simp
  | n + 1, i, hi => by
    rw [Nat.succ_mul] at hi
    rw [List.replicate_succ, List.cons_append, lay_cons, cA_comb ho (lay_pm (rep_pm ho h)) (by rw [rep_len]; omega), Nat.succ_mul]
    by_cases h1 : i < o.length
    · have hc : i < n * o.length + o.length := by omega
      rw [if_pos h1, if_pos hc, Nat.mod_eq_of_lt h1, Nat.div_eq_of_lt h1]
      cases dn <;> simp
    · have ih := cA_rep (dn := dn) ho h n (i - o.length) (by omega)
      rw [if_neg h1, ih]
      by_cases h2 : i - o.length < n * o.length
      · have hp : 0 < o.length := by
          rcases Nat.eq_zero_or_pos o.length with z | z
          · rw [z] at h2; simp at h2
          · exact z
        have e1 : i % o.length = (i - o.length) % o.length := by rw [Nat.mod_eq_sub_mod (by omega)]
        have e2 : i / o.length = (i - o.length) / o.length + 1 := by
          rw [Nat.div_eq_sub_div hp (by omega)]
        have hc : i < n * o.length + o.length := by omega
        rw [if_pos h2, if_pos hc, e1, e2]
        cases dn with
        | false => simp
        | true =>
          simp
          grind
      · have hc : ¬ i < n * o.length + o.length := by omega
        rw [if_neg h2, if_neg hc]
        have e3 : i - o.length - n * o.length = i - (n * o.length + o.length) := by omega
        rw [e3]
        cases dn with
        | false => simp
        | true =>
          simp
          grind
end M06
end
section
/-! M19: the greatest code. -/
namespace M06
theorem mx_nn : ∀ l : L, 0 ≤ mx l
  | [] => Int.le_refl _
  | x :: l => by
    have := mx_nn l
    rw [mx]
    omega
theorem mx_app : ∀ a b : L, mx (a ++ b) = max (mx a) (mx b)
  | [], b => by
    have := mx_nn b
    rw [List.nil_append, mx]
    omega
  | x :: a, b => by
    rw [List.cons_append, mx, mx, mx_app a b]
    omega
theorem mx_add {k : Int} (hk : 0 ≤ k) : ∀ {a : L}, a ≠ [] → (∀ x ∈ a, 0 ≤ x) → mx (a.map (· + k)) = mx a + k
  | [x], _, h => by
    have := h x List.mem_cons_self
    simp [mx]
    omega
  | x :: y :: a, _, h => by
    have ih := mx_add hk (a := y :: a) (by simp) fun z hz => h z (List.mem_cons_of_mem _ hz)
    have := h x List.mem_cons_self
    have e1 : mx (x :: y :: a) = max x (mx (y :: a)) := by rw [mx]
    rw [List.map_cons, mx, ih, e1]
    omega
theorem invs_nn : ∀ (o : L), ∀ x ∈ invs o, 0 ≤ x
  | [], x, h => by cases h
  | y :: o, x, h => by
    rw [invs] at h
    rcases List.mem_cons.mp h with rfl | h
    · exact (below_le y o).1
    · exact invs_nn o x h
theorem invs_ne {o : L} (h : o ≠ []) : invs o ≠ [] := by
  intro e
  have := congrArg List.length e
  rw [invs_len] at this
  exact h (List.length_eq_zero_iff.mp this)
def mG (o : L) : Int := mx (invs o)
theorem mG_comb {dn : Bool} {A B : L} (hA : Pm A) (hB : Pm B) (h : A ≠ []) : mG (comb dn A B) = max (mG A + if dn then (B.length : Int) else 0) (mG B) := by
  unfold mG
  rw [invs_comb hA hB, mx_app]
  cases dn with
  | false => simp
  | true =>
    simp only [if_true]
    rw [mx_add (by omega) (invs_ne h) (invs_nn A)]
theorem mG_rep {dn : Bool} {o : L} {os : List L} (ho : Pm o) (hn : o ≠ []) (h : ∀ x ∈ os, Pm x) : ∀ n : Nat, mG (lay dn (List.replicate (n + 1) o ++ os)) = max (mG o + if dn then (((n + 1) * o.length + (lay dn os).length : Nat) : Int) - o.length else 0) (mG (lay dn os))
  | 0 => by
    rw [List.replicate_succ, List.cons_append, lay_cons, mG_comb ho (lay_pm (rep_pm ho h)) hn, rep_len]
    simp
    cases dn <;> simp
    omega
  | n + 1 => by
    have ih := mG_rep (dn := dn) ho hn h n
    rw [List.replicate_succ, List.cons_append, lay_cons, mG_comb ho (lay_pm (rep_pm ho h)) hn, ih, rep_len]
    cases dn with
    | false =>
      simp only [Bool.false_eq_true, if_false]
      omega
    | true =>
      simp only [if_true]
      have e : (n + 1 + 1) * o.length = (n + 1) * o.length + o.length := Nat.succ_mul _ _
      rw [e]
      omega
end M06
end
section
/-! P1: more steps for simp. -/
namespace VL
open PySem
variable {T : Th} {ρ : Env} {a b e : E} {es : List E}
def chgS (i : Nat) (d : D) (f : List D → Option (List D)) (ρ : Env) : Option Sl → Option Env
  | some (.ol xs) => (f xs).map fun ys => ρ.set i (.ol ys)
  | some (.ln xs) => if noL d then (f xs).map fun ys => ρ.set i (.ln ys) else none
  | _ => none
@[simp] theorem chg_eq {i : Nat} {d : D} {f : List D → Option (List D)} : chg i d f ρ = chgS i d f ρ ρ[i]? := by
  unfold chg
  generalize ρ[i]? = o
  rcases o with _ | s
  · rfl
  · cases s <;> rfl
@[simp] theorem chgS_ol {i : Nat} {d : D} {f : List D → Option (List D)} {xs : List D} : chgS i d f ρ (some (.ol xs)) = (f xs).map fun ys => ρ.set i (.ol ys) := rfl
@[simp] theorem chgS_ln {i : Nat} {d : D} {f : List D → Option (List D)} {xs : List D} : chgS i d f ρ (some (.ln xs)) = if noL d then (f xs).map fun ys => ρ.set i (.ln ys) else none := rfl
def setH (i : Nat) (d : D) (y : R) (ρ : Env) : Out := match look ρ y with
  | some (.int k) => .opt (chg i d (fun xs => (placeOf xs.length k).map fun j => xs.set j d) ρ)
  | _ => .no
@[simp] theorem setH_v {i : Nat} {d : D} {k : Int} : setH i d (.v (.int k)) ρ = .opt (chg i d (fun xs => (placeOf xs.length k).map fun j => xs.set j d) ρ) := rfl
def setG (k : Env → Rs R) (i : Nat) (d : D) (ρ : Env) : Option (List D) → Out
  | some _ => .of (k ρ) (setH i d)
  | none => .no
@[simp] theorem setG_some {k : Env → Rs R} {i : Nat} {d : D} {xs : List D} : setG k i d ρ (some xs) = .of (k ρ) (setH i d) := rfl
@[simp] theorem s_set {i : Nat} : exec T (.set i a e) ρ = .of ((den T e).v ρ) fun r ρ1 => .of (frz r ρ1) fun d ρ2 => setG (den T a).v i d ρ2 (slotL i ρ2) := by
  rw [exec]
  show Out.of ((den T e).v ρ) _ = _
  congr 1 <;> funext r ρ1 <;> congr 1 <;> funext d ρ2 <;> cases slotL i ρ2 <;> rfl
def appG (k : Env → Out) (ρ : Env) : Option (List D) → Out
  | some _ => k ρ
  | none => .no
@[simp] theorem appG_some {k : Env → Out} {xs : List D} : appG k ρ (some xs) = k ρ := rfl
@[simp] theorem s_app {i : Nat} : exec T (.app i e) ρ = appG (fun ρ => .of ((den T e).v ρ) fun r ρ1 => .of (frz r ρ1) fun d ρ2 => .opt (chg i d (fun xs => if xs.length < LINE then some (xs ++ [d]) else none) ρ2)) ρ (slotL i ρ) := by
  rw [exec]
  cases slotL i ρ <;> rfl
theorem bop_pow {i j : Int} (h : 0 ≤ j ∧ j ≤ 1000000 ∧ i.natAbs < 2 ^ 64) : binop .pow (.int i) (.int j) = some (.v (.int (i ^ j.toNat))) := by
  show (if 0 ≤ j ∧ j ≤ 1000000 ∧ i.natAbs < 2 ^ 64 then _ else _) = _
  rw [if_pos h]
@[simp] theorem pow18 : binop .pow (.int 10) (.int 18) = some (.v (.int 1000000000000000000)) := by rw [bop_pow (by decide)]; rfl
@[simp] theorem pow6 : binop .pow (.int 10) (.int 6) = some (.v (.int 1000000)) := by rw [bop_pow (by decide)]; rfl
@[simp] theorem pow39 : binop .pow (.int 10) (.int 39) = some (.v (.int 1000000000000000000000000000000000000000)) := by rw [bop_pow (by decide)]; rfl
theorem binop_adds {x y : Str} (h : x.length + y.length ≤ LINE) : binop .add (.str x) (.str y) = some (.v (.str (x ++ y))) := by
  show (if _ then _ else _) = _
  rw [if_pos h]
theorem binop_addl {x y : List D} (h : x.length + y.length ≤ LINE) : binop .add (.lst x) (.lst y) = some (.fl (x ++ y)) := by
  show (if _ then _ else _) = _
  rw [if_pos h]
theorem binop_addt {x y : List D} (h : x.length + y.length ≤ LINE) : binop .add (.tup x) (.tup y) = some (.v (.tup (x ++ y))) := by
  show (if _ then _ else _) = _
  rw [if_pos h]
theorem binop_mull {x : List D} {j : Int} (h : j < 2 ^ 62 ∧ -(2 ^ 62) < j ∧ x.length * j.toNat ≤ LINE) : binop .mul (.lst x) (.int j) = some (.fl (List.replicate j.toNat x).flatten) := by
  show (if j < 2 ^ 62 ∧ -(2 ^ 62) < j ∧ x.length * j.toNat ≤ LINE then _ else _) = _
  rw [if_pos h]
theorem binop_mult {x : List D} {j : Int} (h : 2 ≤ j ∧ j ≤ 1000 ∧ x.length ≤ 1000 ∧ x.isEmpty = false) : binop .mul (.tup x) (.int j) = some (.v (.tup (List.replicate j.toNat x).flatten)) := by
  show (if 2 ≤ j ∧ j ≤ 1000 ∧ x.length ≤ 1000 ∧ x.isEmpty = false then _ else _) = _
  rw [if_pos h]
theorem placeOf_nat {n k : Nat} (h : k < n) : placeOf n (k : Int) = some k := by
  unfold placeOf
  rw [if_pos (by omega), if_pos (by omega)]
  simp
theorem subD_t {xs : List D} {k : Nat} {d : D} (h : xs[k]? = some d) : subD (.tup xs) (.int (k : Int)) = some d := by
  have : k < xs.length := by
    rcases Nat.lt_or_ge k xs.length with z | z
    · exact z
    · rw [List.getElem?_eq_none z] at h; cases h
  show (placeOf xs.length (k : Int)).bind _ = _
  rw [placeOf_nat this]
  exact h
theorem subD_l {xs : List D} {k : Nat} {d : D} (h : xs[k]? = some d) : subD (.lst xs) (.int (k : Int)) = some d := subD_t h
@[simp] theorem subl0 {x : D} {r : List D} : subD (.lst (x :: r)) (.int 0) = some x := by simp [subD, placeOf]
theorem subD_last {xs : List D} {d : D} (h : xs.getLast? = some d) : subD (.tup xs) (.int (-1)) = some d := by
  have h0 : xs ≠ [] := by intro e; rw [e] at h; cases h
  have h1 : 0 < xs.length := List.length_pos_iff.mpr h0
  show (placeOf xs.length (-1)).bind _ = _
  unfold placeOf
  rw [if_neg (by omega), if_pos (by omega)]
  have : ((-1 : Int) + (xs.length : Int)).toNat = xs.length - 1 := by omega
  rw [this]
  show xs[xs.length - 1]? = _
  rw [← List.getLast?_eq_getElem?]
  exact h
theorem subl_last {xs : List D} {d : D} (h : xs.getLast? = some d) : subD (.lst xs) (.int (-1)) = some d := subD_last h
@[simp] theorem isTy_non {ts : List Ty} : isTy ts .non = some (ts.any (kdTy · .non)) := rfl
@[simp] theorem isTy_int {ts : List Ty} {i : Int} : isTy ts (.int i) = some (ts.any (kdTy · .int)) := rfl
@[simp] theorem isTy_bl {ts : List Ty} {i : Bool} : isTy ts (.bl i) = some (ts.any (kdTy · .bl)) := rfl
@[simp] theorem isTy_str {ts : List Ty} {i : Str} : isTy ts (.str i) = some (ts.any (kdTy · .str)) := rfl
@[simp] theorem isTy_tup {ts : List Ty} {i : List D} : isTy ts (.tup i) = some (ts.any (kdTy · .tup)) := rfl
@[simp] theorem isTy_lst {ts : List Ty} {i : List D} : isTy ts (.lst i) = some (ts.any (kdTy · .lst)) := rfl
@[simp] theorem isTy_dic {ts : List Ty} {i : Nat} : isTy ts (.dic i) = some (ts.any (kdTy · .dic)) := rfl
end VL
end
section
/-! P2: comprehensions and loops over lists of anything. -/
namespace VL
open PySem
variable {T : Th} {ρ : Env} {a b e : E} {es : List E}
@[simp] theorem evC_nil : evC T [] ρ = .ok true ρ := by rw [evC]
@[simp] theorem evC_cons : evC T (e :: es) ρ = ((den T e).t ρ).bind (iteB (evC T es) (fun ρ => .ok false ρ)) := by
  rw [evC]
  first
    | rfl
    | (congr 1 <;> funext c ρ1 <;> cases c <;> rfl)
theorem lcL_fl {α : Type} {vs : List Nat} {turn : D → Env → Rs (Option D)} (g : α → D) (f : α → Option D) : ∀ {l : List α} {ρ : Env}, (∀ z ∈ l, ∃ ρ1, turn (g z) ρ = .ok (f z) ρ1 ∧ wipeE ρ1 vs = ρ) → lcL vs turn (l.map g) ρ = .ok (l.filterMap f) ρ
  | [], ρ, _ => rfl
  | d :: xs, ρ, h => by
    obtain ⟨ρ1, h1, h2⟩ := h d List.mem_cons_self
    rw [List.map_cons, lcL, h1]
    dsimp only
    rw [h2, lcL_fl g f fun d hd => h d (List.mem_cons_of_mem _ hd), List.filterMap_cons]
    cases f d <;> rfl
theorem set_back {i : Nat} {s : Sl} (h : i < ρ.length) : (ρ.set i s).set i (ρ.getD i .no) = ρ := by
  rw [List.set_set, List.getD_eq_getElem?_getD, List.getElem?_eq_getElem h, Option.getD_some, List.set_getElem_self]
theorem set_sm {i : Nat} (h : i < ρ.length) : ρ.set i (ρ.getD i .no) = ρ := by
  rw [List.getD_eq_getElem?_getD, List.getElem?_eq_getElem h, Option.getD_some, List.set_getElem_self]
theorem free_lt {i : Nat} (h : isFree ρ i = true) : i < ρ.length := by
  rcases Nat.lt_or_ge i ρ.length with z | z
  · exact z
  · unfold isFree at h
    rw [List.getElem?_eq_none z] at h
    cases h
/-- one name, no tests -/
theorem lcE_ml {α : Type} {i : Nat} {l : List α} {g f : α → D} (hf : isFree ρ i = true) (hl : l.length ≤ LINE) (h : ∀ z ∈ l, ((den T e).v (ρ.set i (.v (g z)))).bind (fun r ρ5 => (frz r ρ5).bind fun y ρ6 => .ok (some y) ρ6) = .ok (some (f z)) (ρ.set i (.v (g z)))) : lcE T (.nm i) [] e (some (l.map g)) ρ = .ok (.fl (l.map f)) ρ := by
  have hi := free_lt hf
  have h1 : lcL [i] (tnE T (.nm i) [] e) (l.map g) (ρ.set i .no) = .ok (l.map f) (ρ.set i .no) := by
    have := lcL_fl (vs := [i]) (turn := tnE T (.nm i) [] e) g (fun z => some (f z)) (l := l) (ρ := ρ.set i .no) fun z hz => ⟨ρ.set i (.v (g z)), tnE_ok (ρ3 := ρ.set i (.v (g z))) (by simp [hi]) (h z hz), by simp⟩
    rw [this]
    simp
  rw [lcE_ok (ρ9 := ρ.set i .no) (by simpa using hf) (by simpa using hl) (by simpa using h1)]
  simp only [ps_nm, restore_cons, restore_nil]
  rw [set_back hi]
/-- one name, a test -/
theorem lcE_fl {α : Type} {i : Nat} {c : E} {l : List α} {g f : α → D} {p : α → Bool} (hf : isFree ρ i = true) (hl : l.length ≤ LINE) (hc : ∀ z ∈ l, (den T c).t (ρ.set i (.v (g z))) = .ok (p z) (ρ.set i (.v (g z)))) (h : ∀ z ∈ l, p z = true → ((den T e).v (ρ.set i (.v (g z)))).bind (fun r ρ5 => (frz r ρ5).bind fun y ρ6 => .ok (some y) ρ6) = .ok (some (f z)) (ρ.set i (.v (g z)))) : lcE T (.nm i) [c] e (some (l.map g)) ρ = .ok (.fl ((l.filter p).map f)) ρ := by
  have hi := free_lt hf
  have h1 : lcL [i] (tnE T (.nm i) [c] e) (l.map g) (ρ.set i .no) = .ok ((l.filter p).map f) (ρ.set i .no) := by
    have := lcL_fl (vs := [i]) (turn := tnE T (.nm i) [c] e) g (fun z => if p z then some (f z) else none) (l := l) (ρ := ρ.set i .no) fun z hz => ⟨ρ.set i (.v (g z)), by
      have e1 : asgD (.nm i) (g z) (ρ.set i .no) = some (ρ.set i (.v (g z))) := by simp [hi]
      unfold tnE
      rw [e1]
      dsimp only
      rw [evC_cons, hc z hz]
      simp only [Rs.bind_ok]
      cases hp : p z with
      | true =>
        simp only [iteB_t, evC_nil, Rs.bind_ok, if_true]
        exact h z hz hp
      | false => simp, by simp⟩
    rw [this]
    congr 1
    clear this hc h hl
    induction l with
    | nil => rfl
    | cons z l ih =>
      rw [List.filterMap_cons, List.filter_cons]
      cases p z <;> simp [ih]
  rw [lcE_ok (ρ9 := ρ.set i .no) (by simpa using hf) (by simpa using hl) (by simpa using h1)]
  simp only [ps_nm, restore_cons, restore_nil]
  rw [set_back hi]
/-- a pair of names, no tests -/
theorem lcE_ml2 {α : Type} {i j : Nat} {l : List α} {g g2 f : α → D} (hij : i ≠ j) (hf : isFree ρ i = true) (hf2 : isFree ρ j = true) (hl : l.length ≤ LINE) (h : ∀ z ∈ l, ((den T e).v ((ρ.set i (.v (g z))).set j (.v (g2 z)))).bind (fun r ρ5 => (frz r ρ5).bind fun y ρ6 => .ok (some y) ρ6) = .ok (some (f z)) ((ρ.set i (.v (g z))).set j (.v (g2 z)))) : lcE T (.tp [.nm i, .nm j]) [] e (some (l.map fun z => .tup [g z, g2 z])) ρ = .ok (.fl (l.map f)) ρ := by
  have hi := free_lt hf
  have hj := free_lt hf2
  have h1 : lcL [i, j] (tnE T (.tp [.nm i, .nm j]) [] e) (l.map fun z => .tup [g z, g2 z]) ((ρ.set j .no).set i .no) = .ok (l.map f) ((ρ.set j .no).set i .no) := by
    have := lcL_fl (vs := [i, j]) (turn := tnE T (.tp [.nm i, .nm j]) [] e) (fun z => D.tup [g z, g2 z]) (fun z => some (f z)) (l := l) (ρ := (ρ.set j .no).set i .no) fun z hz => ⟨(ρ.set i (.v (g z))).set j (.v (g2 z)), tnE_ok (ρ3 := (ρ.set i (.v (g z))).set j (.v (g2 z))) (by
        have e1 : ((ρ.set j .no).set i .no)[i]? = some .no := by simp [hi]
        have e2 : (((ρ.set j .no).set i .no).set i (.v (g z)))[j]? = some .no := by
          rw [List.getElem?_set_ne hij, List.getElem?_set_ne hij]
          simp [hj]
        simp only [asgD_tup, asgDs_cons, asgD_nm, setSlot_eq, e1, setO_no, Option.bind_some, e2, asgDs_nil]
        rw [List.set_set, List.set_comm _ _ (Ne.symm hij), List.set_set]) (h z hz), by
        simp only [wipe_cons, wipe_nil]
        rw [List.set_set, List.set_comm _ _ hij, List.set_set, List.set_comm _ _ (Ne.symm hij)]⟩
    rw [this]
    simp
  rw [lcE_ok (ρ9 := (ρ.set j .no).set i .no) (by simp [hf, hf2]) (by simpa using hl) (by simpa using h1)]
  simp only [ps_tp, pss_cons, ps_nm, pss_nil, List.append_nil, List.cons_append, List.nil_append, restore_cons, restore_nil]
  rw [List.set_set, List.set_comm _ _ (Ne.symm hij), set_sm hi, List.set_set, set_sm hj]
/-- a loop with an account -/
theorem forL_rel {α β : Type} {asg : D → Env → Option Env} {body : Env → Out} (I : β → Env → Prop) (g : α → D) (step : β → α → β) : ∀ {l : List α} {b : β} {ρ : Env}, (∀ b ρ z, z ∈ l → I b ρ → ∃ ρ1 ρ2, asg (g z) ρ = some ρ1 ∧ body ρ1 = .nx ρ2 ∧ I (step b z) ρ2) → I b ρ → ∃ ρ2, forL asg body (l.map g) ρ = .nx ρ2 ∧ I (l.foldl step b) ρ2
  | [], b, ρ, _, hI => ⟨ρ, rfl, hI⟩
  | z :: l, b, ρ, h, hI => by
    obtain ⟨ρ1, ρ2, h1, h2, h3⟩ := h b ρ z List.mem_cons_self hI
    obtain ⟨ρ9, h4, h5⟩ := forL_rel I g step (l := l) (fun b ρ z hz => h b ρ z (List.mem_cons_of_mem _ hz)) h3
    exact ⟨ρ9, by rw [List.map_cons, forL_step h1 h2]; exact h4, h5⟩
end VL
end
section
/-! P3: exceptions, thunks, methods, by steps. -/
namespace VL
open PySem
variable {T : Th} {ρ : Env} {a b e : E} {es : List E}
@[simp] theorem calR_x {x : Ex} {c : D} : calR (some (.ex x, c)) [] ρ = .ex x ρ := by
  show behind (.ex x) [] ρ = _
  unfold behind
  rw [if_pos (by simp)]
  rfl
@[simp] theorem of_ex {α : Type} {x : Ex} {k : α → Env → Out} : Out.of (.ex x ρ : Rs α) k = .ex x ρ := rfl
@[simp] theorem seq_ex {x : Ex} {k : Env → Out} : (Out.ex x ρ).seq k = .ex x ρ := rfl
@[simp] theorem endR_ex {x : Ex} : endR (.ex x ρ) = some (.ex x, .non) := rfl
@[simp] theorem endI_ex {xs : List D} {x : Ex} : endI (.ex x (.ln xs :: ρ)) = some (.ex x, .lst xs) := rfl
@[simp] theorem s_raise {c : Nat} : exec T (.raise c) ρ = .ex ⟨c, none⟩ ρ := by rw [exec]
@[simp] theorem s_pass : exec T .pass ρ = .nx ρ := by rw [exec]
@[simp] theorem rtR_x {x : Ex} : rtR (.ex x) ρ = .ex x ρ := rfl
@[simp] theorem noRt_x {x : Ex} : noRt (.ex x) = true := rfl
def wordR (T : Th) (f : Nat) : Rs R → Rs R
  | .ok _ ρ1 => (match T.wd f none with | some d => .ok (.v d) ρ1 | none => .no)
  | .ex x ρ1 => (match T.wd f (some x) with | some d => .ok (.v d) ρ1 | none => .no)
  | .no => .no
theorem v_word {f : Nat} : (den T (.word f e)).v ρ = wordR T f ((den T e).v ρ) := by
  rw [den]
  show (match (den T e).v ρ with | .ok _ ρ1 => _ | .ex x ρ1 => _ | .no => _) = _
  cases (den T e).v ρ <;> rfl
theorem word_ex {f : Nat} {x : Ex} {d : D} {ρ1 : Env} (h1 : (den T e).v ρ = .ex x ρ1) (h2 : T.wd f (some x) = some d) : (den T (.word f e)).v ρ = .ok (.v d) ρ1 := by
  rw [v_word, h1]
  show (match T.wd f (some x) with | some d => Rs.ok (R.v d) ρ1 | none => .no) = _
  rw [h2]
theorem word_ok {f : Nat} {r : R} {d : D} {ρ1 : Env} (h1 : (den T e).v ρ = .ok r ρ1) (h2 : T.wd f none = some d) : (den T (.word f e)).v ρ = .ok (.v d) ρ1 := by
  rw [v_word, h1]
  show (match T.wd f none with | some d => Rs.ok (R.v d) ρ1 | none => .no) = _
  rw [h2]
@[simp] theorem th_wd {X : Tx} {k : Nat} : (th X k).wd = wcall X k := rfl
@[simp] theorem th_sub {X : Tx} {k : Nat} : (th X k).sub = X.sub := rfl
def endW : Out → Option D
  | .rt (.v d) _ => if noL d then some d else none
  | _ => none
@[simp] theorem endW_rt {d : D} : endW (.rt (.v d) ρ) = if noL d then some d else none := rfl
theorem go_w {X : Tx} {k f : Nat} {fd : FD} {o : Option Ex} (h : X.fs[f]? = some fd) : wcall X (k + 1) f o = endW (execs (th X k) fd.body (Sl.th o :: List.replicate (fd.ns - 1) Sl.no)) := by
  rw [wcall, h]
  show runW (th X k) fd o = _
  unfold runW endW
  cases execs (th X k) fd.body (Sl.th o :: List.replicate (fd.ns - 1) Sl.no) with
  | rt r ρ1 => cases r <;> rfl
  | _ => rfl
def isxR (T : Th) (c : Nat) (ρ : Env) : Option Sl → Rs R
  | some (.ex x) => .ok (.v (.bl (T.sub x.cls c))) ρ
  | _ => .no
@[simp] theorem isxR_ex {c : Nat} {x : Ex} : isxR T c ρ (some (.ex x)) = .ok (.v (.bl (T.sub x.cls c))) ρ := rfl
@[simp] theorem v_isx {i c : Nat} : (den T (.isx i c)).v ρ = isxR T c ρ ρ[i]? := by
  rw [den]
  show (match ρ[i]? with | some (.ex x) => Rs.ok (R.v (.bl (T.sub x.cls c))) ρ | _ => .no) = _
  generalize ρ[i]? = o
  rcases o with _ | s
  · rfl
  · cases s <;> rfl
@[simp] theorem t_isx {i c : Nat} : (den T (.isx i c)).t ρ = ((den T (.isx i c)).v ρ).bind asTruth := by rw [den]; rfl
def mtR (m : Mt) (k : Env → Rs (List R)) (x : R) (ρ1 : Env) : Rs R := match look ρ1 x with
  | some (.lst _) => (k ρ1).bind fun rs ρ2 => Rs.opt ρ2 ((looks ρ2 rs).bind fun ds => (look ρ2 x).bind fun d => mtop m d ds)
  | _ => .no
@[simp] theorem v_mt {m : Mt} : (den T (.mt m a es)).v ρ = ((den T a).v ρ).bind (mtR m (evs T es)) := by rw [den]; rfl
@[simp] theorem t_mt {m : Mt} : (den T (.mt m a es)).t ρ = ((den T (.mt m a es)).v ρ).bind asTruth := by rw [den]; rfl
@[simp] theorem mtR_fl {m : Mt} {k : Env → Rs (List R)} {xs : List D} : mtR m k (.fl xs) ρ = (k ρ).bind fun rs ρ2 => Rs.opt ρ2 ((looks ρ2 rs).bind fun ds => mtop m (.lst xs) ds) := rfl
theorem mtR_br {m : Mt} {k : Env → Rs (List R)} {i : Nat} {xs : List D} (h : lkS ρ[i]? = some (.lst xs)) : mtR m k (.br i) ρ = (k ρ).bind fun rs ρ2 => Rs.opt ρ2 ((looks ρ2 rs).bind fun ds => (look ρ2 (.br i)).bind fun d => mtop m d ds) := by
  unfold mtR
  rw [look_br, h]
@[simp] theorem mt_v {m : Mt} {k : Env → Rs (List R)} {xs : List D} : mtR m k (.v (.lst xs)) ρ = (k ρ).bind fun rs ρ2 => Rs.opt ρ2 ((looks ρ2 rs).bind fun ds => mtop m (.lst xs) ds) := rfl
def tryO (T : Th) (i c : Nat) (h : List S) (ρ : Env) : Option Sl → Out
  | some (.th none) => .nx (ρ.set 0 .no)
  | some (.th (some e)) => if T.sub e.cls c then clr i (execs T h ((List.replicate ρ.length Sl.no).set i (.ex e))) else .no
  | _ => .no
@[simp] theorem s_tryw {i c : Nat} {h : List S} : exec T (.tryw i c h) ρ = tryO T i c h ρ (List.head? ρ) := by
  rw [exec]
  show (match (List.head? ρ : Option Sl) with | some (.th none) => _ | some (.th (some e)) => _ | _ => _) = _
  generalize (List.head? ρ : Option Sl) = o
  rcases o with _ | s
  · rfl
  · cases s with
    | th o => cases o <;> rfl
    | _ => rfl
@[simp] theorem tryO_n {i c : Nat} {h : List S} : tryO T i c h ρ (some (.th none)) = .nx (ρ.set 0 .no) := rfl
@[simp] theorem tryO_s {i c : Nat} {h : List S} {x : Ex} : tryO T i c h ρ (some (.th (some x))) = if T.sub x.cls c then clr i (execs T h ((List.replicate ρ.length Sl.no).set i (.ex x))) else .no := rfl
@[simp] theorem clr_nx {i : Nat} : clr i (.nx ρ) = .nx (ρ.set i .no) := rfl
@[simp] theorem clr_rt {i : Nat} {r : Rt} : clr i (.rt r ρ) = .rt r (ρ.set i .no) := rfl
@[simp] theorem s_ext {i : Nat} : exec T (.ext i e) ρ = appG (fun ρ => .of ((den T e).v ρ) fun r ρ1 => .of (frz r ρ1) fun d ρ2 => match d with
      | .lst ys => .opt (chg i (.lst ys) (fun xs => if xs.length + ys.length ≤ LINE then some (xs ++ ys) else none) ρ2)
      | _ => .no) ρ (slotL i ρ) := by
  rw [exec]
  cases slotL i ρ <;> rfl
/-- a range, listed -/
theorem bi_lrg {n : Nat} (h : n ≤ LINE) : biop .lrange1 [.int (n : Int)] = some (.fl ((List.range n).map fun k => .int (k : Nat))) := by
  show (if (n : Int) ≤ LINE ∧ -(2 ^ 62) ≤ (n : Int) then _ else _) = _
  rw [if_pos ⟨by omega, by omega⟩]
  unfold rangeL
  simp
theorem bi_srt_t {is : List Int} : biop .sorted [.tup (is.map .int)] = some (.fl ((sortI is).map .int)) := by
  show (intsD (is.map .int)).map _ = _
  rw [intsD_map]
  rfl
theorem bi_srt_l {is : List Int} : biop .sorted [.lst (is.map .int)] = some (.fl ((sortI is).map .int)) := by
  show (intsD (is.map .int)).map _ = _
  rw [intsD_map]
  rfl
end VL
end
section
/-! P4: a thing is equal to itself; rows of ints. -/
namespace VL
open PySem
mutual
theorem eqD_refl : ∀ d : D, dat d = true → eqD d d = true
  | .non, _ => rfl
  | .bl b, _ => by rw [eqD]; simp
  | .int i, _ => by rw [eqD]; simp
  | .str s, _ => by rw [eqD]; simp
  | .tup xs, h => by rw [eqD]; rw [dat] at h; exact eqDs_refl xs h
  | .lst xs, h => by rw [eqD]; rw [dat] at h; exact eqDs_refl xs h
  | .dic _, h => by rw [dat] at h; cases h
  | .fn _, h => by rw [dat] at h; cases h
  | .scr _, h => by rw [dat] at h; cases h
theorem eqDs_refl : ∀ xs : List D, dats xs = true → eqDs xs xs = true
  | [], _ => by rw [eqDs]
  | x :: xs, h => by
    rw [dats, Bool.and_eq_true] at h
    rw [eqDs, eqD_refl x h.1, eqDs_refl xs h.2]
    rfl
end
theorem dats_ints : ∀ l : List Int, dats (l.map .int) = true
  | [] => by rw [List.map_nil, dats]
  | x :: l => by rw [List.map_cons, dats, dats_ints l, dat] <;> simp
theorem flats_ints {n : Nat} : ∀ l : List Int, flats n (l.map .int) = true
  | [] => by rw [List.map_nil, flats]
  | x :: l => by
    rw [List.map_cons, flats, flats_ints l]
    cases n <;> rfl
theorem cm_il {l : List Int} : cmpop .eq (.lst (l.map .int)) (.lst (l.map .int)) = some true := by
  have d : dat (.lst (l.map .int)) = true := by rw [dat, dats_ints]
  have e : eqOk (.lst (l.map .int)) (.lst (l.map .int)) = true := by
    unfold eqOk
    rw [d]
    have : flat 190 (.lst (l.map D.int)) = flats 189 (l.map .int) := rfl
    rw [this, flats_ints]
    rfl
  rw [cm_eq' e, eqD_refl _ d]
end VL
end
section
/-! P5: x -= e, by steps. -/
namespace VL
open PySem
variable {T : Th} {ρ : Env} {e : E}
def augSA (i : Nat) (a : Int) (r : R) (ρ : Env) : Out := match look ρ r with
  | some (.int b) => .opt (setSlot i (.v (.int (a - b))) ρ)
  | _ => .no
@[simp] theorem augSA_v {i : Nat} {a b : Int} : augSA i a (.v (.int b)) ρ = .opt (setSlot i (.v (.int (a - b))) ρ) := rfl
def augSG (k : Env → Rs R) (i : Nat) (ρ : Env) : Option Sl → Out
  | some (.v (.int a)) => .of (k ρ) (augSA i a)
  | _ => .no
@[simp] theorem augSG_v {k : Env → Rs R} {i : Nat} {a : Int} : augSG k i ρ (some (.v (.int a))) = .of (k ρ) (augSA i a) := rfl
@[simp] theorem s_augs {i : Nat} : exec T (.aug i .sub e) ρ = augSG (den T e).v i ρ ρ[i]? := by
  rw [exec]
  generalize ρ[i]? = o
  rcases o with _ | s
  · rfl
  · cases s with
    | v d =>
      cases d with
      | int a =>
        show Out.of ((den T e).v ρ) _ = Out.of ((den T e).v ρ) _
        cases (den T e).v ρ with
        | ok r ρ1 =>
          simp only [of_ok]
          unfold augSA
          cases look ρ1 r with
          | none => rfl
          | some d => cases d <;> rfl
        | ex _ _ => rfl
        | no => rfl
      | _ => rfl
    | _ => rfl
end VL
end
section
/-! E30n: codes at places of plans. -/
namespace VL.K30
open PySem M06
theorem len_wf {b : Int} {p : P} (h : wf b p) : p.size = (p.ord.length : Nat) := ok_size (ok_wf h)
theorem ord_pos {b : Int} {p : P} (h : wf b p) : 1 ≤ p.ord.length := List.length_pos_iff.mpr (ok_ne (ok_wf h))
abbrev bB : List S := [.asg (.nm 5) (.call 12 [(.var 3)]),
    .ife (.cmp .lt (.var 1) (.bin .mul (.var 4) (.var 5))) [.asg (.nm 6) (.call 20 [(.var 3), (.bin .mod (.var 1) (.var 5))]),
    .ret (.ite (.cmp .eq (.call 11 [(.var 0)]) (.glo (.str (Str.ofString "down")))) (.bin .sub (.bin .add (.var 6) (.var 2)) (.bin .mul (.bin .add (.bin .div (.var 1) (.var 5)) (.con (.int (1)))) (.var 5))) (.var 6))] [],
    .aug 1 .sub (.bin .mul (.var 4) (.var 5)),
    .aug 2 .sub (.bin .mul (.var 4) (.var 5))]
theorem forL_rt {asg : D → Env → Option Env} {body : Env → Out} {d : D} {ds : List D} {ρ ρ1 ρ2 : Env} {r : Rt} (h1 : asg d ρ = some ρ1) (h2 : body ρ1 = .rt r ρ2) : forL asg body (d :: ds) ρ = .rt r ρ2 := by
  rw [forL, h1]
  dsimp only
  rw [h2]
theorem nat_wide {n : Nat} {b : Int} (hb : b < wideB) (h : (n : Int) ≤ b) : (n : Int).natAbs < wideB := by omega
theorem wd_dn (dn : Bool) : (wd dn == sDn) = dn := by cases dn <;> decide
mutual
theorem e_bl {b : Int} (hb : b + 1 < wideB) : ∀ {p : P}, wf b p → ∀ {k : Nat}, ht p ≤ k → ∀ {i : Nat}, i < p.ord.length → call X (k + 3) 20 [pD p, .int i] = some (.v (.int (cB p.ord i)), .non)
  | .one, _, k, _, i, hi => by
    rw [P.ord] at hi
    have : i = 0 := by simp at hi; exact hi
    subst this
    have e : cB P.one.ord 0 = 0 := rfl
    rw [e, go_f at_behind_less rfl rfl]
    simp [f_behind_less]
  | .nd cp dn rs, h, k, hk, i, hi => by
    have h' := h
    have sz := e_size_of (b := b) (by omega) h' (k := k) hk
    rw [len_wf h'] at sz
    have hL := (size_pos h').2
    rw [len_wf h'] at hL
    have hr := e_runs_of (k + 1) h'
    rw [wf] at h
    rw [ht] at hk
    rw [nd_ord] at hi sz hL ⊢
    obtain ⟨ρ', r⟩ := e_blR hb (cp := cp) (dn := dn) (rs := rs) h.2.2.1 (k := k - 1) (by omega) (i := i) hi hL fr_no fr_no fr_no fr_no
    rw [show k - 1 + 3 = k + 2 by omega] at r
    unfold bB at r
    rw [go_f at_behind_less rfl rfl]
    generalize cB (lay dn (fl (ofRn rs))) i = V at r ⊢
    generalize ((lay dn (fl (ofRn rs))).length : Int) = W at sz r
    generalize (i : Int) = j at r ⊢
    simp -implicitDefEqProofs [f_behind_less, sz, hr, r]
theorem e_blR {b : Int} (hb : b + 1 < wideB) {cp dn : Bool} {rs : Rn} : ∀ {r : Rn}, wfR b r → ∀ {k : Nat}, htR r ≤ k → ∀ {i : Nat}, i < (lay dn (fl (ofRn r))).length → ((lay dn (fl (ofRn r))).length : Int) ≤ b → ∀ {s3 s4 s5 s6 : Sl}, Fr s3 → Fr s4 → Fr s5 → Fr s6 →
    ∃ ρ', forL (asgD (.tp [.nm 3, .nm 4])) (execs (th X (k + 3)) bB) (runsD r) [.v (pD (.nd cp dn rs)), .v (.int (i : Nat)), .v (.int ((lay dn (fl (ofRn r))).length : Nat)), s3, s4, s5, s6] = .rt (.v (.int (cB (lay dn (fl (ofRn r))) i))) ρ'
  | .nil, _, k, _, i, hi, _, _, _, _, _, _, _, _, _ => by
    rw [ofRn] at hi
    exact absurd hi (by simp [fl_nil, lay_nil])
  | .cons n p r, h, k, hk, i, hi, hL, s3, s4, s5, s6, f3, f4, f5, f6 => by
    rw [wfR] at h
    rw [htR] at hk
    rw [ofRn, fl_cons] at hi hL ⊢
    have po : Pm p.ord := ord_pm p
    have pr := fl_pm (ofRn r)
    have h1 := ord_pos h.2.1
    have sz := e_size_of (b := b) (by omega) h.2.1 (k := k + 1) (by omega)
    rw [len_wf h.2.1] at sz
    have hw := e_word_of (k + 2) (cp := cp) (dn := dn) (rs := rs)
    have lens := rep_len dn n p.ord (fl (ofRn r))
    have cb := cB_rep (dn := dn) po pr n i
    rw [lens] at hi hL ⊢
    have n1 : n * 1 ≤ n * p.ord.length := Nat.mul_le_mul_left _ h1
    have n2 : 1 * p.ord.length ≤ n * p.ord.length := Nat.mul_le_mul_right _ h.1
    have w1 : ((n : Nat) : Int).natAbs < wideB := by omega
    have w2 : ((p.ord.length : Nat) : Int).natAbs < wideB := by omega
    have m1 : binop .mul (.int n) (.int (p.ord.length : Nat)) = some (.v (.int ((n * p.ord.length : Nat) : Int))) := by
      rw [bop_mul (mulOk_w w1 w2)]
      simp
    have a1 : asgD (.tp [.nm 3, .nm 4]) (.tup [pD p, .int n]) [.v (pD (.nd cp dn rs)), .v (.int (i : Nat)), .v (.int ((n * p.ord.length + (lay dn (fl (ofRn r))).length : Nat) : Int)), s3, s4, s5, s6] = some [.v (pD (.nd cp dn rs)), .v (.int (i : Nat)), .v (.int ((n * p.ord.length + (lay dn (fl (ofRn r))).length : Nat) : Int)), .v (pD p), .v (.int n), s5, s6] := by simp [f3.set, f4.set]
    rw [runsD]
    by_cases hc : i < n * p.ord.length
    · rw [if_pos hc] at cb
      have ih := e_bl hb h.2.1 (k := k) (by omega) (i := i % p.ord.length) (Nat.mod_lt _ (by omega))
      have md : binop .mod (.int (i : Nat)) (.int (p.ord.length : Nat)) = some (.v (.int ((i % p.ord.length : Nat) : Int))) := by
        rw [bop_mod (by omega)]
        simp
      have dv : binop .div (.int (i : Nat)) (.int (p.ord.length : Nat)) = some (.v (.int ((i / p.ord.length : Nat) : Int))) := by
        rw [bop_div (by omega) w2]
        simp
      have dle := Nat.div_le_self i p.ord.length
      have w3 : (((i / p.ord.length : Nat) : Int) + 1).natAbs < wideB := by
        have hi2 : (i : Int) ≤ b := by omega
        clear cb hL lens
        generalize i / p.ord.length = q at dle ⊢
        omega
      have m2 : binop .mul (.int (((i / p.ord.length : Nat) : Int) + 1)) (.int (p.ord.length : Nat)) = some (.v (.int ((((i / p.ord.length : Nat) : Int) + 1) * (p.ord.length : Nat)))) := by
        rw [bop_mul (mulOk_w w3 w2)]
      have hc' : (i : Int) < ((n * p.ord.length : Nat) : Int) := by omega
      rw [cb]
      generalize ((n * p.ord.length + (lay dn (fl (ofRn r))).length : Nat) : Int) = W at a1 ⊢
      generalize ((n * p.ord.length : Nat) : Int) = M at m1 hc'
      generalize ((i % p.ord.length : Nat) : Int) = j at md ih
      generalize ((i / p.ord.length : Nat) : Int) = q at dv m2 ⊢
      generalize cB p.ord (i % p.ord.length) = V at ih ⊢
      have wn := wd_dn dn
      generalize pD (.nd cp dn rs) = P0 at hw a1 ⊢
      generalize pD p = P1 at sz ih a1 ⊢
      generalize (p.ord.length : Int) = own at *
      generalize (i : Int) = ii at *
      refine ⟨_, forL_rt a1 (ρ2 := [.v P0, .v (.int ii), .v (.int W), .v P1, .v (.int n), .v (.int own), .v (.int V)]) ?_⟩
      cases dn with
      | true => simp -implicitDefEqProofs [sz, f5.set, m1, hc', md, ih, f6.set, hw, wn, dv, m2]; omega
      | false => simp -implicitDefEqProofs [sz, f5.set, m1, hc', md, ih, f6.set, hw, wn]
    · rw [if_neg hc] at cb
      have hc' : ¬ (i : Int) < ((n * p.ord.length : Nat) : Int) := by omega
      obtain ⟨ρ', r2⟩ := e_blR hb (cp := cp) (dn := dn) (rs := rs) h.2.2 (k := k) (by omega) (i := i - n * p.ord.length) (by omega) (by omega) (s3 := .v (pD p)) (s4 := .v (.int n)) (s5 := .v (.int (p.ord.length : Nat))) (s6 := s6) (fr_v _) (fr_v _) (fr_v _) f6
      refine ⟨ρ', ?_⟩
      rw [cb]
      have e1 : ((i - n * p.ord.length : Nat) : Int) = (i : Int) - ((n * p.ord.length : Nat) : Int) := by omega
      have e2 : (((lay dn (fl (ofRn r))).length : Nat) : Int) = ((n * p.ord.length + (lay dn (fl (ofRn r))).length : Nat) : Int) - ((n * p.ord.length : Nat) : Int) := by omega
      rw [e1, e2] at r2
      rw [forL_step a1 (ρ2 := [.v (pD (.nd cp dn rs)), .v (.int ((i : Int) - ((n * p.ord.length : Nat) : Int))), .v (.int (((n * p.ord.length + (lay dn (fl (ofRn r))).length : Nat) : Int) - ((n * p.ord.length : Nat) : Int))), .v (pD p), .v (.int n), .v (.int (p.ord.length : Nat)), s6]) ?_]
      · exact r2
      · clear r2 e1 e2 cb
        generalize ((n * p.ord.length + (lay dn (fl (ofRn r))).length : Nat) : Int) = W at a1 ⊢
        generalize ((n * p.ord.length : Nat) : Int) = M at m1 hc' ⊢
        generalize pD (.nd cp dn rs) = P0 at hw a1 ⊢
        generalize pD p = P1 at sz a1 ⊢
        generalize (p.ord.length : Int) = own at *
        generalize (i : Int) = ii at *
        simp -implicitDefEqProofs [sz, f5.set, m1, hc']
end
end VL.K30
end
section
/-! E30o: how many ahead are greater; the greatest code. -/
namespace VL.K30
open PySem M06
abbrev aB : List S := [.asg (.nm 5) (.call 12 [(.var 3)]),
    .ife (.cmp .lt (.var 1) (.bin .mul (.var 4) (.var 5))) [.asg (.nm 6) (.call 21 [(.var 3), (.bin .mod (.var 1) (.var 5))]),
    .ret (.ite (.cmp .eq (.call 11 [(.var 0)]) (.glo (.str (Str.ofString "down")))) (.bin .add (.bin .add (.var 6) (.var 2)) (.bin .mul (.bin .div (.var 1) (.var 5)) (.var 5))) (.var 6))] [],
    .aug 1 .sub (.bin .mul (.var 4) (.var 5)),
    .aug 2 .add (.bin .mul (.var 4) (.var 5))]
mutual
theorem e_ag {b : Int} (hb : b + 1 < wideB) : ∀ {p : P}, wf b p → ∀ {k : Nat}, ht p ≤ k → ∀ {i : Nat}, i < p.ord.length → call X (k + 3) 21 [pD p, .int i] = some (.v (.int (cA p.ord i)), .non)
  | .one, _, k, _, i, hi => by
    rw [P.ord] at hi
    have : i = 0 := by simp at hi; exact hi
    subst this
    have e : cA P.one.ord 0 = 0 := rfl
    rw [e, go_f at_ahead_greater rfl rfl]
    simp [f_ahead_greater]
  | .nd cp dn rs, h, k, hk, i, hi => by
    have h' := h
    have hL := (size_pos h').2
    rw [len_wf h'] at hL
    have hr := e_runs_of (k + 1) h'
    rw [wf] at h
    rw [ht] at hk
    rw [nd_ord] at hi hL ⊢
    obtain ⟨ρ', r⟩ := e_agR hb (cp := cp) (dn := dn) (rs := rs) h.2.2.1 (k := k - 1) (by omega) (i := i) hi hL (a := 0) fr_no fr_no fr_no fr_no
    rw [show k - 1 + 3 = k + 2 by omega] at r
    have e : (cA (lay dn (fl (ofRn rs))) i + if dn = true then (0 : Int) else 0) = cA (lay dn (fl (ofRn rs))) i := by cases dn <;> simp
    rw [e] at r
    unfold aB at r
    rw [go_f at_ahead_greater rfl rfl]
    generalize cA (lay dn (fl (ofRn rs))) i = V at r ⊢
    generalize (i : Int) = j at r ⊢
    simp -implicitDefEqProofs [f_ahead_greater, hr, r]
theorem e_agR {b : Int} (hb : b + 1 < wideB) {cp dn : Bool} {rs : Rn} : ∀ {r : Rn}, wfR b r → ∀ {k : Nat}, htR r ≤ k → ∀ {i : Nat}, i < (lay dn (fl (ofRn r))).length → ((lay dn (fl (ofRn r))).length : Int) ≤ b → ∀ {a : Int} {s3 s4 s5 s6 : Sl}, Fr s3 → Fr s4 → Fr s5 → Fr s6 →
    ∃ ρ', forL (asgD (.tp [.nm 3, .nm 4])) (execs (th X (k + 3)) aB) (runsD r) [.v (pD (.nd cp dn rs)), .v (.int (i : Nat)), .v (.int a), s3, s4, s5, s6] = .rt (.v (.int (cA (lay dn (fl (ofRn r))) i + if dn then a else 0))) ρ'
  | .nil, _, k, _, i, hi, _, _, _, _, _, _, _, _, _, _ => by
    rw [ofRn] at hi
    exact absurd hi (by simp [fl_nil, lay_nil])
  | .cons n p r, h, k, hk, i, hi, hL, a, s3, s4, s5, s6, f3, f4, f5, f6 => by
    rw [wfR] at h
    rw [htR] at hk
    rw [ofRn, fl_cons] at hi hL ⊢
    have po : Pm p.ord := ord_pm p
    have pr := fl_pm (ofRn r)
    have h1 := ord_pos h.2.1
    have sz := e_size_of (b := b) (by omega) h.2.1 (k := k + 1) (by omega)
    rw [len_wf h.2.1] at sz
    have hw := e_word_of (k + 2) (cp := cp) (dn := dn) (rs := rs)
    have lens := rep_len dn n p.ord (fl (ofRn r))
    rw [lens] at hi hL
    have cb := cA_rep (dn := dn) po pr n i hi
    have n1 : n * 1 ≤ n * p.ord.length := Nat.mul_le_mul_left _ h1
    have n2 : 1 * p.ord.length ≤ n * p.ord.length := Nat.mul_le_mul_right _ h.1
    have w1 : ((n : Nat) : Int).natAbs < wideB := by omega
    have w2 : ((p.ord.length : Nat) : Int).natAbs < wideB := by omega
    have m1 : binop .mul (.int n) (.int (p.ord.length : Nat)) = some (.v (.int ((n * p.ord.length : Nat) : Int))) := by
      rw [bop_mul (mulOk_w w1 w2)]
      simp
    have a1 : asgD (.tp [.nm 3, .nm 4]) (.tup [pD p, .int n]) [.v (pD (.nd cp dn rs)), .v (.int (i : Nat)), .v (.int a), s3, s4, s5, s6] = some [.v (pD (.nd cp dn rs)), .v (.int (i : Nat)), .v (.int a), .v (pD p), .v (.int n), s5, s6] := by simp [f3.set, f4.set]
    rw [runsD]
    by_cases hc : i < n * p.ord.length
    · rw [if_pos hc] at cb
      have ih := e_ag hb h.2.1 (k := k) (by omega) (i := i % p.ord.length) (Nat.mod_lt _ (by omega))
      have md : binop .mod (.int (i : Nat)) (.int (p.ord.length : Nat)) = some (.v (.int ((i % p.ord.length : Nat) : Int))) := by
        rw [bop_mod (by omega)]
        simp
      have dv : binop .div (.int (i : Nat)) (.int (p.ord.length : Nat)) = some (.v (.int ((i / p.ord.length : Nat) : Int))) := by
        rw [bop_div (by omega) w2]
        simp
      have dle := Nat.div_le_self i p.ord.length
      have w3 : (((i / p.ord.length : Nat) : Int)).natAbs < wideB := by
        have hi2 : (i : Int) ≤ b := by omega
        clear cb hL lens
        generalize i / p.ord.length = q at dle ⊢
        omega
      have m2 : binop .mul (.int ((i / p.ord.length : Nat) : Int)) (.int (p.ord.length : Nat)) = some (.v (.int ((i / p.ord.length * p.ord.length : Nat) : Int))) := by
        rw [bop_mul (mulOk_w w3 w2)]
        simp
      have hc' : (i : Int) < ((n * p.ord.length : Nat) : Int) := by omega
      rw [cb]
      generalize ((n * p.ord.length : Nat) : Int) = M at m1 hc'
      generalize ((i % p.ord.length : Nat) : Int) = j at md ih
      generalize ((i / p.ord.length * p.ord.length : Nat) : Int) = q2 at m2 ⊢
      generalize ((i / p.ord.length : Nat) : Int) = q at dv m2
      generalize cA p.ord (i % p.ord.length) = V at ih ⊢
      have wn := wd_dn dn
      generalize pD (.nd cp dn rs) = P0 at hw a1 ⊢
      generalize pD p = P1 at sz ih a1 ⊢
      generalize (p.ord.length : Int) = own at *
      generalize (i : Int) = ii at *
      refine ⟨_, forL_rt a1 (ρ2 := [.v P0, .v (.int ii), .v (.int a), .v P1, .v (.int n), .v (.int own), .v (.int V)]) ?_⟩
      cases dn with
      | true => simp -implicitDefEqProofs [sz, f5.set, m1, hc', md, ih, f6.set, hw, wn, dv, m2]; omega
      | false => simp -implicitDefEqProofs [sz, f5.set, m1, hc', md, ih, f6.set, hw, wn]
    · rw [if_neg hc] at cb
      have hc' : ¬ (i : Int) < ((n * p.ord.length : Nat) : Int) := by omega
      obtain ⟨ρ', r2⟩ := e_agR hb (cp := cp) (dn := dn) (rs := rs) h.2.2 (k := k) (by omega) (i := i - n * p.ord.length) (by omega) (by omega) (a := a + ((n * p.ord.length : Nat) : Int)) (s3 := .v (pD p)) (s4 := .v (.int n)) (s5 := .v (.int (p.ord.length : Nat))) (s6 := s6) (fr_v _) (fr_v _) (fr_v _) f6
      refine ⟨ρ', ?_⟩
      have e1 : ((i - n * p.ord.length : Nat) : Int) = (i : Int) - ((n * p.ord.length : Nat) : Int) := by omega
      have e2 : (cA (lay dn (List.replicate n p.ord ++ fl (ofRn r))) i + if dn = true then a else 0) = cA (lay dn (fl (ofRn r))) (i - n * p.ord.length) + if dn = true then a + ((n * p.ord.length : Nat) : Int) else 0 := by
        rw [cb]
        cases dn with
        | true => simp only [if_true]; omega
        | false => simp
      rw [e2]
      rw [e1] at r2
      rw [forL_step a1 (ρ2 := [.v (pD (.nd cp dn rs)), .v (.int ((i : Int) - ((n * p.ord.length : Nat) : Int))), .v (.int (a + ((n * p.ord.length : Nat) : Int))), .v (pD p), .v (.int n), .v (.int (p.ord.length : Nat)), s6]) ?_]
      · exact r2
      · clear r2 e1 e2 cb
        generalize ((n * p.ord.length : Nat) : Int) = M at m1 hc' ⊢
        generalize pD (.nd cp dn rs) = P0 at hw a1 ⊢
        generalize pD p = P1 at sz a1 ⊢
        generalize (p.ord.length : Int) = own at *
        generalize (i : Int) = ii at *
        simp -implicitDefEqProofs [sz, f5.set, m1, hc']
end
abbrev gB : List S := [.asg (.nm 5) (.call 12 [(.var 3)]),
    .asg (.nm 1) (.bi .max2 [(.var 1), (.bin .add (.call 24 [(.var 3)]) (.ite (.cmp .eq (.call 11 [(.var 0)]) (.glo (.str (Str.ofString "down")))) (.bin .sub (.var 2) (.var 5)) (.con (.int (0)))))]),
    .aug 2 .sub (.bin .mul (.var 4) (.var 5))]
theorem max2_i (a b : Int) : biop .max2 [.int a, .int b] = some (.v (.int (max a b))) := rfl
mutual
theorem e_gi {b : Int} (hb : b + 1 < wideB) : ∀ {p : P}, wf b p → ∀ {k : Nat}, ht p ≤ k → call X (k + 3) 24 [pD p] = some (.v (.int (mG p.ord)), .non)
  | .one, _, k, _ => by
    have e : mG P.one.ord = 0 := rfl
    rw [e, go_f at_greatest_in rfl rfl]
    simp [f_greatest_in]
  | .nd cp dn rs, h, k, hk => by
    have h' := h
    have sz := e_size_of (b := b) (by omega) h' (k := k) hk
    rw [len_wf h'] at sz
    have hL := (size_pos h').2
    rw [len_wf h'] at hL
    have hr := e_runs_of (k + 1) h'
    rw [wf] at h
    rw [ht] at hk
    rw [nd_ord] at sz hL ⊢
    obtain ⟨s2, s3, s4, s5, r⟩ := e_giR hb (cp := cp) (dn := dn) (rs := rs) h.2.2.1 (k := k - 1) (by omega) hL (m := 0) (Int.le_refl 0) fr_no fr_no fr_no
    rw [show k - 1 + 3 = k + 2 by omega] at r
    have e : max 0 (mG (lay dn (fl (ofRn rs)))) = mG (lay dn (fl (ofRn rs))) := by
      have := mx_nn (invs (lay dn (fl (ofRn rs))))
      unfold mG
      omega
    rw [e] at r
    unfold gB at r
    rw [go_f at_greatest_in rfl rfl]
    generalize mG (lay dn (fl (ofRn rs))) = V at r ⊢
    generalize ((lay dn (fl (ofRn rs))).length : Int) = W at sz r
    simp -implicitDefEqProofs [f_greatest_in, sz, hr, r]
theorem e_giR {b : Int} (hb : b + 1 < wideB) {cp dn : Bool} {rs : Rn} : ∀ {r : Rn}, wfR b r → ∀ {k : Nat}, htR r ≤ k → ((lay dn (fl (ofRn r))).length : Int) ≤ b → ∀ {m : Int} {s3 s4 s5 : Sl}, 0 ≤ m → Fr s3 → Fr s4 → Fr s5 →
    ∃ s2' s3' s4' s5', forL (asgD (.tp [.nm 3, .nm 4])) (execs (th X (k + 3)) gB) (runsD r) [.v (pD (.nd cp dn rs)), .v (.int m), .v (.int ((lay dn (fl (ofRn r))).length : Nat)), s3, s4, s5] = .nx [.v (pD (.nd cp dn rs)), .v (.int (max m (mG (lay dn (fl (ofRn r)))))), s2', s3', s4', s5']
  | .nil, _, k, _, _, m, s3, s4, s5, hm, _, _, _ => by
    refine ⟨.v (.int ((lay dn (fl (ofRn .nil))).length : Nat)), s3, s4, s5, ?_⟩
    have e : mG (lay dn (fl (ofRn .nil))) = 0 := rfl
    rw [e, Int.max_eq_left hm]
    rfl
  | .cons n p r, h, k, hk, hL, m, s3, s4, s5, hm, f3, f4, f5 => by
    rw [wfR] at h
    rw [htR] at hk
    rw [ofRn, fl_cons] at hL ⊢
    have po : Pm p.ord := ord_pm p
    have pr := fl_pm (ofRn r)
    have h1 := ord_pos h.2.1
    have ih := e_gi hb h.2.1 (k := k) (by omega)
    have sz := e_size_of (b := b) (by omega) h.2.1 (k := k + 1) (by omega)
    rw [len_wf h.2.1] at sz
    have hw := e_word_of (k + 2) (cp := cp) (dn := dn) (rs := rs)
    have lens := rep_len dn n p.ord (fl (ofRn r))
    obtain ⟨n', rfl⟩ : ∃ n', n = n' + 1 := ⟨n - 1, by have := h.1; omega⟩
    have cb := mG_rep (dn := dn) po (ok_ne (ok_wf h.2.1)) pr n'
    rw [lens] at hL ⊢
    have n1 : (n' + 1) * 1 ≤ (n' + 1) * p.ord.length := Nat.mul_le_mul_left _ h1
    have n2 : 1 * p.ord.length ≤ (n' + 1) * p.ord.length := Nat.mul_le_mul_right _ h.1
    have w1 : ((n' + 1 : Nat) : Int).natAbs < wideB := by omega
    have w2 : ((p.ord.length : Nat) : Int).natAbs < wideB := by omega
    have m1 : binop .mul (.int ((n' + 1 : Nat) : Int)) (.int (p.ord.length : Nat)) = some (.v (.int (((n' + 1) * p.ord.length : Nat) : Int))) := by
      rw [bop_mul (mulOk_w w1 w2)]
      congr 1
    have a1 : asgD (.tp [.nm 3, .nm 4]) (.tup [pD p, .int ((n' + 1 : Nat) : Int)]) [.v (pD (.nd cp dn rs)), .v (.int m), .v (.int (((n' + 1) * p.ord.length + (lay dn (fl (ofRn r))).length : Nat) : Int)), s3, s4, s5] = some [.v (pD (.nd cp dn rs)), .v (.int m), .v (.int (((n' + 1) * p.ord.length + (lay dn (fl (ofRn r))).length : Nat) : Int)), .v (pD p), .v (.int ((n' + 1 : Nat) : Int)), s5] := by simp [f3.set, f4.set]
    obtain ⟨t2, t3, t4, t5, r2⟩ := e_giR hb (cp := cp) (dn := dn) (rs := rs) h.2.2 (k := k) (by omega) (by omega) (m := max m (mG p.ord + if dn then (((n' + 1) * p.ord.length + (lay dn (fl (ofRn r))).length : Nat) : Int) - p.ord.length else 0)) (s3 := .v (pD p)) (s4 := .v (.int ((n' + 1 : Nat) : Int))) (s5 := .v (.int (p.ord.length : Nat))) (by omega) (fr_v _) (fr_v _) (fr_v _)
    refine ⟨t2, t3, t4, t5, ?_⟩
    have e2 : (((lay dn (fl (ofRn r))).length : Nat) : Int) = (((n' + 1) * p.ord.length + (lay dn (fl (ofRn r))).length : Nat) : Int) - (((n' + 1) * p.ord.length : Nat) : Int) := by omega
    rw [e2] at r2
    rw [runsD, cb, ← Int.max_assoc, forL_step a1 (ρ2 := [.v (pD (.nd cp dn rs)), .v (.int (max m (mG p.ord + if dn then (((n' + 1) * p.ord.length + (lay dn (fl (ofRn r))).length : Nat) : Int) - p.ord.length else 0))), .v (.int ((((n' + 1) * p.ord.length + (lay dn (fl (ofRn r))).length : Nat) : Int) - (((n' + 1) * p.ord.length : Nat) : Int))), .v (pD p), .v (.int ((n' + 1 : Nat) : Int)), .v (.int (p.ord.length : Nat))]) ?_]
    · exact r2
    · clear r2 e2 cb
      have wn := wd_dn dn
      have mx2 := max2_i
      generalize (((n' + 1) * p.ord.length + (lay dn (fl (ofRn r))).length : Nat) : Int) = W at a1 ⊢
      generalize (((n' + 1) * p.ord.length : Nat) : Int) = M at m1 ⊢
      generalize ((n' + 1 : Nat) : Int) = N at *
      generalize pD (.nd cp dn rs) = P0 at hw a1 ⊢
      generalize pD p = P1 at sz ih a1 ⊢
      generalize mG p.ord = V at ih ⊢
      generalize (p.ord.length : Int) = own at *
      cases dn with
      | true => simp -implicitDefEqProofs [sz, f5.set, ih, hw, wn, mx2, m1]
      | false => simp -implicitDefEqProofs [sz, f5.set, ih, hw, wn, mx2, m1]
end
end VL.K30
end
section
/-! E30p: numbers within bounds, places; the open defs at plans. -/
namespace VL.K30
open PySem M06
abbrev xC : Ex := ⟨2, none⟩
abbrev xO : Ex := ⟨3, none⟩
abbrev xP : Ex := ⟨4, none⟩
abbrev xN : Ex := ⟨5, none⟩
abbrev xL : Ex := ⟨6, none⟩
/-- is it an integer -/
def iI (d : D) (b : Bool) : Prop := ∀ k, call X (k + 1) 0 [d] = some (.v (.bl b), .non)
theorem ii_int (i : Int) : iI (.int i) true := fun k => by rw [go_f at_is_int rfl rfl]; simp [f_is_int, kdTy]
theorem ni_non : iI .non false := fun k => by rw [go_f at_is_int rfl rfl]; simp [f_is_int, kdTy]
theorem ni_bl (b : Bool) : iI (.bl b) false := fun k => by rw [go_f at_is_int rfl rfl]; simp [f_is_int, kdTy]
theorem ni_str (b : Str) : iI (.str b) false := fun k => by rw [go_f at_is_int rfl rfl]; simp [f_is_int, kdTy]
theorem ni_tup (b : List D) : iI (.tup b) false := fun k => by rw [go_f at_is_int rfl rfl]; simp [f_is_int, kdTy]
theorem ni_lst (b : List D) : iI (.lst b) false := fun k => by rw [go_f at_is_int rfl rfl]; simp [f_is_int, kdTy]
/-- none of the numbers from a to b -/
def Out_ (a b : Int) (d : D) : Prop := iI d false ∨ ∃ i, d = .int i ∧ ¬ (a ≤ i ∧ i ≤ b)
theorem e_wi_bad (k : Nat) {d : D} {a b : Int} (h : Out_ a b d) : call X (k + 2) 1 [d, .int a, .int b] = some (.v (.bl false), .non) := by
  rcases h with h | ⟨i, rfl, h⟩
  · rw [go_f at_is_within rfl rfl]
    simp [f_is_within, h k]
  · rw [e_is_within k i a b]
    by_cases h1 : a ≤ i
    · have : ¬ i ≤ b := fun z => h ⟨h1, z⟩
      simp [this]
    · simp [h1]
theorem e_cw_ok (k : Nat) {i a b : Int} (h1 : a ≤ i) (h2 : i ≤ b) : call X (k + 3) 3 [.int i, .int a, .int b] = some (.v .non, .non) := by
  have h := e_is_within k i a b
  rw [go_f at_check_within rfl rfl]
  simp [f_check_within, h, h1, h2]
theorem e_cw_bad (k : Nat) {d : D} {a b : Int} (h : Out_ a b d) : call X (k + 3) 3 [d, .int a, .int b] = some (.ex xN, .non) := by
  have hw := e_wi_bad k h
  rw [go_f at_check_within rfl rfl]
  simp [f_check_within, hw]
theorem e_cp_ok (k : Nat) {i n : Int} (h1 : 0 ≤ i) (h2 : i < n) : call X (k + 3) 4 [.int n, .int i] = some (.v .non, .non) := by
  have h := e_is_within k i 0 (n - 1)
  have e1 : decide (0 ≤ i) = true := by simpa using h1
  have e2 : decide (i ≤ n - 1) = true := by simp; omega
  rw [e1, e2] at h
  rw [go_f at_check_place rfl rfl]
  simp -implicitDefEqProofs [f_check_place, h]
theorem e_cp_bad (k : Nat) {d : D} {n : Int} (h : Out_ 0 (n - 1) d) : call X (k + 3) 4 [.int n, d] = some (.ex xL, .non) := by
  have hw := e_wi_bad k h
  rw [go_f at_check_place rfl rfl]
  simp -implicitDefEqProofs [f_check_place, hw]
section
variable {b : Int} {p : P} (h : Pl b p)
include h
theorem Pl.b1w : b + 1 < wideB := by
  have h1 := h.b1
  have e : MC + 1 < wideB := by decide +kernel
  omega
theorem e_code_at (k : Nat) {i : Nat} (hi : i < p.ord.length) : call X (k + 17) 22 [pD p, .int i] = some (.v (.int (cB p.ord i)), .non) := by
  have h1 := e_check_plan h k
  have h2 := e_size_of h.bw h.wf (k := k + 14) (by have := h.ht; omega)
  rw [len_wf h.wf] at h2
  have h3 := e_cp_ok (k + 13) (i := (i : Nat)) (n := (p.ord.length : Nat)) (by omega) (by omega)
  have h4 := e_bl h.b1w h.wf (k := k + 13) (by have := h.ht; omega) hi
  rw [go_f at_code_at rfl rfl]
  generalize cB p.ord i = V at h4 ⊢
  generalize pD p = A at *
  generalize (p.ord.length : Int) = n at *
  generalize (i : Int) = j at *
  simp -implicitDefEqProofs [f_code_at, h1, h2, h3, h4]
theorem e_code_at_bad (k : Nat) {d : D} (hd : Out_ 0 ((p.ord.length : Int) - 1) d) : call X (k + 17) 22 [pD p, d] = some (.ex xL, .non) := by
  have h1 := e_check_plan h k
  have h2 := e_size_of h.bw h.wf (k := k + 14) (by have := h.ht; omega)
  rw [len_wf h.wf] at h2
  have h3 := e_cp_bad (k + 13) hd
  rw [go_f at_code_at rfl rfl]
  generalize pD p = A at *
  generalize (p.ord.length : Int) = n at *
  simp -implicitDefEqProofs [f_code_at, h1, h2, h3]
theorem e_great_ahead (k : Nat) {i : Nat} (hi : i < p.ord.length) : call X (k + 17) 23 [pD p, .int i] = some (.v (.int (cA p.ord i)), .non) := by
  have h1 := e_check_plan h k
  have h2 := e_size_of h.bw h.wf (k := k + 14) (by have := h.ht; omega)
  rw [len_wf h.wf] at h2
  have h3 := e_cp_ok (k + 13) (i := (i : Nat)) (n := (p.ord.length : Nat)) (by omega) (by omega)
  have h4 := e_ag h.b1w h.wf (k := k + 13) (by have := h.ht; omega) hi
  rw [go_f at_greater_ahead rfl rfl]
  generalize cA p.ord i = V at h4 ⊢
  generalize pD p = A at *
  generalize (p.ord.length : Int) = n at *
  generalize (i : Int) = j at *
  simp -implicitDefEqProofs [f_greater_ahead, h1, h2, h3, h4]
theorem e_great_ahead_bad (k : Nat) {d : D} (hd : Out_ 0 ((p.ord.length : Int) - 1) d) : call X (k + 17) 23 [pD p, d] = some (.ex xL, .non) := by
  have h1 := e_check_plan h k
  have h2 := e_size_of h.bw h.wf (k := k + 14) (by have := h.ht; omega)
  rw [len_wf h.wf] at h2
  have h3 := e_cp_bad (k + 13) hd
  rw [go_f at_greater_ahead rfl rfl]
  generalize pD p = A at *
  generalize (p.ord.length : Int) = n at *
  simp -implicitDefEqProofs [f_greater_ahead, h1, h2, h3]
theorem e_greatest_code (k : Nat) : call X (k + 17) 25 [pD p] = some (.v (.int (mG p.ord)), .non) := by
  have h1 := e_check_plan h k
  have h4 := e_gi h.b1w h.wf (k := k + 13) (by have := h.ht; omega)
  rw [go_f at_greatest_code rfl rfl]
  generalize mG p.ord = V at h4 ⊢
  generalize pD p = A at *
  simp -implicitDefEqProofs [f_greatest_code, h1, h4]
end
end VL.K30
end
section
/-! E30q: what is an order. -/
namespace VL.K30
open PySem M06
abbrev orD (o : L) : D := .tup (o.map .int)
/-! ### orders -/
theorem all_bls {l : List D} {f : D → Bool} : biop .all [.lst (l.map fun d => .bl (f d))] = some (.v (.bl (l.all f))) := by
  have e : l.map (fun d => D.bl (f d)) = (l.map f).map .bl := by rw [List.map_map]; rfl
  rw [e, bi_all]
  simp [List.all_map]
theorem e_is_ints (k : Nat) {ds : List D} {f : D → Bool} (hl : ds.length ≤ 16777216) (h : ∀ d ∈ ds, call X (k + 1) 0 [d] = some (.v (.bl (f d)), .non)) : call X (k + 2) 2 [.tup ds] = some (.v (.bl (ds.all f)), .non) := by
  have lc := lcE_ml (T := th X (k + 1)) (e := .call 0 [.var 1]) (ρ := [.v (.tup ds), .no]) (i := 1) (l := ds) (g := fun d => d) (f := fun d => .bl (f d)) rfl (by rw [LINE_e]; exact hl) (fun z hz => by simp [h z hz])
  have al := all_bls (l := ds) (f := f)
  have e0 : ds.map (fun d => d) = ds := List.map_id _
  rw [e0] at lc
  rw [go_f at_is_ints rfl rfl]
  generalize ds.map (fun d => D.bl (f d)) = Q at lc al
  simp -implicitDefEqProofs [f_is_ints, kdTy, lc, al]
theorem e_ints_int (k : Nat) {l : L} (hl : l.length ≤ 16777216) : call X (k + 2) 2 [orD l] = some (.v (.bl true), .non) := by
  have h := e_is_ints k (ds := l.map .int) (f := fun _ => true) (by simpa using hl) (fun d hd => by
    obtain ⟨i, _, rfl⟩ := List.mem_map.mp hd
    exact ii_int i k)
  have e : (l.map D.int).all (fun _ => true) = true := by simp
  rw [e] at h
  exact h
theorem sort_pm {o : L} (h : Pm o) : sortI o = rg o.length := sorted_uniq ((sortI_perm _).trans h) (sortI_sorted _) (rg_sorted _)
theorem rg_int (n : Nat) : ((List.range n).map fun k => D.int (k : Nat)) = (rg n).map .int := by
  unfold rg
  rw [List.map_map]
  rfl
theorem e_is_order (k : Nat) {o : L} (h : Pm o) (h1 : 1 ≤ o.length) (h2 : o.length ≤ 60) : call X (k + 3) 13 [orD o] = some (.v (.bl true), .non) := by
  have i1 := e_ints_int k (l := o) (by omega)
  have s1 := bi_srt_t (is := o)
  rw [sort_pm h] at s1
  have r1 := bi_lrg (n := o.length) (by rw [LINE_e]; omega)
  rw [rg_int] at r1
  have ce := cm_il (l := rg o.length)
  have ll : (o.map D.int).length = o.length := by simp
  have c1 : (1 : Int) ≤ (o.length : Nat) := by omega
  have c2 : ((o.length : Nat) : Int) ≤ 60 := by omega
  rw [go_f at_is_order rfl rfl]
  generalize (rg o.length).map D.int = Q at s1 r1 ce
  unfold orD at i1 ⊢
  generalize o.map D.int = O at i1 s1 ll ⊢
  simp -implicitDefEqProofs [f_is_order, i1, chR_vv, ll, h1, h2, c1, c2, s1, r1, ce]
theorem e_co_ok (k : Nat) {o : L} (h : Pm o) (h1 : 1 ≤ o.length) (h2 : o.length ≤ 60) : call X (k + 4) 14 [orD o] = some (.v .non, .non) := by
  have e := e_is_order k h h1 h2
  rw [go_f at_check_order rfl rfl]
  generalize orD o = O at e ⊢
  simp -implicitDefEqProofs [f_check_order, e]
/-- no order -/
def BO (d : D) : Prop := ∀ k, call X (k + 3) 13 [d] = some (.v (.bl false), .non)
theorem bo_nt {d : D} (h : isTy [.tuple] d = some false) : BO d := fun k => by
  have i1 : call X (k + 2) 2 [d] = some (.v (.bl false), .non) := by
    rw [go_f at_is_ints rfl rfl]
    simp -implicitDefEqProofs [f_is_ints, h]
  rw [go_f at_is_order rfl rfl]
  simp -implicitDefEqProofs [f_is_order, i1]
theorem bo_ni {a : D} {ds : List D} (f : D → Bool) (ha : f a = false) (hl : ds.length ≤ 100) (h : ∀ k, ∀ d ∈ a :: ds, call X (k + 1) 0 [d] = some (.v (.bl (f d)), .non)) : BO (.tup (a :: ds)) := fun k => by
  have i1 := e_is_ints k (ds := a :: ds) (f := f) (by rw [List.length_cons]; omega) (h k)
  rw [List.all_cons, ha, Bool.false_and] at i1
  rw [go_f at_is_order rfl rfl]
  generalize D.tup (a :: ds) = O at i1 ⊢
  simp -implicitDefEqProofs [f_is_order, i1]
theorem bo_nil : BO (.tup []) := fun k => by
  have i1 := e_ints_int k (l := []) (by simp)
  unfold orD at i1
  rw [List.map_nil] at i1
  rw [go_f at_is_order rfl rfl]
  simp -implicitDefEqProofs [f_is_order, i1, chR_vv]
theorem bo_00 : BO (.tup [.int 0, .int 0]) := fun k => by
  have i1 := e_ints_int k (l := [0, 0]) (by simp)
  have s1 := bi_srt_t (is := [0, 0])
  have r1 := bi_lrg (n := 2) (by rw [LINE_e]; decide)
  unfold orD at i1
  have e1 : sortI [0, 0] = [0, 0] := by decide
  have e2 : (List.range 2).map (fun (k : Nat) => D.int (k : Nat)) = [.int 0, .int 1] := rfl
  rw [e1] at s1
  rw [e2] at r1
  simp only [List.map_cons, List.map_nil] at i1 s1
  have ce : cmpop .eq (.lst [.int 0, .int 0]) (.lst [.int 0, .int 1]) = some false := by
    rw [cm_eq' (by rfl)]
    rfl
  rw [show ((2 : Nat) : Int) = 2 from rfl] at r1
  rw [go_f at_is_order rfl rfl]
  simp -implicitDefEqProofs [f_is_order, i1, chR_vv, s1, r1, ce]
theorem bo_1 : BO (.tup [.int 1]) := fun k => by
  have i1 := e_ints_int k (l := [1]) (by simp)
  have s1 := bi_srt_t (is := [1])
  have r1 := bi_lrg (n := 1) (by rw [LINE_e]; decide)
  unfold orD at i1
  have e1 : sortI [1] = [1] := by decide
  have e2 : (List.range 1).map (fun (k : Nat) => D.int (k : Nat)) = [.int 0] := rfl
  rw [e1] at s1
  rw [e2] at r1
  simp only [List.map_cons, List.map_nil] at i1 s1
  have ce : cmpop .eq (.lst [.int 1]) (.lst [.int 0]) = some false := by
    rw [cm_eq' (by rfl)]
    rfl
  rw [show ((1 : Nat) : Int) = 1 from rfl] at r1
  rw [go_f at_is_order rfl rfl]
  simp -implicitDefEqProofs [f_is_order, i1, chR_vv, s1, r1, ce]
theorem e_co_bad (k : Nat) {d : D} (h : BO d) : call X (k + 4) 14 [d] = some (.ex xO, .non) := by
  rw [go_f at_check_order rfl rfl]
  simp -implicitDefEqProofs [f_check_order, h k]
theorem bo_02 : BO (.tup [.int 0, .int 2]) := fun k => by
  have i1 := e_ints_int k (l := [0, 2]) (by simp)
  have s1 := bi_srt_t (is := [0, 2])
  have r1 := bi_lrg (n := 2) (by rw [LINE_e]; decide)
  unfold orD at i1
  have e1 : sortI [0, 2] = [0, 2] := by decide
  have e2 : (List.range 2).map (fun (k : Nat) => D.int (k : Nat)) = [.int 0, .int 1] := rfl
  rw [e1] at s1
  rw [e2] at r1
  simp only [List.map_cons, List.map_nil] at i1 s1
  have ce : cmpop .eq (.lst [.int 0, .int 2]) (.lst [.int 0, .int 1]) = some false := by
    rw [cm_eq' (by rfl)]
    rfl
  rw [show ((2 : Nat) : Int) = 2 from rfl] at r1
  rw [go_f at_is_order rfl rfl]
  simp -implicitDefEqProofs [f_is_order, i1, chR_vv, s1, r1, ce]
end VL.K30
end
section
/-! E30r: codes of orders, orders of codes. -/
namespace VL.K30
open PySem M06
theorem slc_lot {xs : List D} {i : Nat} : slcD .lo (.tup xs) [(i : Int)] = some (.v (.tup (xs.drop i))) := by
  show some (R.v (.tup (cutL xs (cutOf xs.length i) xs.length))) = _
  have h : cutOf xs.length i = min i xs.length := by
    unfold cutOf
    rw [if_neg (by omega)]
    simp
  rw [h, cutL]
  simp only [Option.some.injEq, R.v.injEq, D.tup.injEq]
  rcases Nat.le_total i xs.length with z | z
  · rw [Nat.min_eq_left z, List.take_of_length_le (by simp)]
  · rw [Nat.min_eq_right z, List.drop_eq_nil_of_le z, List.drop_length]
    simp
theorem slc_lol {xs : List D} {i : Nat} : slcD .lo (.lst xs) [(i : Int)] = some (.fl (xs.drop i)) := by
  have h := slc_lot (xs := xs) (i := i)
  have e : slcD .lo (.tup xs) [(i : Int)] = (slcL .lo xs [(i : Int)]).map fun ys => .v (.tup ys) := rfl
  have e2 : slcD .lo (.lst xs) [(i : Int)] = (slcL .lo xs [(i : Int)]).map fun ys => .fl ys := rfl
  rw [e] at h
  rw [e2]
  cases q : slcL .lo xs [(i : Int)] with
  | none => rw [q] at h; cases h
  | some ys =>
    rw [q] at h
    cases h
    rfl
theorem slc_hil {xs : List D} {i : Nat} (h : i ≤ xs.length) : slcD .hi (.lst xs) [(i : Int)] = some (.fl (xs.take i)) := by
  show some (R.fl (cutL xs 0 (cutOf xs.length i))) = _
  have e : cutOf xs.length i = i := by
    unfold cutOf
    rw [if_neg (by omega)]
    simp
    exact Nat.min_eq_left h
  rw [e, cutL]
  simp
theorem invs_zip (l : L) : ∀ (r pre : L), l = pre ++ r → (r.zipIdx pre.length).map (fun p => below p.1 (l.drop (p.2 + 1))) = invs r
  | [], pre, _ => rfl
  | x :: r, pre, h => by
    rw [List.zipIdx_cons, List.map_cons, invs]
    have h2 := invs_zip l r (pre ++ [x]) (by rw [h]; simp)
    rw [List.length_append, List.length_singleton] at h2
    rw [h2]
    congr 1
    rw [h, List.drop_append, List.drop_eq_nil_of_le (Nat.le_succ _)]
    simp
theorem below_self (x : Int) (l : L) : below x (x :: l) = below x l := by rw [below]; simp [b1]
theorem drop_zip {l : L} {p : Int × Nat} (hp : p ∈ l.zipIdx) : below p.1 (l.drop p.2) = below p.1 (l.drop (p.2 + 1)) := by
  obtain ⟨x, i⟩ := p
  have h := List.mem_zipIdx_iff_getElem?.mp hp
  have hi : i < l.length := by
    rcases Nat.lt_or_ge i l.length with z | z
    · exact z
    · rw [List.getElem?_eq_none z] at h; cases h
  have hx : l[i] = x := by
    rw [List.getElem?_eq_getElem hi] at h
    exact Option.some.inj h
  rw [List.drop_eq_getElem_cons hi, hx]
  exact below_self x _
theorem enum_z (l : L) : ((l.map D.int).zipIdx.map fun p => D.tup [.int (p.2 : Nat), p.1]) = l.zipIdx.map fun p => .tup [.int (p.2 : Nat), .int p.1] := by
  rw [List.zipIdx_map, List.map_map]
  rfl
theorem invs_map (l : L) : (l.zipIdx.map fun p => D.int (below p.1 (l.drop (p.2 + 1)))) = (invs l).map .int := by
  rw [← invs_zip l l [] rfl, List.map_map]
  rfl
theorem e_code_of (k : Nat) {l : L} (hl : l.length ≤ 16777216) : call X (k + 1) 15 [orD l] = some (.v (orD (invs l)), .non) := by
  have hz := enum_z l
  have o1 := lcE_ml2 (T := th X k) (e := .bi .len [.lc .of [.slc .lo (.var 0) [.var 2]] (.nm 1) [.cmp .lt (.var 1) (.var 3)] (.var 1)]) (ρ := [.v (orD l), .no, .no, .no]) (i := 2) (j := 3) (l := l.zipIdx) (g := fun p => .int (p.2 : Nat)) (g2 := fun p => .int p.1) (f := fun p => .int (below p.1 (l.drop (p.2 + 1)))) (by decide) rfl rfl (by rw [LINE_e, List.length_zipIdx]; exact hl) (fun p hp => by
    have hb0 := drop_zip hp
    obtain ⟨x, i⟩ := p
    have s1 := slc_lot (xs := l.map .int) (i := i)
    rw [← List.map_drop] at s1
    have f1 := lcE_fl (T := th X k) (e := .var 1) (c := .cmp .lt (.var 1) (.var 3)) (ρ := [.v (orD l), .no, .v (.int (i : Nat)), .v (.int x)]) (i := 1) (l := l.drop i) (g := .int) (f := .int) (p := fun y => decide (y < x)) rfl (by rw [LINE_e]; simp; omega) (fun z hz => by simp) (fun z hz _ => by simp)
    have hb := below_filter x (l.drop i)
    rw [hb0] at hb
    have hlen : (((l.drop i).filter fun y => decide (y < x)).map D.int).length = ((l.drop i).filter fun y => decide (y < x)).length := by simp
    generalize (l.drop i).map D.int = q at s1 f1
    generalize ((l.drop i).filter fun y => decide (y < x)).map D.int = q2 at f1 hlen
    simp -implicitDefEqProofs [s1, f1, hlen]
    exact hb.symm)
  rw [invs_map] at o1
  show _ = some (Rt.v (D.tup ((invs l).map D.int)), D.non)
  generalize (invs l).map D.int = q at o1 ⊢
  generalize hg : l.zipIdx.map (fun p => D.tup [.int (p.2 : Nat), .int p.1]) = zs at o1 hz
  rw [go_f at_code_of rfl rfl]
  simp -implicitDefEqProofs [f_code_of, hz, o1]
theorem e_lcode (k : Nat) {l : L} (hl : l.length ≤ 16777216) : call X (k + 1) 37 [orD l] = some (.v (orD (invs l)), .non) := by
  have hz := enum_z l
  have o1 := lcE_ml2 (T := th X k) (e := .bi .len [.lc .of [.slc .lo (.var 0) [.bin .add (.var 2) (.con (.int 1))]] (.nm 1) [.cmp .lt (.var 1) (.var 3)] (.var 1)]) (ρ := [.v (orD l), .no, .no, .no]) (i := 2) (j := 3) (l := l.zipIdx) (g := fun p => .int (p.2 : Nat)) (g2 := fun p => .int p.1) (f := fun p => .int (below p.1 (l.drop (p.2 + 1)))) (by decide) rfl rfl (by rw [LINE_e, List.length_zipIdx]; exact hl) (fun p hp => by
    obtain ⟨x, i⟩ := p
    have s1 := slc_lot (xs := l.map .int) (i := i + 1)
    rw [← List.map_drop] at s1
    have f1 := lcE_fl (T := th X k) (e := .var 1) (c := .cmp .lt (.var 1) (.var 3)) (ρ := [.v (orD l), .no, .v (.int (i : Nat)), .v (.int x)]) (i := 1) (l := l.drop (i + 1)) (g := .int) (f := .int) (p := fun y => decide (y < x)) rfl (by rw [LINE_e]; simp; omega) (fun z hz => by simp) (fun z hz _ => by simp)
    have hb := below_filter x (l.drop (i + 1))
    have hlen : (((l.drop (i + 1)).filter fun y => decide (y < x)).map D.int).length = ((l.drop (i + 1)).filter fun y => decide (y < x)).length := by simp
    generalize (l.drop (i + 1)).map D.int = q at s1 f1
    generalize ((l.drop (i + 1)).filter fun y => decide (y < x)).map D.int = q2 at f1 hlen
    simp only [Int.natCast_add, Int.natCast_one] at s1
    simp -implicitDefEqProofs [s1, f1, hlen]
    exact hb.symm)
  rw [invs_map] at o1
  show _ = some (Rt.v (D.tup ((invs l).map D.int)), D.non)
  generalize (invs l).map D.int = q at o1 ⊢
  generalize hg : l.zipIdx.map (fun p => D.tup [.int (p.2 : Nat), .int p.1]) = zs at o1 hz
  rw [go_f at__law_code rfl rfl]
  simp -implicitDefEqProofs [f__law_code, hz, o1]
theorem e_lcode_l (k : Nat) {l : L} (hl : l.length ≤ 16777216) : call X (k + 1) 37 [.lst (l.map .int)] = some (.v (orD (invs l)), .non) := by
  have hz := enum_z l
  have o1 := lcE_ml2 (T := th X k) (e := .bi .len [.lc .of [.slc .lo (.var 0) [.bin .add (.var 2) (.con (.int 1))]] (.nm 1) [.cmp .lt (.var 1) (.var 3)] (.var 1)]) (ρ := [.v (.lst (l.map .int)), .no, .no, .no]) (i := 2) (j := 3) (l := l.zipIdx) (g := fun p => .int (p.2 : Nat)) (g2 := fun p => .int p.1) (f := fun p => .int (below p.1 (l.drop (p.2 + 1)))) (by decide) rfl rfl (by rw [LINE_e, List.length_zipIdx]; exact hl) (fun p hp => by
    obtain ⟨x, i⟩ := p
    have s1 := slc_lol (xs := l.map .int) (i := i + 1)
    rw [← List.map_drop] at s1
    have f1 := lcE_fl (T := th X k) (e := .var 1) (c := .cmp .lt (.var 1) (.var 3)) (ρ := [.v (.lst (l.map .int)), .no, .v (.int (i : Nat)), .v (.int x)]) (i := 1) (l := l.drop (i + 1)) (g := .int) (f := .int) (p := fun y => decide (y < x)) rfl (by rw [LINE_e]; simp; omega) (fun z hz => by simp) (fun z hz _ => by simp)
    have hb := below_filter x (l.drop (i + 1))
    have hlen : (((l.drop (i + 1)).filter fun y => decide (y < x)).map D.int).length = ((l.drop (i + 1)).filter fun y => decide (y < x)).length := by simp
    generalize (l.drop (i + 1)).map D.int = q at s1 f1
    generalize ((l.drop (i + 1)).filter fun y => decide (y < x)).map D.int = q2 at f1 hlen
    generalize l.map D.int = q3 at s1 f1 ⊢
    simp only [Int.natCast_add, Int.natCast_one] at s1
    simp -implicitDefEqProofs [s1, f1, hlen]
    exact hb.symm)
  rw [invs_map] at o1
  unfold orD
  generalize (invs l).map D.int = q at o1 ⊢
  generalize hg : l.zipIdx.map (fun p => D.tup [.int (p.2 : Nat), .int p.1]) = zs at o1 hz
  generalize l.map D.int = q3 at hz o1 ⊢
  rw [go_f at__law_code rfl rfl]
  simp -implicitDefEqProofs [f__law_code, hz, o1]
theorem e_code (k : Nat) {o : L} (h : Pm o) (h1 : 1 ≤ o.length) (h2 : o.length ≤ 60) : call X (k + 5) 16 [orD o] = some (.v (orD (invs o)), .non) := by
  have c := e_co_ok k h h1 h2
  have d := e_code_of (k + 3) (l := o) (by omega)
  rw [go_f at_code rfl rfl]
  generalize orD (invs o) = V at d ⊢
  generalize orD o = O at *
  simp -implicitDefEqProofs [f_code, c, d]
theorem e_code_bad (k : Nat) {d : D} (h : BO d) : call X (k + 5) 16 [d] = some (.ex xO, .non) := by
  have c := e_co_bad k h
  rw [go_f at_code rfl rfl]
  simp -implicitDefEqProofs [f_code, c]
/-! ### back again -/
abbrev dB : List S := [.app 2 (.sub (.var 1) (.var 3)),
    .asg (.nm 1) (.bin .add (.slc .hi (.var 1) [(.var 3)]) (.slc .lo (.var 1) [(.bin .add (.var 3) (.con (.int (1))))]))]
theorem d_loop {T : Th} {x : Sl} : ∀ (cs : L) {left found : L} {s3 : Sl}, Cd cs → cs.length = left.length → found.length + cs.length ≤ 100 → Fr s3 →
    ∃ s1' s3', forL (asgD (.nm 3)) (execs T dB) (cs.map .int) [x, .ol (left.map .int), .ol (found.map .int), s3] = .nx [x, s1', .ol ((found ++ dec left cs).map .int), s3']
  | [], left, found, s3, _, _, _, _ => ⟨_, s3, by rw [dec, List.append_nil]; rfl⟩
  | c :: cs, left, found, s3, h, hl, hf, f3 => by
    obtain ⟨h0, h1, h2⟩ := h
    rw [List.length_cons] at hl hf
    obtain ⟨n, rfl⟩ := Int.eq_ofNat_of_zero_le h0
    have hn : n < left.length := by omega
    have le : (left.eraseIdx n).length = left.length - 1 := List.length_eraseIdx_of_lt hn
    have g : left.getD n 0 = left[n] := by rw [List.getD_eq_getElem?_getD, List.getElem?_eq_getElem hn]; rfl
    obtain ⟨s1', s3', r⟩ := d_loop (x := x) cs (left := left.eraseIdx n) (found := found ++ [left[n]]) (s3 := .v (.int (n : Nat))) h2 (by omega) (by simp; omega) (fr_v _)
    refine ⟨s1', s3', ?_⟩
    have e : dec left ((n : Int) :: cs) = left[n] :: dec (left.eraseIdx n) cs := by
      rw [dec, show ((n : Int)).toNat = n by omega, g]
    have sb : subD (.lst (left.map .int)) (.int (n : Nat)) = some (.int left[n]) := subD_l (by rw [List.getElem?_map, List.getElem?_eq_getElem hn]; rfl)
    have s1 := slc_hil (xs := left.map D.int) (i := n) (by simp; omega)
    have s2 := slc_lol (xs := left.map D.int) (i := n + 1)
    have ad : binop .add (.lst ((left.map D.int).take n)) (.lst ((left.map D.int).drop (n + 1))) = some (.fl ((left.eraseIdx n).map .int)) := by
      rw [binop_addl (by rw [LINE_e]; simp; omega)]
      rw [← List.map_take, ← List.map_drop, ← List.map_append, ← List.eraseIdx_eq_take_drop_succ]
    have lf : (found.map D.int).length < 16777216 := by simp; omega
    have a1 : asgD (.nm 3) (.int (n : Int)) [x, .ol (left.map .int), .ol (found.map .int), s3] = some [x, .ol (left.map .int), .ol (found.map .int), .v (.int (n : Int))] := by simp [f3.set]
    have ef : (found ++ [left[n]]).map D.int = found.map .int ++ [.int left[n]] := by simp
    rw [e, show found ++ (left[n] :: dec (left.eraseIdx n) cs) = (found ++ [left[n]]) ++ dec (left.eraseIdx n) cs by simp, List.map_cons, forL_step a1 (ρ2 := [x, .ol ((left.eraseIdx n).map .int), .ol ((found ++ [left[n]]).map .int), .v (.int (n : Int))]) ?_]
    · exact r
    · rw [ef]
      clear r ef e
      simp only [Int.natCast_add, Int.natCast_one] at s2
      generalize (left.map D.int).take n = A at *
      generalize (left.map D.int).drop (n + 1) = B at *
      generalize (left.eraseIdx n).map D.int = Cc at *
      generalize left.map D.int = Q at *
      generalize found.map D.int = F at *
      generalize left[n] = v at *
      generalize (n : Int) = m at *
      simp -implicitDefEqProofs [sb, lf, s1, s2, ad]
theorem e_dec (k : Nat) {c : L} (h : Cd c) (hl : c.length ≤ 60) : call X (k + 1) 18 [orD c] = some (.v (orD (dec (rg c.length) c)), .non) := by
  have r1 := bi_lrg (n := c.length) (by rw [LINE_e]; omega)
  rw [rg_int] at r1
  obtain ⟨s1, s3, r⟩ := d_loop (T := th X k) (x := .v (orD c)) c (left := rg c.length) (found := []) (s3 := .no) h (by rw [rg_len]) (by simp; omega) fr_no
  rw [List.nil_append, List.map_nil] at r
  have ll : (c.map D.int).length = c.length := by simp
  unfold dB at r
  rw [go_f at_order_by_code rfl rfl]
  unfold orD at r ⊢
  generalize (dec (rg c.length) c).map D.int = V at r ⊢
  generalize (rg c.length).map D.int = Q at r1 r
  generalize c.map D.int = O at *
  simp -implicitDefEqProofs [f_order_by_code, ll, r1, r]
end VL.K30
end
section
/-! E30s: numbers of orders. -/
namespace VL.K30
open PySem M06
abbrev nB (c : E) : List S := [.asg (.nm 1) (.bin .add (.bin .mul (.var 1) (.bin .sub (.bi .len [(.var 0)]) (.var 2))) (.var 3))]
theorem n_loop {T : Th} {O : D} {N : Nat} (hO : biop .len [O] = some (.v (.int (N : Nat)))) : ∀ (cs : L) {i : Nat} {f : Int} {s2 s3 : Sl}, i + cs.length = N → N ≤ 60 → Fr s2 → Fr s3 →
    ∃ s2' s3', forL (asgD (.tp [.nm 2, .nm 3])) (execs T (nB .emp)) ((cs.zipIdx i).map fun p => .tup [.int (p.2 : Nat), .int p.1]) [.v O, .v (.int f), s2, s3] = .nx [.v O, .v (.int (num f cs)), s2', s3']
  | [], i, f, s2, s3, _, _, _, _ => ⟨s2, s3, rfl⟩
  | c :: cs, i, f, s2, s3, hi, hN, f2, f3 => by
    rw [List.length_cons] at hi
    obtain ⟨t2, t3, r⟩ := n_loop (O := O) hO cs (i := i + 1) (f := f * ((cs.length : Int) + 1) + c) (s2 := .v (.int (i : Nat))) (s3 := .v (.int c)) (by omega) hN (fr_v _) (fr_v _)
    refine ⟨t2, t3, ?_⟩
    have e : ((N : Nat) : Int) - (i : Nat) = (cs.length : Int) + 1 := by omega
    have m : binop .mul (.int f) (.int ((cs.length : Int) + 1)) = some (.v (.int (f * ((cs.length : Int) + 1)))) := bop_mul (mulOk_r (by omega))
    have a1 : asgD (.tp [.nm 2, .nm 3]) (.tup [.int (i : Nat), .int c]) [.v O, .v (.int f), s2, s3] = some [.v O, .v (.int f), .v (.int (i : Nat)), .v (.int c)] := by simp [f2.set, f3.set]
    rw [List.zipIdx_cons, List.map_cons, num, forL_step a1 (ρ2 := [.v O, .v (.int (f * ((cs.length : Int) + 1) + c)), .v (.int (i : Nat)), .v (.int c)]) ?_]
    · exact r
    · clear r
      generalize (cs.length : Int) + 1 = w at *
      generalize ((N : Nat) : Int) = N' at *
      generalize ((i : Nat) : Int) = i' at *
      simp -implicitDefEqProofs [hO, e, m]
theorem len_or (l : L) : biop .len [orD l] = some (.v (.int (l.length : Nat))) := by
  have : (l.map D.int).length = l.length := by simp
  unfold orD
  simp
theorem e_order_number (k : Nat) {o : L} (h : Pm o) (h1 : 1 ≤ o.length) (h2 : o.length ≤ 60) : call X (k + 5) 27 [orD o] = some (.v (.int (num 0 (invs o))), .non) := by
  have c := e_co_ok k h h1 h2
  have d := e_code_of (k + 3) (l := o) (by omega)
  have hz := enum_z (invs o)
  obtain ⟨s2, s3, r⟩ := n_loop (T := th X (k + 4)) (len_or o) (invs o) (i := 0) (f := 0) (s2 := .no) (s3 := .no) (by rw [invs_len]; omega) h2 fr_no fr_no
  have d : call X (k + 3 + 1) 15 [orD o] = some (Rt.v (D.tup ((invs o).map D.int)), D.non) := d
  unfold nB at r
  rw [go_f at_order_number rfl rfl]
  generalize num 0 (invs o) = V at r ⊢
  generalize (invs o).zipIdx.map (fun p => D.tup [.int (p.2 : Nat), .int p.1]) = zs at hz r
  generalize (invs o).map D.int = q at d hz
  generalize orD o = O at *
  simp -implicitDefEqProofs [f_order_number, c, d, hz, r]
theorem e_number_bad (k : Nat) {d : D} (h : BO d) : call X (k + 5) 27 [d] = some (.ex xO, .non) := by
  have c := e_co_bad k h
  rw [go_f at_order_number rfl rfl]
  simp -implicitDefEqProofs [f_order_number, c]
theorem e_lnumber (k : Nat) {o : L} (h2 : o.length ≤ 60) : call X (k + 2) 38 [orD o] = some (.v (.int (num 0 (invs o))), .non) := by
  have d := e_lcode k (l := o) (by omega)
  have hz := enum_z (invs o)
  obtain ⟨s2, s3, r⟩ := n_loop (T := th X (k + 1)) (len_or o) (invs o) (i := 0) (f := 0) (s2 := .no) (s3 := .no) (by rw [invs_len]; omega) h2 fr_no fr_no
  have d : call X (k + 1) 37 [orD o] = some (Rt.v (D.tup ((invs o).map D.int)), D.non) := d
  unfold nB at r
  rw [go_f at__law_number rfl rfl]
  generalize num 0 (invs o) = V at r ⊢
  generalize (invs o).zipIdx.map (fun p => D.tup [.int (p.2 : Nat), .int p.1]) = zs at hz r
  generalize (invs o).map D.int = q at d hz
  generalize orD o = O at *
  simp -implicitDefEqProofs [f__law_number, d, hz, r]
/-! ### how many there are -/
abbrev oB : List S := [.asg (.nm 1) (.bin .mul (.var 1) (.var 2))]
theorem o_loop {T : Th} {x : Sl} : ∀ (n : Nat) {r : Nat} {s2 : Sl}, r + n ≤ 100 → Fr s2 →
    ∃ s2', forL (asgD (.nm 2)) (execs T oB) ((List.range' (r + 1) n).map fun (z : Nat) => .int (z : Nat)) [x, .v (.int (fac r : Nat)), s2] = .nx [x, .v (.int (fac (r + n) : Nat)), s2']
  | 0, r, s2, _, _ => ⟨s2, rfl⟩
  | n + 1, r, s2, h, f2 => by
    obtain ⟨t2, e⟩ := o_loop (x := x) n (r := r + 1) (s2 := .v (.int ((r + 1 : Nat) : Int))) (by omega) (fr_v _)
    refine ⟨t2, ?_⟩
    have a1 : asgD (.nm 2) (.int ((r + 1 : Nat) : Int)) [x, .v (.int (fac r : Nat)), s2] = some [x, .v (.int (fac r : Nat)), .v (.int ((r + 1 : Nat) : Int))] := by simp [f2.set]
    have m : binop .mul (.int (fac r : Nat)) (.int ((r + 1 : Nat) : Int)) = some (.v (.int (fac (r + 1) : Nat))) := by
      rw [bop_mul (mulOk_r (by omega)), fac, Int.natCast_mul, Int.mul_comm]
    rw [show r + (n + 1) = r + 1 + n by omega, List.range'_succ, List.map_cons, forL_step a1 (ρ2 := [x, .v (.int (fac (r + 1) : Nat)), .v (.int ((r + 1 : Nat) : Int))]) ?_]
    · exact e
    · generalize ((fac r : Nat) : Int) = A at *
      generalize ((fac (r + 1) : Nat) : Int) = B at *
      generalize ((r + 1 : Nat) : Int) = C at *
      simp -implicitDefEqProofs [m]
theorem it_r2 {m n : Nat} (h : n ≤ 16777216) (hm : m ≤ 16777216) : items .rng2 [.int (m : Nat), .int (n : Nat)] = some ((List.range' m (n - m)).map fun (k : Nat) => .int (k : Nat)) := by
  have ir := it_rng2 (m := (m : Int)) (n := (n : Int)) (by unfold r62; simp; omega) (by unfold r62; simp; omega)
  unfold rangeL at ir
  rw [ir, List.range'_eq_map_range, List.map_map]
  have : ((n : Int) - m).toNat = n - m := by omega
  rw [this]
  rfl
theorem e_orders_many (k : Nat) {n : Nat} (h : n ≤ 60) : call X (k + 1) 26 [.int n] = some (.v (.int (fac n : Nat)), .non) := by
  have ir := it_r2 (m := 1) (n := n + 1) (by omega) (by omega)
  obtain ⟨s2, r⟩ := o_loop (T := th X k) (x := .v (.int n)) n (r := 0) (s2 := .no) (by omega) fr_no
  simp only [Nat.zero_add] at r
  rw [Nat.add_sub_cancel] at ir
  have e1 : ((n + 1 : Nat) : Int) = (n : Int) + 1 := by omega
  have e2 : ((fac 0 : Nat) : Int) = 1 := rfl
  rw [e1, show ((1 : Nat) : Int) = 1 from rfl] at ir
  rw [e2] at r
  unfold oB at r
  rw [go_f at_orders_many rfl rfl]
  generalize ((fac n : Nat) : Int) = V at *
  generalize (List.range' 1 n).map (fun (k : Nat) => D.int (k : Nat)) = RR at *
  generalize (n : Int) = n' at *
  simp -implicitDefEqProofs [f_orders_many, ir, r]
/-! ### an order by its number -/
abbrev mB : List S := [.app 2 (.bin .mod (.var 1) (.var 3)),
    .asg (.nm 1) (.bin .div (.var 1) (.var 3))]
theorem m_loop {T : Th} {x : Sl} : ∀ (n : Nat) {r : Nat} {v : Int} {fs : L} {s3 : Sl}, r + n ≤ 100 → fs.length + n ≤ 1000 → Fr s3 →
    ∃ s1' s3', forL (asgD (.nm 3)) (execs T mB) ((List.range' (r + 1) n).map fun (z : Nat) => .int (z : Nat)) [x, .v (.int v), .ol (fs.map .int), s3] = .nx [x, s1', .ol ((fs ++ dig n r v).map .int), s3']
  | 0, r, v, fs, s3, _, _, _ => ⟨_, s3, by rw [dig, List.append_nil]; rfl⟩
  | n + 1, r, v, fs, s3, h, hl, f3 => by
    obtain ⟨t1, t3, e⟩ := m_loop (x := x) n (r := r + 1) (v := v / ((r : Int) + 1)) (fs := fs ++ [v % ((r : Int) + 1)]) (s3 := .v (.int ((r + 1 : Nat) : Int))) (by omega) (by simp; omega) (fr_v _)
    refine ⟨t1, t3, ?_⟩
    have a1 : asgD (.nm 3) (.int ((r + 1 : Nat) : Int)) [x, .v (.int v), .ol (fs.map .int), s3] = some [x, .v (.int v), .ol (fs.map .int), .v (.int ((r + 1 : Nat) : Int))] := by simp [f3.set]
    have ec : ((r + 1 : Nat) : Int) = (r : Int) + 1 := by omega
    have w100 : (100 : Int) < wideB := by decide +kernel
    have md : binop .mod (.int v) (.int ((r : Int) + 1)) = some (.v (.int (v % ((r : Int) + 1)))) := bop_mod (by omega)
    have dv : binop .div (.int v) (.int ((r : Int) + 1)) = some (.v (.int (v / ((r : Int) + 1)))) := bop_div (by omega) (by omega)
    have lf : (fs.map D.int).length < 16777216 := by simp; omega
    have ef : (fs ++ [v % ((r : Int) + 1)]).map D.int = fs.map .int ++ [.int (v % ((r : Int) + 1))] := by simp
    rw [dig, show fs ++ (v % ((r : Int) + 1) :: dig n (r + 1) (v / ((r : Int) + 1))) = (fs ++ [v % ((r : Int) + 1)]) ++ dig n (r + 1) (v / ((r : Int) + 1)) by simp, List.range'_succ, List.map_cons, forL_step a1 (ρ2 := [x, .v (.int (v / ((r : Int) + 1))), .ol ((fs ++ [v % ((r : Int) + 1)]).map .int), .v (.int ((r + 1 : Nat) : Int))]) ?_]
    · exact e
    · rw [ef, ec]
      generalize v / ((r : Int) + 1) = q at *
      generalize v % ((r : Int) + 1) = m at *
      generalize fs.map D.int = F at *
      generalize (r : Int) + 1 = w at *
      simp -implicitDefEqProofs [md, dv, lf]
theorem e_numbered (k : Nat) {n : Nat} {v : Int} (h1 : 1 ≤ n) (h2 : n ≤ 60) (h3 : 0 ≤ v) (h4 : v < fac n) : ∃ c, Cd c ∧ c.length = n ∧ num 0 c = v ∧ call X (k + 4) 28 [.int n, .int v] = some (.v (orD (dec (rg n) c)), .non) := by
  obtain ⟨c, c1, c2, c3⟩ := num_surj n v h3 h4
  refine ⟨c, c1, c2, c3, ?_⟩
  have a := e_cw_ok k (i := n) (a := 1) (b := 60) (by omega) (by omega)
  have b := e_cw_ok k (i := v) (a := 0) (b := (fac n : Int) - 1) h3 (by omega)
  have o := e_orders_many (k + 2) h2
  have ir := it_r2 (m := 1) (n := n + 1) (by omega) (by omega)
  rw [Nat.add_sub_cancel] at ir
  have e1 : ((n + 1 : Nat) : Int) = (n : Int) + 1 := by omega
  rw [e1, show ((1 : Nat) : Int) = 1 from rfl] at ir
  obtain ⟨s1, s3, r⟩ := m_loop (T := th X (k + 3)) (x := .v (.int n)) n (r := 0) (v := v) (fs := []) (s3 := .no) (by omega) (by simp; omega) fr_no
  have dc := dig_code c1
  rw [c2, c3] at dc
  rw [List.nil_append, List.map_nil] at r
  have rv : ((dig n 0 v).map D.int).reverse = c.map .int := by rw [← List.map_reverse, dc]
  have d := e_dec (k + 2) c1 (by omega)
  rw [c2] at d
  have sl : slcD .rev (.lst ((dig n 0 v).map .int)) [] = some (.fl ((dig n 0 v).map D.int).reverse) := rfl
  rw [rv] at sl
  rw [Nat.zero_add] at r
  unfold mB at r
  rw [go_f at_numbered_order rfl rfl]
  generalize orD (dec (rg n) c) = V at d ⊢
  unfold orD at d
  generalize (dig n 0 v).map D.int = Q at r sl
  generalize c.map D.int = Q2 at sl d
  generalize ((fac n : Nat) : Int) = w at b o
  generalize (List.range' 1 n).map (fun (k : Nat) => D.int (k : Nat)) = RR at ir r
  generalize (n : Int) = n' at *
  simp -implicitDefEqProofs [f_numbered_order, a, b, o, ir, r, sl, d]
theorem e_numbered_bad1 (k : Nat) {d x : D} (h : Out_ 1 60 d) : call X (k + 4) 28 [d, x] = some (.ex xN, .non) := by
  have a := e_cw_bad k h
  rw [go_f at_numbered_order rfl rfl]
  simp -implicitDefEqProofs [f_numbered_order, a]
theorem e_numbered_bad2 (k : Nat) {n : Nat} {x : D} (h1 : 1 ≤ n) (h2 : n ≤ 60) (h : Out_ 0 ((fac n : Int) - 1) x) : call X (k + 4) 28 [.int n, x] = some (.ex xN, .non) := by
  have a := e_cw_ok k (i := n) (a := 1) (b := 60) (by omega) (by omega)
  have b := e_cw_bad k h
  have o := e_orders_many (k + 2) h2
  rw [go_f at_numbered_order rfl rfl]
  generalize ((fac n : Nat) : Int) = w at b o
  generalize (n : Int) = n' at *
  simp -implicitDefEqProofs [f_numbered_order, a, b, o]
end VL.K30
end
section
/-! E30t: what is a code, by the package and by the law. -/
namespace VL.K30
open PySem M06
def cdB : L → Bool
  | [] => true
  | c :: cs => (decide (0 ≤ c) && decide (c < (cs.length : Int) + 1)) && cdB cs
theorem cdB_iff : ∀ c : L, cdB c = true ↔ Cd c
  | [] => by simp [cdB, Cd]
  | c :: cs => by
    have := cdB_iff cs
    rw [cdB, Cd, Bool.and_eq_true, Bool.and_eq_true, decide_eq_true_eq, decide_eq_true_eq, this, and_assoc]
theorem cd_zip {N : Nat} : ∀ (r : L) (i : Nat), i + r.length = N → (r.zipIdx i).all (fun p => decide (0 ≤ p.1) && decide (p.1 < (N : Int) - (p.2 : Nat))) = cdB r
  | [], i, _ => rfl
  | x :: r, i, h => by
    rw [List.length_cons] at h
    have ih := cd_zip (N := N) r (i + 1) (by omega)
    have e : ((N : Nat) : Int) - (i : Nat) = (r.length : Int) + 1 := by omega
    rw [List.zipIdx_cons, List.all_cons, ih, cdB, e]
theorem all_blz {α : Type} {l : List α} {f : α → Bool} : biop .all [.lst (l.map fun d => .bl (f d))] = some (.v (.bl (l.all f))) := by
  have e : l.map (fun d => D.bl (f d)) = (l.map f).map .bl := by rw [List.map_map]; rfl
  rw [e, bi_all]
  simp [List.all_map]
def cfl (c : L) : Bool := (decide (1 ≤ c.length) && decide (c.length ≤ 60)) && cdB c
theorem e_is_code (k : Nat) {c : L} (hl : c.length ≤ 1000) : call X (k + 3) 17 [orD c] = some (.v (.bl (cfl c)), .non) := by
  have i1 := e_ints_int k (l := c) (by omega)
  have ln := len_or c
  have hz := enum_z c
  have lc := lcE_ml2 (T := th X (k + 2)) (e := .chain .le .lt (.con (.int 0)) (.var 2) (.bin .sub (.bi .len [.var 0]) (.var 1))) (ρ := [.v (orD c), .no, .no]) (i := 1) (j := 2) (l := c.zipIdx) (g := fun p => .int (p.2 : Nat)) (g2 := fun p => .int p.1) (f := fun p => .bl (decide (0 ≤ p.1) && decide (p.1 < (c.length : Int) - (p.2 : Nat)))) (by decide) rfl rfl (by rw [LINE_e, List.length_zipIdx]; omega) (fun p hp => by
    obtain ⟨x, i⟩ := p
    generalize orD c = O at ln ⊢
    generalize ((c.length : Nat) : Int) = n at ln ⊢
    generalize ((i : Nat) : Int) = j
    by_cases h : 0 ≤ x <;> simp -implicitDefEqProofs [chR_vv, ln, h])
  have al := all_blz (l := c.zipIdx) (f := fun p => decide (0 ≤ p.1) && decide (p.1 < (c.length : Int) - (p.2 : Nat)))
  rw [cd_zip (N := c.length) c 0 (by omega)] at al
  unfold cfl
  rw [go_f at_is_code rfl rfl]
  generalize c.zipIdx.map (fun p => D.bl (decide (0 ≤ p.1) && decide (p.1 < (c.length : Int) - (p.2 : Nat)))) = Q at lc al
  generalize c.zipIdx.map (fun p => D.tup [.int (p.2 : Nat), .int p.1]) = zs at hz lc
  have hz2 : ((c.map D.int).zipIdx.map fun p => D.tup [.int (p.2 : Nat), p.1]) = zs := hz
  by_cases h1 : 1 ≤ c.length
  · have h1' : (1 : Int) ≤ (c.length : Nat) := by omega
    by_cases h2 : c.length ≤ 60
    · have h2' : ((c.length : Nat) : Int) ≤ 60 := by omega
      have en : items .enum [orD c] = some zs := by
        exact congrArg some hz2
      rw [decide_eq_true h1, decide_eq_true h2]
      generalize orD c = O at *
      generalize ((c.length : Nat) : Int) = n at *
      simp -implicitDefEqProofs [f_is_code, i1, chR_vv, ln, h1', h2', en, lc, al]
    · have h2' : ¬ ((c.length : Nat) : Int) ≤ 60 := by omega
      rw [decide_eq_true h1, decide_eq_false h2]
      generalize orD c = O at *
      generalize ((c.length : Nat) : Int) = n at *
      simp -implicitDefEqProofs [f_is_code, i1, chR_vv, ln, h1', h2']
  · have h1' : ¬ (1 : Int) ≤ (c.length : Nat) := by omega
    rw [decide_eq_false h1]
    generalize orD c = O at *
    generalize ((c.length : Nat) : Int) = n at *
    simp -implicitDefEqProofs [f_is_code, i1, chR_vv, ln, h1']
/-- whether it is an integer, where that can be told -/
def kI : D → Option Bool
  | .int _ => some true
  | .non => some false
  | .bl _ => some false
  | .str _ => some false
  | .tup _ => some false
  | .lst _ => some false
  | _ => none
def kB (d : D) : Bool := (kI d).getD false
theorem ki_call {d : D} (h : kI d ≠ none) : iI d (kB d) := by
  cases d with
  | int i => exact ii_int i
  | non => exact ni_non
  | bl b => exact ni_bl b
  | str s => exact ni_str s
  | tup s => exact ni_tup s
  | lst s => exact ni_lst s
  | _ => exact absurd rfl h
theorem ki_ev {T : Th} {ρ : Env} {i : Nat} {d : D} (h : kI d ≠ none) (hi : ρ[i]? = some (.v d)) : (den T (.and (.isi (.var i) [.int]) (.not (.isi (.var i) [.bool])))).v ρ = .ok (.v (.bl (kB d))) ρ := by
  cases d with
  | fn n => exact absurd rfl h
  | dic n => exact absurd rfl h
  | scr n => exact absurd rfl h
  | _ => simp [hi, kdTy, kB, kI]
theorem e_is_code_nt (k : Nat) {d : D} (h : isTy [.tuple] d = some false) : call X (k + 3) 17 [d] = some (.v (.bl false), .non) := by
  have i1 : call X (k + 2) 2 [d] = some (.v (.bl false), .non) := by
    rw [go_f at_is_ints rfl rfl]
    simp -implicitDefEqProofs [f_is_ints, h]
  rw [go_f at_is_code rfl rfl]
  simp -implicitDefEqProofs [f_is_code, i1]
theorem all_ni {ds : List D} (h : ∃ d ∈ ds, kI d = some false) : ds.all kB = false := by
  obtain ⟨d, hd, e⟩ := h
  rw [List.all_eq_false]
  exact ⟨d, hd, by unfold kB; rw [e]; simp⟩
theorem e_is_code_ni (k : Nat) {ds : List D} (hl : ds.length ≤ 1000) (h : ∀ d ∈ ds, kI d ≠ none) (h2 : ∃ d ∈ ds, kI d = some false) : call X (k + 3) 17 [.tup ds] = some (.v (.bl false), .non) := by
  have i1 := e_is_ints k (ds := ds) (f := kB) (by omega) (fun d hd => ki_call (h d hd) k)
  rw [all_ni h2] at i1
  rw [go_f at_is_code rfl rfl]
  generalize D.tup ds = O at *
  simp -implicitDefEqProofs [f_is_code, i1]
/-! by the law -/
theorem e_lcode_nt (k : Nat) {d : D} (h : isTy [.tuple] d = some false) : call X (k + 1) 39 [d] = some (.v (.bl false), .non) := by
  rw [go_f at__law_is_code rfl rfl]
  simp -implicitDefEqProofs [f__law_is_code, h]
theorem lc_ints {T : Th} {ds : List D} (hl : ds.length ≤ 1000) (h : ∀ d ∈ ds, kI d ≠ none) {x s2 : Sl} : lcE T (.nm 1) [] (.and (.isi (.var 1) [.int]) (.not (.isi (.var 1) [.bool]))) (some ds) [x, .no, s2] = .ok (.fl (ds.map fun d => .bl (kB d))) [x, .no, s2] := by
  have lc := lcE_ml (T := T) (e := .and (.isi (.var 1) [.int]) (.not (.isi (.var 1) [.bool]))) (ρ := [x, .no, s2]) (i := 1) (l := ds) (g := fun d => d) (f := fun d => .bl (kB d)) rfl (by rw [LINE_e]; omega) (fun z hz => by
    rw [ki_ev (h z hz) rfl]
    rfl)
  have e0 : ds.map (fun d => d) = ds := List.map_id _
  rw [e0] at lc
  exact lc
theorem e_lcode_ni (k : Nat) {ds : List D} (hl : ds.length ≤ 1000) (h : ∀ d ∈ ds, kI d ≠ none) (h2 : ∃ d ∈ ds, kI d = some false) : call X (k + 1) 39 [.tup ds] = some (.v (.bl false), .non) := by
  have lc := lc_ints (T := th X k) hl h (x := .v (.tup ds)) (s2 := .no)
  have al := all_blz (l := ds) (f := kB)
  rw [all_ni h2] at al
  have ln : biop .len [.tup ds] = some (.v (.int (ds.length : Nat))) := rfl
  have ty : isTy [.tuple] (.tup ds) = some true := rfl
  have io : items .of [.tup ds] = some ds := rfl
  rw [go_f at__law_is_code rfl rfl]
  generalize ds.map (fun d => D.bl (kB d)) = Q at lc al
  by_cases h1 : 1 ≤ ds.length
  · have h1' : (1 : Int) ≤ (ds.length : Nat) := by omega
    by_cases h2 : ds.length ≤ 60
    · have h2' : ((ds.length : Nat) : Int) ≤ 60 := by omega
      generalize D.tup ds = O at *
      generalize ((ds.length : Nat) : Int) = n at *
      simp -implicitDefEqProofs [f__law_is_code, ty, chR_vv, ln, h1', h2', io, lc, al]
    · have h2' : ¬ ((ds.length : Nat) : Int) ≤ 60 := by omega
      generalize D.tup ds = O at *
      generalize ((ds.length : Nat) : Int) = n at *
      simp -implicitDefEqProofs [f__law_is_code, ty, chR_vv, ln, h1', h2']
  · have h1' : ¬ (1 : Int) ≤ (ds.length : Nat) := by omega
    generalize D.tup ds = O at *
    generalize ((ds.length : Nat) : Int) = n at *
    simp -implicitDefEqProofs [f__law_is_code, ty, chR_vv, ln, h1']
theorem e_lis_code (k : Nat) {c : L} (hl : c.length ≤ 1000) : call X (k + 1) 39 [orD c] = some (.v (.bl (cfl c)), .non) := by
  have ln := len_or c
  have hz := enum_z c
  have lcI := lc_ints (T := th X k) (ds := c.map .int) (by simpa using hl) (fun d hd => by
    obtain ⟨i, _, rfl⟩ := List.mem_map.mp hd
    simp [kI]) (x := .v (orD c)) (s2 := .no)
  have alI := all_blz (l := c.map .int) (f := kB)
  have e1 : (c.map D.int).all kB = true := by
    rw [List.all_eq_true]
    intro d hd
    obtain ⟨i, _, rfl⟩ := List.mem_map.mp hd
    rfl
  rw [e1] at alI
  have lc := lcE_ml2 (T := th X k) (e := .chain .le .lt (.con (.int 0)) (.var 1) (.bin .sub (.bi .len [.var 0]) (.var 2))) (ρ := [.v (orD c), .no, .no]) (i := 2) (j := 1) (l := c.zipIdx) (g := fun p => .int (p.2 : Nat)) (g2 := fun p => .int p.1) (f := fun p => .bl (decide (0 ≤ p.1) && decide (p.1 < (c.length : Int) - (p.2 : Nat)))) (by decide) rfl rfl (by rw [LINE_e, List.length_zipIdx]; omega) (fun p hp => by
    obtain ⟨x, i⟩ := p
    generalize orD c = O at ln ⊢
    generalize ((c.length : Nat) : Int) = n at ln ⊢
    generalize ((i : Nat) : Int) = j
    by_cases h : 0 ≤ x <;> simp -implicitDefEqProofs [chR_vv, ln, h])
  have al := all_blz (l := c.zipIdx) (f := fun p => decide (0 ≤ p.1) && decide (p.1 < (c.length : Int) - (p.2 : Nat)))
  rw [cd_zip (N := c.length) c 0 (by omega)] at al
  have ty : isTy [.tuple] (orD c) = some true := rfl
  have io : items .of [orD c] = some (c.map .int) := rfl
  unfold cfl
  rw [go_f at__law_is_code rfl rfl]
  generalize c.zipIdx.map (fun p => D.bl (decide (0 ≤ p.1) && decide (p.1 < (c.length : Int) - (p.2 : Nat)))) = Q at lc al
  generalize c.zipIdx.map (fun p => D.tup [.int (p.2 : Nat), .int p.1]) = zs at hz lc
  have hz2 : ((c.map D.int).zipIdx.map fun p => D.tup [.int (p.2 : Nat), p.1]) = zs := hz
  have en : items .enum [orD c] = some zs := by
    exact congrArg some hz2
  generalize (c.map D.int).map (fun d => D.bl (kB d)) = Q2 at lcI alI
  by_cases h1 : 1 ≤ c.length
  · have h1' : (1 : Int) ≤ (c.length : Nat) := by omega
    by_cases h2 : c.length ≤ 60
    · have h2' : ((c.length : Nat) : Int) ≤ 60 := by omega
      rw [decide_eq_true h1, decide_eq_true h2]
      clear hz hz2 e1
      generalize c.map D.int = ci at io lcI
      generalize orD c = O at *
      generalize ((c.length : Nat) : Int) = n at *
      simp -implicitDefEqProofs [f__law_is_code, ty, chR_vv, ln, h1', h2', io, lcI, alI, en, lc, al]
    · have h2' : ¬ ((c.length : Nat) : Int) ≤ 60 := by omega
      rw [decide_eq_true h1, decide_eq_false h2]
      generalize orD c = O at *
      generalize ((c.length : Nat) : Int) = n at *
      simp -implicitDefEqProofs [f__law_is_code, ty, chR_vv, ln, h1', h2']
  · have h1' : ¬ (1 : Int) ≤ (c.length : Nat) := by omega
    rw [decide_eq_false h1]
    generalize orD c = O at *
    generalize ((c.length : Nat) : Int) = n at *
    simp -implicitDefEqProofs [f__law_is_code, ty, chR_vv, ln, h1']
/-- what may be a code, or not -/
inductive Tg : D → Prop
  | il (c : L) (h : c.length ≤ 1000) : Tg (orD c)
  | ni (ds : List D) (hl : ds.length ≤ 1000) (h : ∀ d ∈ ds, kI d ≠ none) (h2 : ∃ d ∈ ds, kI d = some false) : Tg (.tup ds)
  | nt (d : D) (h : isTy [.tuple] d = some false) : Tg d
/-- both tell the same of it -/
theorem tg_same {d : D} (h : Tg d) : (∃ c, d = orD c ∧ Cd c ∧ c.length ≤ 60 ∧ (∀ k, call X (k + 1) 39 [d] = some (.v (.bl true), .non)) ∧ ∀ k, call X (k + 4) 19 [d] = some (.v (orD (dec (rg c.length) c)), .non)) ∨
    ((∀ k, call X (k + 1) 39 [d] = some (.v (.bl false), .non)) ∧ ∀ k, call X (k + 4) 19 [d] = some (.ex xC, .non)) := by
  have bad : (∀ k, call X (k + 3) 17 [d] = some (.v (.bl false), .non)) → ∀ k, call X (k + 4) 19 [d] = some (.ex xC, .non) := fun q k => by
    have := q k
    rw [go_f at_from_code rfl rfl]
    simp -implicitDefEqProofs [f_from_code, this]
  cases h with
  | il c h =>
    have a := fun k => e_is_code k h
    have b := fun k => e_lis_code k h
    cases e : cfl c with
    | false =>
      rw [e] at b
      simp only [e] at a
      exact .inr ⟨b, bad a⟩
    | true =>
      simp only [e] at a b
      unfold cfl at e
      rw [Bool.and_eq_true, Bool.and_eq_true, decide_eq_true_eq, decide_eq_true_eq, cdB_iff] at e
      refine .inl ⟨c, rfl, e.2, e.1.2, b, fun k => ?_⟩
      have a1 := a k
      have d1 := e_dec (k + 2) e.2 e.1.2
      rw [go_f at_from_code rfl rfl]
      generalize orD (dec (rg c.length) c) = V at d1 ⊢
      generalize orD c = O at *
      simp -implicitDefEqProofs [f_from_code, a1, d1]
  | ni ds hl h h2 => exact .inr ⟨fun k => e_lcode_ni k hl h h2, bad fun k => e_is_code_ni k hl h h2⟩
  | nt d h => exact .inr ⟨fun k => e_lcode_nt k h, bad fun k => e_is_code_nt k h⟩
end VL.K30
end
section
/-! H07a: the hand. -/
namespace VL.K30
open PySem M06
/-- a hand: its cells, the next one's place, what is left of a great one, the mix, how many were mixed -/
def Hd (xs : List D) : Prop := ∃ (cs : List Int) (a : Nat) (b c d : Int), xs = [.lst (cs.map .int), .int (a : Int), .int b, .int c, .int d] ∧ 0 ≤ b ∧ ∀ z ∈ cs, 0 ≤ z
def iabs (z : Int) : Int := if z < 0 then -z else z
theorem slc63 (ns : List Int) : slcD .hi (.scr ns) [63] = some (.fl ((ns.take 63).map .int)) := by
  show (slcL .hi (ns.map D.int) [63]).map _ = _
  show some (R.fl (cutL (ns.map D.int) 0 (cutOf (ns.map D.int).length 63))) = _
  have h : cutOf (ns.map D.int).length 63 = min 63 ns.length := by
    unfold cutOf
    rw [if_neg (by omega)]
    simp
  rw [h, cutL, List.map_take]
  simp only [List.drop_zero, Nat.sub_zero, Option.some.injEq, R.fl.injEq]
  rw [← List.length_map (as := ns) (f := D.int), ← List.take_eq_take_min]
def iab (z : Int) : Int := iabs z % 1000000000000000000000000000000000000
theorem pow36 : binop .pow (.int 10) (.int 36) = some (.v (.int 1000000000000000000000000000000000000)) := by rw [bop_pow (by decide)]; rfl
theorem e_hand (k : Nat) (ns : List Int) : ∃ xs, call X (k + 1) 31 [.scr ns] = some (.fl xs, .non) ∧ Hd xs := by
  have sl := slc63 ns
  generalize hl : ns.take 63 = l at sl
  have ll : l.length ≤ 63 := by rw [← hl]; simp; omega
  refine ⟨[.lst ((l.map iab).map .int), .int 0, .int 0, .int (2153 + 5 * (l.length : Int)), .int 0], ?_, l.map iab, 0, 0, 2153 + 5 * (l.length : Int), 0, rfl, Int.le_refl _, ?_⟩
  · have p36 := pow36
    have md : ∀ i : Int, binop .mod (.int i) (.int 1000000000000000000000000000000000000) = some (.v (.int (i % 1000000000000000000000000000000000000))) := fun i => bop_mod (by decide)
    have h2 := lcE_ml (T := th X k) (e := .bin .mod (.bi .int [.bi .abs [.bi .int [.var 2]]]) (.bin .pow (.con (.int 10)) (.con (.int 36)))) (ρ := [.v (.scr ns), .no, .no]) (i := 2) (l := l) (g := .int) (f := fun z => .int (iab z)) rfl (by simp; omega) (fun z hz => by simp -implicitDefEqProofs [p36, md]; rfl)
    have m : binop .mul (.int 5) (.int (l.length : Int)) = some (.v (.int (5 * (l.length : Int)))) := bop_mul (mulOk_l (by decide))
    have e : l.map (fun z => D.int (iab z)) = (l.map iab).map .int := by simp
    rw [e] at h2
    have le : ((l.map iab).map D.int).length = l.length := by simp
    rw [go_f at__law_hand rfl rfl]
    generalize (l.map iab).map D.int = Q at h2 le ⊢
    simp -implicitDefEqProofs [f__law_hand, sl, h2, m, le]
  · intro z hz
    obtain ⟨y, _, rfl⟩ := List.mem_map.mp hz
    unfold iab
    exact Int.emod_nonneg _ (by decide)
end VL.K30
end
section
/-! H07b: a number is drawn. -/
namespace VL.K30
open PySem M06
@[simp] theorem subl1 {x y : D} {r : List D} : subD (.lst (x :: y :: r)) (.int 1) = some y := sub1
@[simp] theorem subl2 {x y z : D} {r : List D} : subD (.lst (x :: y :: z :: r)) (.int 2) = some z := sub2
@[simp] theorem subl3 {x y z w : D} {r : List D} : subD (.lst (x :: y :: z :: w :: r)) (.int 3) = some w := subD_l (k := 3) rfl
@[simp] theorem subl4 {x y z w v : D} {r : List D} : subD (.lst (x :: y :: z :: w :: v :: r)) (.int 4) = some v := subD_l (k := 4) rfl
@[simp] theorem nl_int {i : Int} : noL (.int i) = true := rfl
@[simp] theorem nl_bl {i : Bool} : noL (.bl i) = true := rfl
@[simp] theorem nl_str {i : Str} : noL (.str i) = true := rfl
@[simp] theorem nl_non : noL .non = true := rfl
@[simp] theorem nl_tup {xs : List D} : noL (.tup xs) = noLs xs := rfl
@[simp] theorem nls_nil : noLs [] = true := rfl
@[simp] theorem nls_cons {x : D} {xs : List D} : noLs (x :: xs) = (noL x && noLs xs) := rfl
@[simp] theorem pl51 : placeOf 5 1 = some 1 := rfl
@[simp] theorem pl52 : placeOf 5 2 = some 2 := rfl
@[simp] theorem pl53 : placeOf 5 3 = some 3 := rfl
@[simp] theorem pl54 : placeOf 5 4 = some 4 := rfl
def mixed (n0 : Int) : Int := (let n1 := n0 * 48271 % 2147483647; let n2 := n1 * (n1 / 1009 + 69621) % 2147483647; n2 * (n2 / 2003 + 40014) % 2147483563) / 16
theorem modM {i M : Int} (h : 0 < M) : 0 ≤ i % M ∧ i % M < M := ⟨Int.emod_nonneg _ (by omega), Int.emod_lt_of_pos _ h⟩
theorem seq_assoc (o : Out) (j k : Env → Out) : (o.seq j).seq k = o.seq fun ρ => (j ρ).seq k := by cases o <;> rfl
theorem execs_split {T : Th} (n : Nat) : ∀ {ss : List S} {ρ : Env}, execs T ss ρ = (execs T (ss.take n) ρ).seq (execs T (ss.drop n)) := by
  induction n with
  | zero => intro ss ρ; simp
  | succ n ih =>
    intro ss ρ
    cases ss with
    | nil => simp
    | cons s ss =>
      rw [List.take_succ_cons, List.drop_succ_cons, execs_cons, execs_cons, seq_assoc]
      congr 1
      funext ρ1
      exact ih
theorem d_tail {T : Th} {cs : List D} {a b c d m : Int} {s2 s3 : Sl} (hm : 1 ≤ m) : ∃ s4, execs T (f__law_draw.body.drop 2) [.ln [.lst cs, .int a, .int b, .int c, .int d], .v (.int m), s2, s3, .no] = .rt (.v (.int (mixed (c + 7919 * (d + 1)) % m))) [.ln [.lst cs, .int a, .int b, .int c, .int (d + 1)], .v (.int m), s2, s3, s4] := by
  have m1 : binop .mul (.int 7919) (.int (d + 1)) = some (.v (.int (7919 * (d + 1)))) := bop_mul (mulOk_l (by decide))
  have m2 : binop .mul (.int (c + 7919 * (d + 1))) (.int 48271) = some (.v (.int ((c + 7919 * (d + 1)) * 48271))) := bop_mul (mulOk_r (by decide))
  have m3 : ∀ i : Int, binop .mod (.int i) (.int 2147483647) = some (.v (.int (i % 2147483647))) := fun i => bop_mod (by decide)
  have m4 : ∀ i : Int, binop .mod (.int i) (.int 2147483563) = some (.v (.int (i % 2147483563))) := fun i => bop_mod (by decide)
  have d1 : ∀ i : Int, binop .div (.int i) (.int 1009) = some (.v (.int (i / 1009))) := fun i => bop_div (by decide) (by decide +kernel)
  have d2 : ∀ i : Int, binop .div (.int i) (.int 2003) = some (.v (.int (i / 2003))) := fun i => bop_div (by decide) (by decide +kernel)
  have d3 : ∀ i : Int, binop .div (.int i) (.int 16) = some (.v (.int (i / 16))) := fun i => bop_div (by decide) (by decide +kernel)
  have b1 := modM (i := (c + 7919 * (d + 1)) * 48271) (M := 2147483647) (by decide)
  have q1 : ∀ n j : Int, 0 ≤ n → n < 2147483647 → binop .mul (.int n) (.int j) = some (.v (.int (n * j))) := fun n j h1 h2 => bop_mul (mulOk_l (by omega))
  have m9 : ∀ i : Int, binop .mod (.int i) (.int m) = some (.v (.int (i % m))) := fun i => bop_mod (by omega)
  generalize hn1 : (c + 7919 * (d + 1)) * 48271 % 2147483647 = n1 at b1
  have q2 := q1 n1 (n1 / 1009 + 69621) b1.1 b1.2
  have b2 := modM (i := n1 * (n1 / 1009 + 69621)) (M := 2147483647) (by decide)
  generalize hn2 : n1 * (n1 / 1009 + 69621) % 2147483647 = n2 at b2
  have q3 := q1 n2 (n2 / 2003 + 40014) b2.1 b2.2
  refine ⟨.v (.int (n2 * (n2 / 2003 + 40014) % 2147483563)), ?_⟩
  unfold mixed
  rw [hn1]
  dsimp only
  rw [hn2]
  simp [f__law_draw, m1, m2, m3, m4, d1, d2, d3, m9, hn1, hn2, q2, q3]
theorem e_draw (k : Nat) {xs : List D} (h : Hd xs) {m : Int} (hm : 1 ≤ m) (hw : m.natAbs < wideB) : ∃ (d : Int) (ys : List D), call X (k + 1) 32 [.lst xs, .int m] = some (.v (.int d), .lst ys) ∧ Hd ys ∧ 0 ≤ d ∧ d < m := by
  obtain ⟨cs, a, b, c, d, rfl, hb, hc⟩ := h
  have mm : ∀ i : Int, binop .mod (.int i) (.int m) = some (.v (.int (i % m))) := fun i => bop_mod (by omega)
  have dd : ∀ i : Int, binop .div (.int i) (.int m) = some (.v (.int (i / m))) := fun i => bop_div (by omega) hw
  have m1 : binop .mul (.int c) (.int 69621) = some (.v (.int (c * 69621))) := bop_mul (mulOk_r (by decide))
  have m1b : ∀ z : Int, binop .mul (.int z) (.int 40692) = some (.v (.int (z * 40692))) := fun z => bop_mul (mulOk_r (by decide))
  have m2 : ∀ i : Int, binop .mod (.int i) (.int 2147483629) = some (.v (.int (i % 2147483629))) := fun i => bop_mod (by decide)
  have pos : ∀ i : Int, 0 ≤ i % m ∧ i % m < m := fun i => modM (by omega)
  rw [go_i at__law_draw rfl rfl]
  rw [execs_split 2]
  have tl := fun cs a b c d s2 s3 => d_tail (T := th X k) (cs := cs) (a := a) (b := b) (c := c) (d := d) (m := m) (s2 := s2) (s3 := s3) hm
  generalize execs (th X k) (f__law_draw.body.drop 2) = K at tl
  by_cases h0 : b = 0
  · subst h0
    by_cases h1 : (a : Int) < cs.length
    · have h1' : a < cs.length := by omega
      have g : (cs.map D.int)[a]? = some (.int cs[a]) := by simp [h1']
      have hz := hc cs[a] (List.getElem_mem h1')
      generalize hcell : cs[a] = z at g hz
      have sb := subD_l g
      by_cases h2 : 1000000000000000000 ≤ z
      · have hz0 : (0 : Int) < z := by omega
        refine ⟨z % m, [.lst (cs.map .int), .int ((a + 1 : Nat) : Int), .int (z / m), .int ((c * 69621 + z * 40692 + 37) % 2147483629), .int d], ?_, ⟨cs, a + 1, z / m, _, d, rfl, Int.ediv_nonneg (by omega) (by omega), hc⟩, pos z⟩
        simp [f__law_draw, h1, sb, m1, m1b, m2, h2, hz0, mm, dd]
      · obtain ⟨s4, e4⟩ := tl (cs.map .int) (a + 1 : Int) 0 ((c * 69621 + z * 40692 + 37) % 2147483629) d (.v (.int z)) .no
        refine ⟨_, [.lst (cs.map .int), .int ((a + 1 : Nat) : Int), .int 0, .int ((c * 69621 + z * 40692 + 37) % 2147483629), .int (d + 1)], ?_, ⟨cs, a + 1, 0, _, d + 1, rfl, Int.le_refl _, hc⟩, pos (mixed ((c * 69621 + z * 40692 + 37) % 2147483629 + 7919 * (d + 1)))⟩
        simp [f__law_draw, h1, sb, m1, m1b, m2, h2, e4]
    · obtain ⟨s4, e4⟩ := tl (cs.map .int) (a : Int) 0 c d .no .no
      refine ⟨_, [.lst (cs.map .int), .int (a : Int), .int 0, .int c, .int (d + 1)], ?_, ⟨cs, a, 0, _, d + 1, rfl, Int.le_refl _, hc⟩, pos (mixed (c + 7919 * (d + 1)))⟩
      simp [f__law_draw, h1, e4]
  · have hb0 : 0 < b := by omega
    refine ⟨b % m, [.lst (cs.map .int), .int (a : Int), .int (b / m), .int c, .int d], ?_, ⟨cs, a, b / m, _, d, rfl, Int.ediv_nonneg (by omega) (by omega), hc⟩, pos b⟩
    simp [f__law_draw, h0, hb0, mm, dd]
end VL.K30
end
section
/-! H07c: one of some things; a deep thing; equal things. -/
namespace VL.K30
open PySem M06
theorem line_wide {n : Nat} (h : n ≤ LINE) : ((n : Nat) : Int).natAbs < wideB := by
  have : LINE < 2 ^ 64 := by decide
  exact lt_wide (by omega)
theorem e_some (k : Nat) {xs things : List D} (h : Hd xs) (h0 : things ≠ []) (hl : things.length ≤ LINE) : ∃ (d : D) (ys : List D), call X (k + 2) 33 [.lst xs, .lst things] = some (.v d, .lst ys) ∧ Hd ys ∧ d ∈ things := by
  have hp := List.length_pos_iff.mpr h0
  obtain ⟨d, ys, h1, h2, h3, h4⟩ := e_draw k h (m := (things.length : Int)) (by omega) (line_wide hl)
  obtain ⟨n, rfl⟩ := Int.eq_ofNat_of_zero_le h3
  have hn : n < things.length := by omega
  refine ⟨things[n], ys, ?_, h2, List.getElem_mem hn⟩
  have sb := subD_l (List.getElem?_eq_getElem hn)
  rw [go_i at__law_any rfl rfl]
  simp [f__law_any, h1, calJ_s, sb]
theorem r62_of {i : Int} (h0 : 0 ≤ i) (h1 : i < 2 ^ 62) : r62 i = true := by
  unfold r62
  simp
  omega
end VL.K30
end
section
/-! H30d: orders laid, orders drawn. -/
namespace VL.K30
open PySem M06
abbrev lsD (o : L) : D := .lst (o.map .int)
theorem sLn {dn : Bool} : (wd dn == sUp) = !dn := by cases dn <;> rfl
abbrev laidB : List S := [.asg (.nm 6) (.ite (.cmp .eq (.var 0) (.con (.str (Str.ofString "up")))) (.var 4) (.bin .sub (.bin .sub (.var 3) (.var 4)) (.bi .len [(.var 5)]))),
    .ext 2 (.lc .of [(.var 5)] (.nm 7) [] (.bin .add (.var 6) (.var 7))),
    .asg (.nm 4) (.bin .add (.var 4) (.bi .len [(.var 5)]))]
theorem laid_loop {T : Th} {dn : Bool} {x : Sl} {w : Nat} (hw : w ≤ 16777216) : ∀ (os : List L) {acc : L} {s5 s6 : Sl}, (os.foldl (comb dn) acc).length = w → Fr s5 → Fr s6 →
    ∃ s4' s5' s6', forL (asgD (.nm 5)) (execs T laidB) (os.map lsD) [.v (.str (wd dn)), x, .ol ((fdl dn w acc).map .int), .v (.int (w : Nat)), .v (.int (acc.length : Nat)), s5, s6, .no] = .nx [.v (.str (wd dn)), x, .ol ((os.foldl (comb dn) acc).map .int), .v (.int (w : Nat)), s4', s5', s6', .no]
  | [], acc, s5, s6, h, _, _ => by
    subst h
    exact ⟨_, s5, s6, by rw [List.foldl_nil, fdl_end]; rfl⟩
  | o :: os, acc, s5, s6, h, f5, f6 => by
    rw [List.foldl_cons] at h
    have hl := fold_len (dn := dn) os (comb dn acc o)
    rw [h, comb_len] at hl
    have h0 : 0 ≤ (os.map fun o => (o.length : Int)).sum := by
      clear hl h
      induction os with
      | nil => simp
      | cons o os ih => rw [List.map_cons, List.sum_cons]; omega
    obtain ⟨s4', s5', s6', r⟩ := laid_loop hw os (acc := comb dn acc o) (s5 := .v (lsD o)) (s6 := .v (.int (if dn then (w : Int) - acc.length - o.length else acc.length))) h (fr_v _) (fr_v _)
    refine ⟨s4', s5', s6', ?_⟩
    have a1 : asgD (.nm 5) (lsD o) [.v (.str (wd dn)), x, .ol ((fdl dn w acc).map .int), .v (.int (w : Nat)), .v (.int (acc.length : Nat)), s5, s6, .no] = some [.v (.str (wd dn)), x, .ol ((fdl dn w acc).map .int), .v (.int (w : Nat)), .v (.int (acc.length : Nat)), .v (lsD o), s6, .no] := by simp [f5.set]
    have ec : ((comb dn acc o).length : Int) = (acc.length : Int) + o.length := by rw [comb_len]; simp
    rw [List.map_cons, List.foldl_cons, forL_step a1 (ρ2 := [.v (.str (wd dn)), x, .ol ((fdl dn w (comb dn acc o)).map .int), .v (.int (w : Nat)), .v (.int ((comb dn acc o).length : Nat)), .v (lsD o), .v (.int (if dn then (w : Int) - acc.length - o.length else acc.length)), .no]) ?_]
    · exact r
    · rw [ec]
      clear r ec
      generalize hc : (if dn then (w : Int) - acc.length - o.length else acc.length) = c
      have l1 := fun (q : Sl) => lcE_ml (T := T) (e := .bin .add (.var 6) (.var 7)) (ρ := [.v (.str (wd dn)), x, q, .v (.int (w : Nat)), .v (.int (acc.length : Nat)), .v (lsD o), .v (.int c), .no]) (i := 7) (l := o) (g := .int) (f := fun z => .int (c + z)) rfl (by rw [LINE_e]; omega) (fun z hz => by simp)
      have fs := fdl_step dn w acc o
      rw [hc] at fs
      have fl := fdl_len dn w acc
      rw [fs, List.map_append]
      have hle : ((fdl dn w acc).map D.int).length + ((sh c o).map D.int).length ≤ 16777216 := by simp; rw [fl]; omega
      generalize (fdl dn w acc).map D.int = F at hle ⊢
      have e1 : o.map (fun z => D.int (c + z)) = (sh c o).map .int := by simp [sh]
      simp only [e1] at l1
      have lo : (o.map D.int).length = o.length := by simp
      have hs := sLn (dn := dn)
      generalize (sh c o).map D.int = q at l1 hle ⊢
      unfold lsD at l1 ⊢
      generalize o.map D.int = oo at l1 lo ⊢
      have lo' : (oo.length : Int) = (o.length : Int) := by rw [lo]
      generalize (o.length : Int) = on at *
      generalize (acc.length : Int) = an at *
      generalize (w : Int) = wn at *
      cases dn with
      | true =>
        simp only [if_true] at hc
        subst hc
        simp -implicitDefEqProofs [f6.set, hs, lo', l1, hle]
      | false =>
        simp only [Bool.false_eq_true, if_false] at hc
        subst hc
        simp -implicitDefEqProofs [f6.set, hs, lo', l1, hle]
theorem e_laid (k : Nat) (dn : Bool) (os : List L) (h1 : os.length ≤ LINE) (h2 : (lay dn os).length ≤ LINE) : call X (k + 1) 34 [.str (wd dn), .lst (os.map lsD)] = some (.fl ((lay dn os).map .int), .non) := by
  have ln := fold_len (dn := dn) os []
  have l1 := lcE_ml (T := th X k) (e := .bi .len [.var 5]) (ρ := [.v (.str (wd dn)), .v (.lst (os.map lsD)), .no, .no, .no, .no, .no, .no]) (i := 5) (l := os) (g := lsD) (f := fun o => .int (o.length : Int)) rfl h1 (fun z hz => by simp)
  have e1 : os.map (fun o => D.int (o.length : Int)) = (os.map fun o => (o.length : Int)).map .int := by simp
  rw [e1] at l1
  have b1 := bi_sum (is := os.map fun o => (o.length : Int))
  have hw : (os.map fun o => (o.length : Int)).sum = ((lay dn os).length : Int) := by
    unfold lay
    rw [ln]
    simp
  rw [hw] at b1
  generalize (os.map fun o => (o.length : Int)).map D.int = ls at l1 b1
  obtain ⟨s4, s5, s6, r⟩ := laid_loop (T := th X k) (dn := dn) (x := .v (.lst (os.map lsD))) (by rw [← LINE_e]; exact h2) os (acc := []) (s5 := .no) (s6 := .no) rfl fr_no fr_no
  have en : fdl dn (os.foldl (comb dn) []).length [] = [] := by cases dn <;> rfl
  rw [en] at r
  generalize hq : os.map lsD = q at r l1 ⊢
  rw [go_f at__law_laid rfl rfl]
  simp only [lay] at *
  unfold laidB at r
  rw [List.map_nil, show ((([] : L).length : Nat) : Int) = 0 from rfl] at r
  simp -implicitDefEqProofs [f__law_laid, l1, b1, r]
/-! ### drawn orders -/
theorem v_pop1 {T : Th} {i j : Nat} {e : E} {ρ ρ1 : Env} {xs0 xs : List D} {x : D} {m : Int} (h0 : ρ[i]? = some (.ol xs0)) (he : (den T e).v ρ = .ok (.v (.int m)) ρ1) (h1 : ρ1[i]? = some (.ol xs)) (hr : r62 m = true) (hp : placeOf xs.length m = some j) (hx : xs[j]? = some x) : (den T (.pop i [e])).v ρ = .ok (.v x) (ρ1.set i (.ol (xs.eraseIdx j))) := by
  have e1 : evi T [e] ρ = .ok [m] ρ1 := by
    rw [evi, he]
    show (match look ρ1 (.v (.int m)) with | some (.int i) => (evi T [] ρ1).bind fun is ρ2 => Rs.ok (i :: is) ρ2 | _ => .no) = _
    rw [evi]
    rfl
  have e2 : popL xs [m] = some (j, x) := by
    show (if r62 m then (placeOf xs.length m).bind fun j => xs[j]?.map fun x => (j, x) else none) = _
    rw [if_pos hr, hp]
    show xs[j]?.map _ = _
    rw [hx]
    rfl
  rw [den]
  show (match ρ[i]? with | some (.ol _) => ((evi T [e] ρ).bind fun is ρ1 => match slotO i ρ1 with | some xs => (match popL xs is with | some (j, x) => Rs.ok (R.v x) (ρ1.set i (.ol (xs.eraseIdx j))) | none => .no) | none => .no) | _ => .no) = _
  rw [h0, e1]
  show (match slotO i ρ1 with | some xs => (match popL xs [m] with | some (j, x) => Rs.ok (R.v x) (ρ1.set i (.ol (xs.eraseIdx j))) | none => .no) | none => .no) = _
  unfold slotO
  rw [h1]
  show (match popL xs [m] with | some (j, x) => Rs.ok (R.v x) (ρ1.set i (.ol (xs.eraseIdx j))) | none => .no) = _
  rw [e2]
abbrev poB : List S := [.app 3 (.pop 2 [(.calli 32 0 [(.bi .len [(.var 2)])])])]
theorem ei_map : ∀ (l : L) (j : Nat), (l.eraseIdx j).map D.int = (l.map D.int).eraseIdx j
  | [], _ => rfl
  | a :: l, 0 => rfl
  | a :: l, j + 1 => by simp [List.eraseIdx, ei_map l j]
theorem po_loop (k : Nat) {n : Nat} (hn : n ≤ 60) {x1 : Sl} : ∀ (is : List Nat) {xs : List D} {left found : L} {s4 : Sl}, Hd xs → left.length = is.length → found.length + is.length ≤ 60 → (found ++ left).Perm (rg n) → Fr s4 →
    ∃ (ys : List D) (fo : L) (s4' : Sl), Hd ys ∧ fo.Perm (rg n) ∧ forL (asgD (.nm 4)) (execs (th X (k + 1)) poB) (is.map fun z => .int (z : Nat)) [.ln xs, x1, .ol (left.map .int), .ol (found.map .int), s4] = .nx [.ln ys, x1, .ol [], .ol (fo.map .int), s4']
  | [], xs, left, found, s4, h, hl, hf, hp, _ => by
    have : left = [] := List.length_eq_zero_iff.mp hl
    subst this
    rw [List.append_nil] at hp
    exact ⟨xs, found, s4, h, hp, rfl⟩
  | i :: is, xs, left, found, s4, h, hl, hf, hp, f4 => by
    rw [List.length_cons] at hl hf
    obtain ⟨d, x1', a1, b1, c1, d1⟩ := e_draw k h (m := (left.length : Int)) (by omega) (line_wide (by rw [LINE_e]; omega))
    obtain ⟨j, rfl⟩ := Int.eq_ofNat_of_zero_le c1
    have hj : j < left.length := by omega
    have pe := perm_erase (List.getElem?_eq_getElem hj)
    have p2 : ((found ++ [left[j]]) ++ left.eraseIdx j).Perm (rg n) := by
      refine List.Perm.trans ?_ hp
      rw [List.append_assoc]
      exact List.Perm.append_left _ pe.symm
    obtain ⟨ys, fo, s4', q1, q2, r⟩ := po_loop k hn (x1 := x1) is (left := left.eraseIdx j) (found := found ++ [left[j]]) (s4 := .v (.int (i : Nat))) b1 (by rw [List.length_eraseIdx_of_lt hj]; omega) (by simp; omega) p2 (fr_v _)
    refine ⟨ys, fo, s4', q1, q2, ?_⟩
    have s1 : asgD (.nm 4) (.int (i : Nat)) [.ln xs, x1, .ol (left.map .int), .ol (found.map .int), s4] = some [.ln xs, x1, .ol (left.map .int), .ol (found.map .int), .v (.int (i : Nat))] := by simp [f4.set]
    have ll : (left.map D.int).length = left.length := by simp
    have pp := v_pop1 (T := th X (k + 1)) (i := 2) (j := j) (e := .calli 32 0 [.bi .len [.var 2]]) (ρ := [.ln xs, x1, .ol (left.map .int), .ol (found.map .int), .v (.int (i : Nat))]) (ρ1 := [.ln x1', x1, .ol (left.map .int), .ol (found.map .int), .v (.int (i : Nat))]) (xs0 := left.map .int) (xs := left.map .int) (x := .int left[j]) (m := (j : Int)) rfl (by
      generalize left.map D.int = Q at ll ⊢
      rw [← ll] at a1
      simp -implicitDefEqProofs [a1, calJ_s]) rfl (by unfold r62; simp; omega) (by
      rw [ll]
      unfold placeOf
      rw [if_pos (by omega), if_pos (by omega)]
      simp) (by rw [List.getElem?_map, List.getElem?_eq_getElem hj]; rfl)
    have lf : (found.map D.int).length < 16777216 := by simp; omega
    have ef : (found ++ [left[j]]).map D.int = found.map .int ++ [.int left[j]] := by simp
    have ee : (left.eraseIdx j).map D.int = (left.map D.int).eraseIdx j := ei_map left j
    rw [List.map_cons, forL_step s1 (ρ2 := [.ln x1', x1, .ol ((left.eraseIdx j).map .int), .ol ((found ++ [left[j]]).map .int), .v (.int (i : Nat))]) ?_]
    · exact r
    · rw [ef, ee]
      clear r ef ee
      generalize left[j] = v at *
      generalize left.map D.int = Q at *
      generalize found.map D.int = F at *
      simp -implicitDefEqProofs [pp, lf]
theorem e_lorder (k : Nat) {xs : List D} (h : Hd xs) {n : Nat} (hn : n ≤ 60) : ∃ (o : L) (ys : List D), call X (k + 2) 36 [.lst xs, .int n] = some (.v (orD o), .lst ys) ∧ Hd ys ∧ Pm o ∧ o.length = n := by
  obtain ⟨ys, fo, s4, q1, q2, r⟩ := po_loop k hn (x1 := .v (.int n)) (List.range n) (left := rg n) (found := []) (s4 := .no) h (by rw [rg_len, List.length_range]) (by simp; omega) (List.Perm.refl _) fr_no
  have ln : fo.length = n := by rw [q2.length_eq, rg_len]
  refine ⟨fo, ys, ?_, q1, by unfold Pm; rw [ln]; exact q2, ln⟩
  have r1 := bi_lrg (n := n) (by rw [LINE_e]; omega)
  rw [rg_int] at r1
  have ir := it_rng (n := (n : Int)) (r62_of (by omega) (by omega))
  unfold rangeL at ir
  simp only [Int.sub_zero, Int.zero_add, Int.toNat_natCast] at ir
  rw [List.map_nil] at r
  unfold poB at r
  rw [go_i at__law_order rfl rfl]
  unfold orD
  generalize fo.map D.int = V at r ⊢
  generalize (rg n).map D.int = Q at r1 r
  generalize (List.range n).map (fun z => D.int (z : Nat)) = RR at ir r
  generalize (n : Int) = n' at *
  simp -implicitDefEqProofs [f__law_order, r1, ir, r]
end VL.K30
end
section
/-! H30e: plans drawn. -/
namespace VL.K30
open PySem M06
theorem parts_one1 : ∀ ps : List P, parts (one1 ps) = ps.map pD
  | [] => by rw [one1, parts]; rfl
  | p :: ps => by rw [one1, parts, parts_one1 ps]; rfl
theorem fm_one1 : ∀ ps : List P, fmR (one1 ps) = (ps.map fm).sum
  | [] => by rw [one1, fmR]; rfl
  | p :: ps => by rw [one1, fmR, List.map_cons, List.sum_cons, ← fm_one1 ps]
theorem cnt_one1 : ∀ ps : List P, cnt (one1 ps) = ps.length
  | [] => rfl
  | p :: ps => by rw [one1, cnt, cnt_one1 ps]; rfl
theorem ones_one1 : ∀ ps : List P, ones (one1 ps)
  | [] => trivial
  | p :: ps => ⟨rfl, ones_one1 ps⟩
theorem ht_one1 {h : Nat} : ∀ {ps : List P}, (∀ p ∈ ps, ht p ≤ h) → htR (one1 ps) ≤ h
  | [], _ => by rw [one1, htR]; omega
  | p :: ps, k => by
    have := k p List.mem_cons_self
    have := ht_one1 fun q hq => k q (List.mem_cons_of_mem _ hq)
    rw [one1, htR]
    omega
theorem wf_one1 {b : Int} : ∀ {ps : List P}, (∀ p ∈ ps, wf b p) → wfR b (one1 ps)
  | [], _ => by rw [one1, wfR]; trivial
  | p :: ps, k => by
    rw [one1, wfR]
    exact ⟨Nat.le_refl _, k p List.mem_cons_self, wf_one1 fun q hq => k q (List.mem_cons_of_mem _ hq)⟩
theorem sum_le {α : Type} (f : α → Nat) {c : Nat} : ∀ {l : List α}, (∀ x ∈ l, f x ≤ c) → (l.map f).sum ≤ l.length * c
  | [], _ => by simp
  | x :: l, h => by
    have h1 := h x List.mem_cons_self
    have h2 := sum_le f (c := c) (l := l) fun y hy => h y (List.mem_cons_of_mem _ hy)
    rw [List.map_cons, List.sum_cons, List.length_cons, Nat.succ_mul]
    omega
theorem one1_o (cp dn : Bool) (ps : List P) : (P.nd cp dn (one1 ps)).ord = lay dn (ps.map P.ord) := by
  rw [P.ord, one1_ord]
  rfl
theorem pd_nd1 (dn : Bool) (ps : List P) : pD (.nd false dn (one1 ps)) = .tup [.str (wd dn), .tup (ps.map pD)] := by rw [pD, if_neg Bool.false_ne_true, parts_one1]
/-- what is drawn at a depth -/
structure Lp (d : Nat) (p : P) : Prop where
  wf : wf 60 p
  len : p.ord.length ≤ 3 ^ d
  fm : fm p ≤ 4 ^ d
  ht : ht p ≤ d
theorem lp_one : Lp 0 .one := ⟨by rw [wf]; decide, by rw [P.ord]; decide, by rw [fm]; decide, by rw [ht]; decide⟩
theorem p3 {d : Nat} (h : d ≤ 3) : 3 ^ d ≤ 27 := Nat.le_trans (Nat.pow_le_pow_right (by decide) h) (by decide)
theorem Lp.mono {d : Nat} {p : P} (q : Lp d p) : Lp (d + 1) p := by
  have h1 := q.len
  have h2 := q.fm
  have h3 := q.ht
  have e1 : 3 ^ (d + 1) = 3 ^ d * 3 := Nat.pow_succ ..
  have e2 : 4 ^ (d + 1) = 4 ^ d * 4 := Nat.pow_succ ..
  exact ⟨q.wf, by omega, by omega, by omega⟩
theorem lp_nd {d : Nat} (hd : d < 3) {dn : Bool} {ps : List P} (h0 : ps ≠ []) (hl : ps.length ≤ 3) (q : ∀ p ∈ ps, Lp d p) : Lp (d + 1) (.nd false dn (one1 ps)) := by
  have s1 := sum_le (fun p => p.ord.length) (c := 3 ^ d) (l := ps) fun p hp => (q p hp).len
  have s2 := sum_le fm (c := 4 ^ d) (l := ps) fun p hp => (q p hp).fm
  have m1 : ps.length * 3 ^ d ≤ 3 * 3 ^ d := Nat.mul_le_mul_right _ hl
  have m2 : ps.length * 4 ^ d ≤ 3 * 4 ^ d := Nat.mul_le_mul_right _ hl
  have e1 : 3 ^ (d + 1) = 3 ^ d * 3 := Nat.pow_succ ..
  have e2 : 4 ^ (d + 1) = 4 ^ d * 4 := Nat.pow_succ ..
  have t1 := p3 (d := d + 1) hd
  have t2 : 0 < 4 ^ d := Nat.pow_pos (by decide)
  have hne : one1 ps ≠ .nil := by
    cases ps with
    | nil => exact absurd rfl h0
    | cons p ps => rw [one1]; simp
  have hR := wf_one1 fun p hp => (q p hp).wf
  have len : (P.nd false dn (one1 ps)).ord.length = (ps.map fun p => p.ord.length).sum := by
    rw [one1_o, lay_len, List.map_map]
    rfl
  have o : (P.nd false dn (one1 ps)).ok := by rw [P.ok]; exact ⟨hne, okR_wf hR⟩
  have s := ok_size o
  rw [P.size, len] at s
  refine ⟨?_, by omega, ?_, ?_⟩
  · rw [VL.K30.wf, if_neg Bool.false_ne_true, cnt_one1]
    exact ⟨hne, ⟨ones_one1 ps, by omega⟩, hR, by omega⟩
  · rw [VL.K30.fm, fm_one1]
    omega
  · rw [VL.K30.ht]
    exact Nat.succ_le_succ (ht_one1 fun p hp => (q p hp).ht)
theorem lp_rep {d : Nat} (hd : d < 3) {dn : Bool} {n : Nat} {p : P} (h0 : 1 ≤ n) (hl : n ≤ 3) (q : Lp d p) : Lp (d + 1) (.nd true dn (.cons n p .nil)) ∧ (P.nd true dn (.cons n p .nil)).ord = lay dn (List.replicate n p.ord) := by
  have h1 := q.len
  have h2 := q.fm
  have h3 := q.ht
  have e1 : 3 ^ (d + 1) = 3 ^ d * 3 := Nat.pow_succ ..
  have e2 : 4 ^ (d + 1) = 4 ^ d * 4 := Nat.pow_succ ..
  have t1 := p3 (d := d + 1) hd
  have t2 : 0 < 4 ^ d := Nat.pow_pos (by decide)
  have eo : (P.nd true dn (.cons n p .nil)).ord = lay dn (List.replicate n p.ord) := by
    rw [nd_ord, ofRn, ofRn, fl_one]
  have len : (P.nd true dn (.cons n p .nil)).ord.length = n * p.ord.length := by
    rw [eo, lay_len, List.map_replicate, List.sum_replicate_nat]
  have hR : wfR 60 (.cons n p .nil) := by rw [wfR, wfR]; exact ⟨h0, q.wf, trivial⟩
  have o : (P.nd true dn (.cons n p .nil)).ok := by rw [P.ok]; exact ⟨by simp, okR_wf hR⟩
  have s := ok_size o
  rw [P.size, len] at s
  have m1 : n * p.ord.length ≤ 3 * 3 ^ d := Nat.mul_le_mul hl h1
  refine ⟨⟨?_, by omega, ?_, ?_⟩, eo⟩
  · rw [VL.K30.wf, if_pos rfl]
    exact ⟨by simp, ⟨n, p, rfl⟩, hR, by omega⟩
  · rw [VL.K30.fm, fmR, fmR]
    omega
  · rw [VL.K30.ht, htR, htR]
    omega
end VL.K30
end
section
/-! H30f: plans drawn. -/
namespace VL.K30
open PySem M06
theorem rng_of {n : Nat} (h : n ≤ 16777216) : items .rng [.int (n : Int)] = some ((List.range n).map fun k => .int (k : Nat)) := by
  have ir := it_rng (n := (n : Int)) (r62_of (by omega) (by omega))
  unfold rangeL at ir
  simp only [Int.sub_zero, Int.zero_add, Int.toNat_natCast] at ir
  exact ir
theorem w3 : (3 : Int).natAbs < wideB := by decide +kernel
theorem w5 : (5 : Int).natAbs < wideB := by decide +kernel
abbrev lpD (p : P) : D := .tup [pD p, lsD p.ord]
theorem lparts (K : Nat) (d : Nat) {s1 s2 s3 : Sl} (e35 : ∀ {xs : List D}, Hd xs → ∃ (p : P) (ys : List D), call X K 35 [.lst xs, .int (d : Nat)] = some (.v (lpD p), .lst ys) ∧ Hd ys ∧ Lp d p) : ∀ (is : List Nat) {xs : List D}, Hd xs → ∃ (qs : List P) (ys : List D), Hd ys ∧ (∀ q ∈ qs, Lp d q) ∧ qs.length = is.length ∧
    lcL [5] (tnE (th X K) (.nm 5) [] (.calli 35 0 [.bin .sub (.var 1) (.con (.int 1))])) (is.map fun z => .int (z : Nat)) [.ln xs, .v (.int ((d + 1 : Nat) : Int)), s2, s3, .no, .no, .no, .no, .no] = .ok (qs.map lpD) [.ln ys, .v (.int ((d + 1 : Nat) : Int)), s2, s3, .no, .no, .no, .no, .no]
  | [], xs, h => ⟨[], xs, h, (fun q hq => by cases hq), rfl, rfl⟩
  | i :: is, xs, h => by
    obtain ⟨p, ys, e1, e2, e3⟩ := e35 h
    obtain ⟨qs, zs, r1, r2, r3, r4⟩ := lparts K d (s1 := s1) (s2 := s2) (s3 := s3) e35 is e2
    refine ⟨p :: qs, zs, r1, fun q hq => ?_, by simp [r3], ?_⟩
    · rcases List.mem_cons.mp hq with rfl | hq
      · exact e3
      · exact r2 q hq
    · have ed : ((d + 1 : Nat) : Int) - 1 = (d : Nat) := by omega
      rw [List.map_cons, List.map_cons]
      refine lcL_cons (ρ1 := [.ln ys, .v (.int ((d + 1 : Nat) : Int)), s2, s3, .no, .v (.int (i : Nat)), .no, .no, .no]) (tnE_ok (ρ3 := [.ln xs, .v (.int ((d + 1 : Nat) : Int)), s2, s3, .no, .v (.int (i : Nat)), .no, .no, .no]) (by simp) ?_) r4
      clear r4
      generalize lpD p = A at *
      generalize ((d + 1 : Nat) : Int) = dd at *
      simp -implicitDefEqProofs [e1, calJ_s, ed]
def upD : List D := [.str (Str.ofString "up"), .str (Str.ofString "down")]
theorem upD_wd {d : D} (h : d ∈ upD) : ∃ dn, d = .str (wd dn) := by
  unfold upD at h
  simp at h
  rcases h with rfl | rfl
  · exact ⟨false, rfl⟩
  · exact ⟨true, rfl⟩
theorem wd_s (dn : Bool) : binop .add (.str (wd dn)) (.str (Str.ofString "s")) = some (.v (.str (wds dn))) := by cases dn <;> rfl
theorem lp_bound {d : Nat} (hd : d ≤ 3) {p : P} (q : Lp d p) : p.ord.length ≤ 27 := Nat.le_trans q.len (p3 hd)
theorem rep_flat {α : Type} (x : α) : ∀ n : Nat, (List.replicate n [x]).flatten = List.replicate n x
  | 0 => rfl
  | n + 1 => by rw [List.replicate_succ, List.flatten_cons, rep_flat x n]; rfl
theorem bop_rep {x : List D} {j : Int} (h1 : j < 2 ^ 62) (h2 : -(2 ^ 62) < j) (h3 : x.length * j.toNat ≤ LINE) : binop .mul (.lst x) (.int j) = some (.fl (List.replicate j.toNat x).flatten) := by
  show (if j < 2 ^ 62 ∧ -(2 ^ 62) < j ∧ x.length * j.toNat ≤ LINE then _ else _) = _
  rw [if_pos ⟨h1, h2, h3⟩]
theorem e_lplan : ∀ (d : Nat), d ≤ 3 → ∀ (k : Nat) {xs : List D}, Hd xs → ∃ (p : P) (ys : List D), call X (k + d + 3) 35 [.lst xs, .int (d : Nat)] = some (.v (lpD p), .lst ys) ∧ Hd ys ∧ Lp d p
  | 0, _, k, xs, h => by
    refine ⟨.one, xs, ?_, h, lp_one⟩
    have e1 : pD .one = .tup [.str sOne] := by rw [pD]
    have e2 : lsD P.one.ord = .lst [.int 0] := by rw [P.ord]; rfl
    have e3 : sOne = Str.ofString "one" := rfl
    unfold lpD
    rw [e1, e2, e3, go_i at__law_plan rfl rfl]
    simp -implicitDefEqProofs [f__law_plan]
  | d + 1, hd, k, xs, h => by
    have e35 := fun {xs : List D} (h : Hd xs) => e_lplan d (by omega) k h
    obtain ⟨kd, x1, a1, b1, c1, d1⟩ := e_draw (k + d + 2) h (m := 5) (by decide) w5
    have hp : (0 : Int) < (d : Int) + 1 := by omega
    by_cases h0 : kd = 0
    · subst h0
      refine ⟨.one, x1, ?_, b1, ?_⟩
      · have e1 : pD .one = .tup [.str sOne] := by rw [pD]
        have e2 : lsD P.one.ord = .lst [.int 0] := by rw [P.ord]; rfl
        have e3 : sOne = Str.ofString "one" := rfl
        unfold lpD
        rw [e1, e2, e3, show k + (d + 1) + 3 = (k + d + 3) + 1 by omega, go_i at__law_plan rfl rfl]
        simp -implicitDefEqProofs [f__law_plan, a1, calJ_s, hp]
      · exact ⟨lp_one.wf, Nat.le_trans lp_one.len (Nat.pow_pos (by decide)), Nat.le_trans lp_one.fm (Nat.pow_pos (by decide)), Nat.le_trans lp_one.ht (Nat.zero_le _)⟩
    · obtain ⟨w, x2, a2, b2, c2⟩ := e_some (k + d + 1) b1 (things := upD) (by unfold upD; simp) (by rw [LINE_e]; decide)
      obtain ⟨dn, rfl⟩ := upD_wd c2
      unfold upD at a2
      by_cases h4 : kd < 4
      · obtain ⟨m, x3, a3, b3, c3, d3⟩ := e_draw (k + d + 2) b2 (m := 3) (by decide) w3
        obtain ⟨t, rfl⟩ := Int.eq_ofNat_of_zero_le c3
        have ht3 : t < 3 := by omega
        obtain ⟨qs, x4, b4, q2, l2, lp⟩ := lparts (k + d + 3) d (s1 := .no) (s2 := .v (.int kd)) (s3 := .v (.str (wd dn))) e35 (List.range (t + 1)) b3
        rw [List.length_range] at l2
        have qne : qs ≠ [] := by
          intro e
          rw [e] at l2
          simp at l2
        have q' := lp_nd (dn := dn) (d := d) (by omega) qne (by omega) q2
        refine ⟨.nd false dn (one1 qs), x4, ?_, b4, q'⟩
        have ir := rng_of (n := t + 1) (by omega)
        have e1 : (1 : Int) + (t : Nat) = ((t + 1 : Nat) : Int) := by omega
        rw [← e1] at ir
        have lq := lcE_ok (ρ := [.ln x3, .v (.int ((d + 1 : Nat) : Int)), .v (.int kd), .v (.str (wd dn)), .no, .no, .no, .no, .no]) (p := .nm 5) rfl (by rw [LINE_e, List.length_map, List.length_range]; omega) lp
        have r1 : ∀ ρ9 : Env, restore [.ln x3, .v (.int ((d + 1 : Nat) : Int)), .v (.int kd), .v (.str (wd dn)), .no, .no, .no, .no, .no] (patSlots (.nm 5)) ρ9 = ρ9.set 5 .no := fun _ => by simp
        rw [r1] at lq
        have f1 := fun (q : Sl) => lcE_ml2 (T := th X (k + d + 3)) (e := .var 6) (ρ := [.ln x4, .v (.int ((d + 1 : Nat) : Int)), .v (.int kd), .v (.str (wd dn)), q, .no, .no, .no, .no]) (i := 6) (j := 7) (l := qs) (g := pD) (g2 := fun p => lsD p.ord) (f := pD) (by decide) rfl rfl (by rw [LINE_e]; omega) (fun z hz => by simp)
        have f2 := fun (q : Sl) => lcE_ml2 (T := th X (k + d + 3)) (e := .var 7) (ρ := [.ln x4, .v (.int ((d + 1 : Nat) : Int)), .v (.int kd), .v (.str (wd dn)), q, .no, .no, .no, .no]) (i := 6) (j := 7) (l := qs) (g := pD) (g2 := fun p => lsD p.ord) (f := fun p => lsD p.ord) (by decide) rfl rfl (by rw [LINE_e]; omega) (fun z hz => by simp)
        have em : qs.map (fun p => lsD p.ord) = (qs.map P.ord).map lsD := by rw [List.map_map]; rfl
        rw [em] at f2
        have el := e_laid (k + d + 2) dn (qs.map P.ord) (by rw [LINE_e, List.length_map]; omega) (by
          have := lp_bound (d := d + 1) hd q'
          rw [one1_o] at this
          rw [LINE_e]; omega)
        rw [← one1_o false] at el
        unfold lpD
        rw [pd_nd1, show k + (d + 1) + 3 = (k + d + 3) + 1 by omega, go_i at__law_plan rfl rfl]
        clear lp e35
        unfold lpD at lq
        generalize (P.nd false dn (one1 qs)).ord = O at *
        unfold lsD at *
        generalize O.map D.int = OO at *
        generalize qs.map (fun z => D.tup [pD z, .lst (z.ord.map .int)]) = Q at *
        generalize (qs.map P.ord).map (fun o => D.lst (o.map .int)) = LL at *
        generalize qs.map pD = PP at *
        generalize (List.range (t + 1)).map (fun z => D.int (z : Nat)) = RR at *
        have hp' : (0 : Int) < ((d + 1 : Nat) : Int) := by omega
        generalize ((d + 1 : Nat) : Int) = dd at *
        simp -implicitDefEqProofs [f__law_plan, a1, a2, a3, calJ_s, hp', h0, h4, ir, lq, f1, f2, el]
      · obtain ⟨p, x3, a3, b3, q⟩ := e35 b2
        obtain ⟨m, x4, a4, b4, c4, d4⟩ := e_draw (k + d + 2) b3 (m := 3) (by decide) w3
        obtain ⟨t, rfl⟩ := Int.eq_ofNat_of_zero_le c4
        have ht3 : t < 3 := by omega
        obtain ⟨q', eo⟩ := lp_rep (dn := dn) (d := d) (by omega) (n := t + 1) (by omega) (by omega) q
        refine ⟨.nd true dn (.cons (t + 1) p .nil), x4, ?_, b4, q'⟩
        have el := e_laid (k + d + 2) dn (List.replicate (t + 1) p.ord) (by rw [LINE_e, List.length_replicate]; omega) (by
          have := lp_bound (d := d + 1) hd q'
          rw [eo] at this
          rw [LINE_e]; omega)
        rw [← eo] at el
        have e1 : (1 : Int) + (t : Nat) = ((t + 1 : Nat) : Int) := by omega
        have bm : binop .mul (.lst [lsD p.ord]) (.int ((t + 1 : Nat) : Int)) = some (.fl ((List.replicate (t + 1) p.ord).map lsD)) := by
          rw [bop_rep (by omega) (by omega) (by rw [LINE_e]; simp; omega), Int.toNat_natCast, rep_flat, List.map_replicate]
        have ep : pD (.nd true dn (.cons (t + 1) p .nil)) = .tup [.str (wds dn), .int ((t + 1 : Nat) : Int), pD p] := by rw [pD, if_pos rfl, hdN, hdD]
        unfold lpD
        rw [ep, show k + (d + 1) + 3 = (k + d + 3) + 1 by omega, go_i at__law_plan rfl rfl]
        clear e35
        unfold lpD at a3
        generalize (P.nd true dn (.cons (t + 1) p .nil)).ord = O at *
        generalize (List.replicate (t + 1) p.ord).map lsD = LL at *
        unfold lsD at *
        generalize O.map D.int = OO at *
        generalize p.ord.map D.int = PO at *
        generalize pD p = PP at *
        have hp' : (0 : Int) < ((d + 1 : Nat) : Int) := by omega
        have ed : ((d + 1 : Nat) : Int) - 1 = (d : Nat) := by omega
        generalize ((d + 1 : Nat) : Int) = dd at *
        generalize ((t + 1 : Nat) : Int) = tt at *
        simp -implicitDefEqProofs [f__law_plan, a1, a2, a3, a4, calJ_s, hp', h0, h4, ed, e1, bm, el, wd_s]
end VL.K30
end
section
/-! H30g: bent codes; words. -/
namespace VL.K30
open PySem M06
theorem slc_hit {xs : List D} {i : Nat} (h : i ≤ xs.length) : slcD .hi (.tup xs) [(i : Int)] = some (.v (.tup (xs.take i))) := by
  have h1 := slc_hil (xs := xs) h
  have e : slcD .hi (.tup xs) [(i : Int)] = (slcL .hi xs [(i : Int)]).map fun ys => .v (.tup ys) := rfl
  have e2 : slcD .hi (.lst xs) [(i : Int)] = (slcL .hi xs [(i : Int)]).map fun ys => .fl ys := rfl
  rw [e2] at h1
  rw [e]
  cases hq : slcL .hi xs [(i : Int)] with
  | none => rw [hq] at h1; exact absurd h1 (by simp)
  | some ys =>
    rw [hq] at h1
    simp at h1
    rw [h1]
    rfl
theorem add_t {x y : List D} (h : x.length + y.length ≤ LINE) : binop .add (.tup x) (.tup y) = some (.v (.tup (x ++ y))) := by
  show (if x.length + y.length ≤ LINE then _ else _) = _
  rw [if_pos h]
theorem add_l {x y : List D} (h : x.length + y.length ≤ LINE) : binop .add (.lst x) (.lst y) = some (.fl (x ++ y)) := by
  show (if x.length + y.length ≤ LINE then _ else _) = _
  rw [if_pos h]
def zer61 : D := .tup (List.replicate 61 (.int 0))
theorem rep61 : binop .mul (.tup [.int 0]) (.int 61) = some (.v zer61) := by
  show (if (2 : Int) ≤ 61 ∧ (61 : Int) ≤ 1000 ∧ [D.int 0].length ≤ 1000 ∧ [D.int 0].isEmpty = false then some (R.v (.tup (List.replicate (61 : Int).toNat [D.int 0]).flatten)) else none) = _
  rw [if_pos ⟨by decide, by decide, by decide, rfl⟩]
  rfl
theorem rep4 (x : D) : binop .mul (.lst [x]) (.int 4) = some (.fl [x, x, x, x]) := by
  rw [bop_rep (by decide) (by decide) (by rw [LINE_e]; simp)]
  rfl
/-- an odd number in a code -/
theorem tg_odd {a b : L} {d : D} (h : kI d ≠ none) (hl : a.length + b.length < 1000) : Tg (.tup (a.map .int ++ [d] ++ b.map .int)) := by
  have g : ∀ z, Tg (.tup (a.map .int ++ [.int z] ++ b.map .int)) := fun z => by
    have e : D.tup (a.map .int ++ [.int z] ++ b.map .int) = orD (a ++ [z] ++ b) := by simp
    rw [e]
    exact .il _ (by simp; omega)
  have n : kI d = some false → Tg (.tup (a.map .int ++ [d] ++ b.map .int)) := fun e => by
    refine .ni _ (by simp; omega) (fun x hx => ?_) ⟨d, by simp, e⟩
    simp at hx
    rcases hx with ⟨z, _, rfl⟩ | rfl | ⟨z, _, rfl⟩
    · simp [kI]
    · exact h
    · simp [kI]
  cases d with
  | int z => exact g z
  | fn _ => exact absurd rfl h
  | dic _ => exact absurd rfl h
  | scr _ => exact absurd rfl h
  | _ => exact n rfl
abbrev oddL (n i x : Int) : List D := [.int 0, .int (x + 1), .int (n - i), .int (n - i - 1), .int (-1), .non, .bl true, .str (Str.ofString "0"), .tup [.int 0]]
theorem odd_k {n i x : Int} {d : D} (h : d ∈ oddL n i x) : kI d ≠ none := by
  simp at h
  rcases h with rfl | rfl | rfl | rfl | rfl | rfl | rfl | rfl | rfl <;> simp [kI]
theorem e_lbent (k : Nat) {xs : List D} (h : Hd xs) {c : L} (h1 : 1 ≤ c.length) (h2 : c.length ≤ 60) : ∃ (d : D) (ys : List D), call X (k + 3) 40 [.lst xs, orD c] = some (.v d, .lst ys) ∧ Hd ys ∧ Tg d := by
  obtain ⟨i, x1, a1, b1, c1, d1⟩ := e_draw (k + 1) h (m := (c.length : Int)) (by omega) (line_wide (by rw [LINE_e]; omega))
  obtain ⟨i, rfl⟩ := Int.eq_ofNat_of_zero_le c1
  have hi : i < c.length := by omega
  obtain ⟨odd, x2, a2, b2, c2⟩ := e_some k b1 (things := oddL (c.length : Int) (i : Int) c[i]) (by simp) (by rw [LINE_e]; simp)
  let T0 : D := .tup ((c.take i).map .int ++ [odd] ++ (c.drop (i + 1)).map .int)
  obtain ⟨d, x3, a3, b3, c3⟩ := e_some k b2 (things := [T0, T0, T0, T0, orD (c.drop 1), orD (c ++ [0]), orD (0 :: c), orD c.reverse, .lst (c.map .int), .tup [], .tup [orD c], .non, .int 0, .str (Str.ofString "x"), .dic 0, zer61]) (by simp) (by rw [LINE_e]; simp)
  refine ⟨d, x3, ?_, b3, ?_⟩
  · have ln := len_or c
    have sb : subD (orD c) (.int (i : Int)) = some (.int c[i]) := subD_t (xs := c.map .int) (k := i) (d := .int c[i]) (by rw [List.getElem?_map, List.getElem?_eq_getElem hi]; rfl)
    have hh : slcD .hi (orD c) [(i : Int)] = some (.v (.tup ((c.take i).map .int))) := by
      have hh := slc_hit (xs := c.map .int) (i := i) (by simp; omega)
      rw [← List.map_take] at hh
      exact hh
    have hl : slcD .lo (orD c) [(i : Int) + 1] = some (.v (.tup ((c.drop (i + 1)).map .int))) := by
      have hl := slc_lot (xs := c.map .int) (i := i + 1)
      rw [← List.map_drop] at hl
      exact hl
    have hl1 : slcD .lo (orD c) [1] = some (.v (orD (c.drop 1))) := by
      have hl1 := slc_lot (xs := c.map .int) (i := 1)
      rw [← List.map_drop] at hl1
      exact hl1
    have hr : slcD .rev (orD c) [] = some (.v (orD c.reverse)) := by
      show some (R.v (.tup (c.map D.int).reverse)) = _
      rw [← List.map_reverse]
    have hb : biop .list [orD c] = some (.fl (c.map .int)) := rfl
    have hA : binop .add (.tup ((c.take i).map .int)) (.tup [odd]) = some (.v (.tup ((c.take i).map .int ++ [odd]))) := add_t (by rw [LINE_e]; simp; omega)
    have hB : binop .add (.tup ((c.take i).map .int ++ [odd])) (.tup ((c.drop (i + 1)).map .int)) = some (.v T0) := add_t (by rw [LINE_e]; simp; omega)
    have hC : binop .add (orD c) (.tup [.int 0]) = some (.v (orD (c ++ [0]))) := by
      have := add_t (x := c.map .int) (y := [.int 0]) (by rw [LINE_e]; simp; omega)
      rw [show orD (c ++ [0]) = .tup (c.map .int ++ [.int 0]) by simp]
      exact this
    have hD : binop .add (.tup [.int 0]) (orD c) = some (.v (orD (0 :: c))) := by
      have := add_t (x := [.int 0]) (y := c.map .int) (by rw [LINE_e]; simp; omega)
      exact this
    have r4 := rep4 T0
    have r61 := rep61
    have al := @add_l
    rw [go_i at__law_bent rfl rfl]
    unfold oddL at a2
    generalize T0 = U at *
    generalize zer61 = Z at *
    generalize (c.take i).map D.int = A at *
    generalize (c.drop (i + 1)).map D.int = B at *
    generalize orD (c.drop 1) = R1 at *
    generalize orD (c ++ [0]) = R2 at *
    generalize orD (0 :: c) = R3 at *
    generalize orD c.reverse = R4 at *
    generalize orD c = R at *
    generalize c.map D.int = R5 at *
    generalize c[i] = v at *
    generalize (c.length : Int) = n at *
    generalize (i : Int) = j at *
    have L16 : 16 ≤ LINE := by rw [LINE_e]; decide
    simp -implicitDefEqProofs [f__law_bent, a1, a2, a3, calJ_s, ln, sb, hh, hl, hl1, hr, hb, hA, hB, hC, hD, r4, r61, al]
  · have g0 : Tg T0 := tg_odd (odd_k c2) (by simp; omega)
    simp only [List.mem_cons, List.not_mem_nil, or_false] at c3
    have t0 : Tg (.tup []) := .il [] (by simp)
    have t1 : Tg (.tup [orD c]) := .ni _ (by simp) (fun x hx => by simp at hx; subst hx; simp [kI]) ⟨orD c, by simp, rfl⟩
    have t2 : Tg zer61 := .il (List.replicate 61 0) (by simp)
    rcases c3 with rfl | rfl | rfl | rfl | rfl | rfl | rfl | rfl | rfl | rfl | rfl | rfl | rfl | rfl | rfl | rfl
    · exact g0
    · exact g0
    · exact g0
    · exact g0
    · exact .il _ (by simp; omega)
    · exact .il _ (by simp; omega)
    · exact .il _ (by simp; omega)
    · exact .il _ (by simp; omega)
    · exact .nt _ rfl
    · exact t0
    · exact t1
    · exact .nt _ rfl
    · exact .nt _ rfl
    · exact .nt _ rfl
    · exact .nt _ rfl
    · exact t2
end VL.K30
end
section
/-! H30h: the words of errors. -/
namespace VL.K30
open PySem M06
theorem add35 (a b c d e : D) : binop .add (.lst [a, b, c]) (.lst [d, e]) = some (.fl [a, b, c, d, e]) := add_l (by rw [LINE_e]; simp)
theorem sub5 (a b c d e : D) : subD (.lst [a, b, c, d, e]) (.int 0) = some a ∧ subD (.lst [a, b, c, d, e]) (.int 1) = some b ∧ subD (.lst [a, b, c, d, e]) (.int 2) = some c ∧ subD (.lst [a, b, c, d, e]) (.int 3) = some d ∧ subD (.lst [a, b, c, d, e]) (.int 4) = some e := by
  refine ⟨rfl, rfl, rfl, rfl, rfl⟩
abbrev sCode : Str := Str.ofString "code"
theorem e_word_code (k : Nat) : wcall X (k + 1) 43 (some xC) = some (.str (Str.ofString "code")) := by
  have s1 : X.sub 2 1 = true := by decide
  have s0 : X.sub 2 0 = true := by decide
  have t2 : X.sub 2 2 = true := by decide
  have t3 : X.sub 2 3 = false := by decide
  have t4 : X.sub 2 4 = false := by decide
  have t5 : X.sub 2 5 = false := by decide
  have t6 : X.sub 2 6 = false := by decide
  have mb := fun (m : Mt) (q : Env → Rs (List R)) (s : Sl) => mtR_br (m := m) (k := q) (i := 2) (ρ := [.no, s, .ol [.bl true, .bl false, .bl false, .bl false, .bl false]]) (xs := [.bl true, .bl false, .bl false, .bl false, .bl false]) rfl
  rw [go_w at__law_word]
  simp -implicitDefEqProofs [f__law_word, s1, s0, t2, t3, t4, t5, t6, mb, add35, sub5, mtop, flat0, eqD, idxD]
abbrev sOrder : Str := Str.ofString "order"
theorem e_word_order (k : Nat) : wcall X (k + 1) 43 (some xO) = some (.str (Str.ofString "order")) := by
  have s1 : X.sub 3 1 = true := by decide
  have s0 : X.sub 3 0 = true := by decide
  have t2 : X.sub 3 2 = false := by decide
  have t3 : X.sub 3 3 = true := by decide
  have t4 : X.sub 3 4 = false := by decide
  have t5 : X.sub 3 5 = false := by decide
  have t6 : X.sub 3 6 = false := by decide
  have mb := fun (m : Mt) (q : Env → Rs (List R)) (s : Sl) => mtR_br (m := m) (k := q) (i := 2) (ρ := [.no, s, .ol [.bl false, .bl true, .bl false, .bl false, .bl false]]) (xs := [.bl false, .bl true, .bl false, .bl false, .bl false]) rfl
  rw [go_w at__law_word]
  simp -implicitDefEqProofs [f__law_word, s1, s0, t2, t3, t4, t5, t6, mb, add35, sub5, mtop, flat0, eqD, idxD]
abbrev sPlan : Str := Str.ofString "plan"
theorem e_word_plan (k : Nat) : wcall X (k + 1) 43 (some xP) = some (.str (Str.ofString "plan")) := by
  have s1 : X.sub 4 1 = true := by decide
  have s0 : X.sub 4 0 = true := by decide
  have t2 : X.sub 4 2 = false := by decide
  have t3 : X.sub 4 3 = false := by decide
  have t4 : X.sub 4 4 = true := by decide
  have t5 : X.sub 4 5 = false := by decide
  have t6 : X.sub 4 6 = false := by decide
  have mb := fun (m : Mt) (q : Env → Rs (List R)) (s : Sl) => mtR_br (m := m) (k := q) (i := 2) (ρ := [.no, s, .ol [.bl false, .bl false, .bl true, .bl false, .bl false]]) (xs := [.bl false, .bl false, .bl true, .bl false, .bl false]) rfl
  rw [go_w at__law_word]
  simp -implicitDefEqProofs [f__law_word, s1, s0, t2, t3, t4, t5, t6, mb, add35, sub5, mtop, flat0, eqD, idxD]
abbrev sNumber : Str := Str.ofString "number"
theorem e_word_number (k : Nat) : wcall X (k + 1) 43 (some xN) = some (.str (Str.ofString "number")) := by
  have s1 : X.sub 5 1 = true := by decide
  have s0 : X.sub 5 0 = true := by decide
  have t2 : X.sub 5 2 = false := by decide
  have t3 : X.sub 5 3 = false := by decide
  have t4 : X.sub 5 4 = false := by decide
  have t5 : X.sub 5 5 = true := by decide
  have t6 : X.sub 5 6 = false := by decide
  have mb := fun (m : Mt) (q : Env → Rs (List R)) (s : Sl) => mtR_br (m := m) (k := q) (i := 2) (ρ := [.no, s, .ol [.bl false, .bl false, .bl false, .bl true, .bl false]]) (xs := [.bl false, .bl false, .bl false, .bl true, .bl false]) rfl
  rw [go_w at__law_word]
  simp -implicitDefEqProofs [f__law_word, s1, s0, t2, t3, t4, t5, t6, mb, add35, sub5, mtop, flat0, eqD, idxD]
abbrev sPlace : Str := Str.ofString "place"
theorem e_word_place (k : Nat) : wcall X (k + 1) 43 (some xL) = some (.str (Str.ofString "place")) := by
  have s1 : X.sub 6 1 = true := by decide
  have s0 : X.sub 6 0 = true := by decide
  have t2 : X.sub 6 2 = false := by decide
  have t3 : X.sub 6 3 = false := by decide
  have t4 : X.sub 6 4 = false := by decide
  have t5 : X.sub 6 5 = false := by decide
  have t6 : X.sub 6 6 = true := by decide
  have mb := fun (m : Mt) (q : Env → Rs (List R)) (s : Sl) => mtR_br (m := m) (k := q) (i := 2) (ρ := [.no, s, .ol [.bl false, .bl false, .bl false, .bl false, .bl true]]) (xs := [.bl false, .bl false, .bl false, .bl false, .bl true]) rfl
  rw [go_w at__law_word]
  simp -implicitDefEqProofs [f__law_word, s1, s0, t2, t3, t4, t5, t6, mb, add35, sub5, mtop, flat0, eqD, idxD]
end VL.K30
end
section
/-! H30i: _law_order_right. -/
namespace VL.K30
open PySem M06
theorem dat_or (o : L) : dat (orD o) = true := by unfold orD; rw [dat, dats_ints]
theorem flat_or {n : Nat} (o : L) : flat (n + 1) (orD o) = true := by
  have : flat (n + 1) (orD o) = flats n (o.map .int) := rfl
  rw [this, flats_ints]
theorem eqOk_or (l m : L) : eqOk (orD l) (orD m) = true := by
  unfold eqOk
  rw [dat_or, dat_or, show (190 : Nat) = 189 + 1 from rfl, flat_or]
  rfl
theorem ne_or (o : L) : cmpop .ne (orD o) (orD o) = some false := by
  rw [cm_ne' (eqOk_or o o), eqD_refl _ (dat_or o)]
  rfl
theorem ne_str (s : Str) : cmpop .ne (.str s) (.str s) = some false := by
  rw [cm_ne' rfl, eqD_refl _ rfl]
  rfl
theorem eq_str (s : Str) : cmpop .eq (.str s) (.str s) = some true := by
  rw [cm_eq' rfl, eqD_refl _ rfl]
theorem e_from_ok (k : Nat) {c : L} (h : Cd c) (h1 : 1 ≤ c.length) (h2 : c.length ≤ 60) : call X (k + 4) 19 [orD c] = some (.v (orD (dec (rg c.length) c)), .non) := by
  have a1 := e_is_code k (c := c) (by omega)
  have e : cfl c = true := by
    unfold cfl
    rw [decide_eq_true h1, decide_eq_true h2, (cdB_iff c).mpr h]
    rfl
  rw [e] at a1
  have d1 := e_dec (k + 2) h h2
  rw [go_f at_from_code rfl rfl]
  generalize orD (dec (rg c.length) c) = V at d1 ⊢
  generalize orD c = O at *
  simp -implicitDefEqProofs [f_from_code, a1, d1]
theorem num_inj {c d : L} (h : Cd c) (g : Cd d) (hl : c.length = d.length) (e : num 0 c = num 0 d) : c = d := by
  rw [← dig_code h, ← dig_code g, hl, e]
theorem fac9 {n : Nat} (h : n ≤ 9) : fac n ≤ 362880 := by
  have : ∀ n < 10, fac n ≤ 362880 := by decide
  exact this n (by omega)
theorem asc_rg (n : Nat) : Asc (rg n) := rg_asc n
theorem dec_inv {o : L} (h : Pm o) : dec (rg o.length) (invs o) = o := dec_invs (asc_rg _) h
theorem inv_dec {c : L} (h : Cd c) : invs (dec (rg c.length) c) = c := (dec_cd h (by rw [rg_len]) (asc_rg _)).2
theorem dec_pm {c : L} (h : Cd c) : Pm (dec (rg c.length) c) ∧ (dec (rg c.length) c).length = c.length := by
  have p := (dec_cd h (by rw [rg_len]) (asc_rg c.length)).1
  have l := p.length_eq
  rw [rg_len] at l
  refine ⟨?_, l⟩
  unfold Pm
  rw [l]
  exact p
theorem execs_step {T : Th} {s : S} {ss : List S} {ρ ρ1 : Env} (h : exec T s ρ = .nx ρ1) : execs T (s :: ss) ρ = execs T ss ρ1 := by
  rw [execs_cons, h]
  rfl
abbrev ob (i : Nat) : S := f__law_order_right.body.getD i .retN
section
variable (k : Nat) {x s2 s3 s4 s5 s6 s7 : Sl}
theorem or_0 {o : L} (h2 : o.length ≤ 60) : exec (th X (k + 6)) (ob 0) [x, .v (orD o), .no, s3, s4, s5, s6, s7] = .nx [x, .v (orD o), .v (orD (invs o)), s3, s4, s5, s6, s7] := by
  have a := e_lcode (k + 5) (l := o) (by omega)
  generalize orD (invs o) = V at *
  generalize orD o = O at *
  simp -implicitDefEqProofs [ob, f__law_order_right, a]
theorem or_1 {o : L} (h : Pm o) (h1 : 1 ≤ o.length) (h2 : o.length ≤ 60) : exec (th X (k + 6)) (ob 1) [x, .v (orD o), .v (orD (invs o)), s3, s4, s5, s6, s7] = .nx [x, .v (orD o), .v (orD (invs o)), s3, s4, s5, s6, s7] := by
  have a1 := e_code (k + 1) h h1 h2
  have a2 := e_from_ok (k + 2) (invs_cd o) (by rw [invs_len]; exact h1) (by rw [invs_len]; exact h2)
  rw [invs_len, dec_inv h] at a2
  have a3 := e_order_number (k + 1) h h1 h2
  have a4 := e_lnumber (k + 4) h2
  have n1 := ne_or o
  have n2 := ne_or (invs o)
  generalize num 0 (invs o) = v at *
  generalize orD (invs o) = V at *
  generalize orD o = O at *
  simp -implicitDefEqProofs [ob, f__law_order_right, a1, a2, a3, a4, n1, n2]
theorem or_2 {o : L} (h : Pm o) (h1 : 1 ≤ o.length) (h2 : o.length ≤ 60) : exec (th X (k + 6)) (ob 2) [x, .v (orD o), .v (orD (invs o)), s3, s4, s5, s6, s7] = .nx [x, .v (orD o), .v (orD (invs o)), s3, s4, s5, s6, s7] := by
  have lt := num_lt (invs_cd o)
  rw [invs_len] at lt
  obtain ⟨c, c1, c2, c3, a⟩ := e_numbered (k + 2) h1 h2 lt.1 lt.2
  have e : c = invs o := num_inj c1 (invs_cd o) (by rw [c2, invs_len]) c3
  rw [e, dec_inv h] at a
  have a4 := e_lnumber (k + 4) h2
  have n1 := ne_or o
  have ln := len_or o
  generalize num 0 (invs o) = v at *
  generalize orD (invs o) = V at *
  generalize orD o = O at *
  generalize (o.length : Int) = n at *
  simp -implicitDefEqProofs [ob, f__law_order_right, a, a4, n1, ln]
abbrev oB3 : List S := [.asg (.nm 4) (.calli 40 0 [(.var 2)]),
    .ife (.not (.call 39 [(.var 4)])) [.ife (.cmp .ne (.word 43 (.call 19 [(.var 4)])) (.con (.str (Str.ofString "code")))) [.ret (.con (.bl false))] []] [.ife (.cmp .ne (.call 37 [(.call 19 [(.var 4)])]) (.var 4)) [.ret (.con (.bl false))] []]]
theorem or_turn {y s3 : Sl} {xs : List D} (h : Hd xs) {c : L} (h1 : 1 ≤ c.length) (h2 : c.length ≤ 60) (f4 : Fr s4) : ∃ (d : D) (ys : List D), execs (th X (k + 6)) oB3 [.ln xs, y, .v (orD c), s3, s4, s5, s6, s7] = .nx [.ln ys, y, .v (orD c), s3, .v d, s5, s6, s7] ∧ Hd ys := by
  obtain ⟨d, ys, a, b, t⟩ := e_lbent (k + 3) h h1 h2
  refine ⟨d, ys, ?_, b⟩
  have g0 : exec (th X (k + 6)) (.asg (.nm 4) (.calli 40 0 [(.var 2)])) [.ln xs, y, .v (orD c), s3, s4, s5, s6, s7] = .nx [.ln ys, y, .v (orD c), s3, .v d, s5, s6, s7] := by
    generalize orD c = C at *
    simp -implicitDefEqProofs [a, calJ_s, f4.set]
  rcases tg_same t with ⟨e, rfl, e1, e2, e3, e4⟩ | ⟨e3, e4⟩
  · have a3 := e3 (k + 5)
    have a4 := e4 (k + 2)
    have pm := dec_pm e1
    have a5 := e_lcode (k + 5) (l := dec (rg e.length) e) (by rw [pm.2]; omega)
    rw [inv_dec e1] at a5
    have n1 := ne_or e
    rw [execs_step g0]
    generalize orD (dec (rg e.length) e) = V at *
    generalize orD e = W at *
    generalize orD c = C at *
    simp -implicitDefEqProofs [a3, a4, a5, n1]
  · have a3 := e3 (k + 5)
    have a4 := e4 (k + 2)
    have wv := word_ex (T := th X (k + 6)) (f := 43) (e := .call 19 [.var 4]) (ρ := [.ln ys, y, .v (orD c), s3, .v d, s5, s6, s7]) (ρ1 := [.ln ys, y, .v (orD c), s3, .v d, s5, s6, s7]) (x := xC) (d := .str sCode) (by
      generalize orD c = C at *
      simp -implicitDefEqProofs [a4]) (e_word_code (k + 5))
    have ns := ne_str sCode
    rw [execs_step g0]
    generalize orD c = C at *
    simp -implicitDefEqProofs [a3, wv, ns]
theorem or_loop {y : Sl} {c : L} (h1 : 1 ≤ c.length) (h2 : c.length ≤ 60) : ∀ (is : List Nat) {xs : List D} {s3 s4 : Sl}, Hd xs → Fr s3 → Fr s4 → ∃ (ys : List D) (t3 t4 : Sl), Hd ys ∧ forL (asgD (.nm 3)) (execs (th X (k + 6)) oB3) (is.map fun z => .int (z : Nat)) [.ln xs, y, .v (orD c), s3, s4, s5, s6, s7] = .nx [.ln ys, y, .v (orD c), t3, t4, s5, s6, s7]
  | [], xs, s3, s4, h, _, _ => ⟨xs, s3, s4, h, rfl⟩
  | i :: is, xs, s3, s4, h, f3, f4 => by
    obtain ⟨d, x1, a, b⟩ := or_turn k (y := y) (s3 := .v (.int (i : Nat))) (s5 := s5) (s6 := s6) (s7 := s7) h h1 h2 f4
    obtain ⟨ys, t3, t4, q, r⟩ := or_loop h1 h2 is (s3 := .v (.int (i : Nat))) (s4 := .v d) b (fr_v _) (fr_v _)
    exact ⟨ys, t3, t4, q, by rw [List.map_cons, forL_step (ρ1 := [.ln xs, y, .v (orD c), .v (.int (i : Nat)), s4, s5, s6, s7]) (by simp [f3.set]) a]; exact r⟩
theorem or_3 {y : Sl} {xs : List D} (h : Hd xs) {c : L} (h1 : 1 ≤ c.length) (h2 : c.length ≤ 60) : ∃ (ys : List D) (t3 t4 : Sl), Hd ys ∧ exec (th X (k + 6)) (ob 3) [.ln xs, y, .v (orD c), .no, .no, s5, s6, s7] = .nx [.ln ys, y, .v (orD c), t3, t4, s5, s6, s7] := by
  obtain ⟨ys, t3, t4, q, r⟩ := or_loop k (y := y) (s5 := s5) (s6 := s6) (s7 := s7) h1 h2 (List.range 5) h fr_no fr_no
  refine ⟨ys, t3, t4, q, ?_⟩
  have ir := rng_of (n := 5) (by decide)
  rw [show ((5 : Nat) : Int) = 5 from rfl] at ir
  have hb : ob 3 = .forS .rng [.con (.int 5)] (.nm 3) oB3 := rfl
  rw [hb]
  generalize (List.range 5).map (fun (t : Nat) => D.int (t : Int)) = RR at ir r
  generalize oB3 = B at r
  generalize orD c = O at r ⊢
  simp -implicitDefEqProofs [ir, r]
abbrev oB5 : List S := [.asg (.nm 5) (.bin .mul (.var 5) (.var 6))]
theorem of_loop {T : Th} {x0 x1 x2 x3 x4 : Sl} : ∀ (n : Nat) {r : Nat} {s6 : Sl}, r + n ≤ 100 → Fr s6 →
    ∃ s6', forL (asgD (.nm 6)) (execs T oB5) ((List.range' (r + 1) n).map fun (z : Nat) => .int (z : Nat)) [x0, x1, x2, x3, x4, .v (.int (fac r : Nat)), s6, .no] = .nx [x0, x1, x2, x3, x4, .v (.int (fac (r + n) : Nat)), s6', .no]
  | 0, r, s6, _, _ => ⟨s6, rfl⟩
  | n + 1, r, s6, h, f6 => by
    obtain ⟨t6, e⟩ := of_loop (x0 := x0) (x1 := x1) (x2 := x2) (x3 := x3) (x4 := x4) n (r := r + 1) (s6 := .v (.int ((r + 1 : Nat) : Int))) (by omega) (fr_v _)
    refine ⟨t6, ?_⟩
    have a1 : asgD (.nm 6) (.int ((r + 1 : Nat) : Int)) [x0, x1, x2, x3, x4, .v (.int (fac r : Nat)), s6, .no] = some [x0, x1, x2, x3, x4, .v (.int (fac r : Nat)), .v (.int ((r + 1 : Nat) : Int)), .no] := by simp [f6.set]
    have m : binop .mul (.int (fac r : Nat)) (.int ((r + 1 : Nat) : Int)) = some (.v (.int (fac (r + 1) : Nat))) := by
      rw [bop_mul (mulOk_r (by omega)), fac, Int.natCast_mul, Int.mul_comm]
    rw [show r + (n + 1) = r + 1 + n by omega, List.range'_succ, List.map_cons, forL_step a1 (ρ2 := [x0, x1, x2, x3, x4, .v (.int (fac (r + 1) : Nat)), .v (.int ((r + 1 : Nat) : Int)), .no]) ?_]
    · exact e
    · generalize ((fac r : Nat) : Int) = A at *
      generalize ((fac (r + 1) : Nat) : Int) = B at *
      generalize ((r + 1 : Nat) : Int) = C at *
      simp -implicitDefEqProofs [m]
theorem or_5 {o : L} {x2 x3 x4 : Sl} (h1 : 1 ≤ o.length) (h2 : o.length ≤ 60) : ∃ t6, exec (th X (k + 6)) (ob 5) [x, .v (orD o), x2, x3, x4, .v (.int 1), .no, .no] = .nx [x, .v (orD o), x2, x3, x4, .v (.int (fac o.length : Nat)), t6, .no] := by
  obtain ⟨t6, r⟩ := of_loop (T := th X (k + 6)) (x0 := x) (x1 := .v (orD o)) (x2 := x2) (x3 := x3) (x4 := x4) (o.length - 1) (r := 1) (s6 := .no) (by omega) fr_no
  refine ⟨t6, ?_⟩
  rw [show 1 + (o.length - 1) = o.length by omega, show ((fac 1 : Nat) : Int) = 1 from rfl] at r
  have ir := it_r2 (m := 2) (n := o.length + 1) (by omega) (by omega)
  rw [show o.length + 1 - 2 = o.length - 1 by omega, show ((2 : Nat) : Int) = 2 from rfl, show ((o.length + 1 : Nat) : Int) = (o.length : Int) + 1 by omega] at ir
  have ln := len_or o
  have hb : ob 5 = .forS .rng2 [.con (.int 2), .bin .add (.bi .len [(.var 1)]) (.con (.int (1)))] (.nm 6) oB5 := rfl
  rw [hb]
  generalize (List.range' 2 (o.length - 1)).map (fun (t : Nat) => D.int (t : Int)) = RR at ir r
  generalize oB5 = B at r
  generalize orD o = O at *
  generalize ((fac o.length : Nat) : Int) = F at *
  generalize (o.length : Int) = n at *
  simp -implicitDefEqProofs [ir, r, ln]
theorem or_7 {o : L} {x2 x3 x4 x6 : Sl} {v : Int} {xs : List D} (h1 : 1 ≤ o.length) (h2 : o.length ≤ 60) (h3 : 0 ≤ v) (h4 : v < fac o.length) : exec (th X (k + 6)) (ob 7) [x, .v (orD o), x2, x3, x4, s5, x6, .v (.int v)] = .nx [x, .v (orD o), x2, x3, x4, s5, x6, .v (.int v)] := by
  obtain ⟨c, c1, c2, c3, a⟩ := e_numbered (k + 2) h1 h2 h3 h4
  have pm := dec_pm c1
  rw [c2] at pm
  have b := e_lnumber (k + 4) (o := dec (rg o.length) c) (by rw [pm.2]; exact h2)
  have e := inv_dec c1
  rw [c2] at e
  rw [e, c3] at b
  have ln := len_or o
  generalize orD (dec (rg o.length) c) = V at *
  generalize orD o = O at *
  generalize (o.length : Int) = n at *
  simp -implicitDefEqProofs [ob, f__law_order_right, a, b, ln]
theorem or_8 {o : L} {x2 x3 x4 x6 : Sl} (h1 : 1 ≤ o.length) (h2 : o.length ≤ 60) : exec (th X (k + 6)) (ob 8) [x, .v (orD o), x2, x3, x4, .v (.int (fac o.length : Nat)), x6, s7] = .rt (.v (.bl true)) [x, .v (orD o), x2, x3, x4, .v (.int (fac o.length : Nat)), x6, s7] := by
  have a := e_numbered_bad2 (k + 2) h1 h2 (x := .int (fac o.length : Nat)) (.inr ⟨_, rfl, by omega⟩)
  have ln := len_or o
  have es := eq_str sNumber
  generalize orD o = O at *
  generalize ((fac o.length : Nat) : Int) = F at *
  have wv := word_ex (T := th X (k + 6)) (f := 43) (e := .call 28 [.bi .len [.var 1], .var 5]) (ρ := [x, .v O, x2, x3, x4, .v (.int F), x6, s7]) (ρ1 := [x, .v O, x2, x3, x4, .v (.int F), x6, s7]) (x := xN) (d := .str sNumber) (by
    generalize (o.length : Int) = n at *
    simp -implicitDefEqProofs [a, ln]) (e_word_number (k + 5))
  simp -implicitDefEqProofs [ob, f__law_order_right, wv, es]
end
theorem e_lorder_right (k : Nat) {xs : List D} (h : Hd xs) {o : L} (hp : Pm o) (h1 : 1 ≤ o.length) (h2 : o.length ≤ 9) : ∃ ys, call X (k + 7) 41 [.lst xs, orD o] = some (.v (.bl true), .lst ys) ∧ Hd ys := by
  have h60 : o.length ≤ 60 := by omega
  obtain ⟨x1, t3, t4, b1, a1⟩ := or_3 k (y := .v (orD o)) (s5 := .no) (s6 := .no) (s7 := .no) h (c := invs o) (by rw [invs_len]; exact h1) (by rw [invs_len]; exact h60)
  have f9 := fac9 h2
  have f1 := fac_pos o.length
  obtain ⟨v, x2, a2, b2, c2, d2⟩ := e_draw (k + 5) b1 (m := (fac o.length : Nat)) (by omega) (line_wide (by rw [LINE_e]; omega))
  obtain ⟨t6, a5⟩ := or_5 k (x := .ln x1) (o := o) (x2 := .v (orD (invs o))) (x3 := t3) (x4 := t4) h1 h60
  refine ⟨x2, ?_, b2⟩
  have e0 := or_0 k (x := .ln xs) (s3 := .no) (s4 := .no) (s5 := .no) (s6 := .no) (s7 := .no) h60
  have e1 := or_1 k (x := .ln xs) (s3 := .no) (s4 := .no) (s5 := .no) (s6 := .no) (s7 := .no) hp h1 h60
  have e2 := or_2 k (x := .ln xs) (s3 := .no) (s4 := .no) (s5 := .no) (s6 := .no) (s7 := .no) hp h1 h60
  have e4 : exec (th X (k + 6)) (ob 4) [.ln x1, .v (orD o), .v (orD (invs o)), t3, t4, .no, .no, .no] = .nx [.ln x1, .v (orD o), .v (orD (invs o)), t3, t4, .v (.int 1), .no, .no] := by
    generalize orD (invs o) = V at *
    generalize orD o = O at *
    simp -implicitDefEqProofs [ob, f__law_order_right]
  have e6 : exec (th X (k + 6)) (ob 6) [.ln x1, .v (orD o), .v (orD (invs o)), t3, t4, .v (.int (fac o.length : Nat)), t6, .no] = .nx [.ln x2, .v (orD o), .v (orD (invs o)), t3, t4, .v (.int (fac o.length : Nat)), t6, .v (.int v)] := by
    generalize orD (invs o) = V at *
    generalize orD o = O at *
    generalize ((fac o.length : Nat) : Int) = F at *
    simp -implicitDefEqProofs [ob, f__law_order_right, a2, calJ_s]
  have e7 := or_7 k (xs := xs) (x := .ln x2) (s5 := .v (.int (fac o.length : Nat))) (x2 := .v (orD (invs o))) (x3 := t3) (x4 := t4) (x6 := t6) h1 h60 c2 d2
  have e8 := or_8 k (x := .ln x2) (s7 := .v (.int v)) (x2 := .v (orD (invs o))) (x3 := t3) (x4 := t4) (x6 := t6) h1 h60
  have hb : f__law_order_right.body = [ob 0, ob 1, ob 2, ob 3, ob 4, ob 5, ob 6, ob 7, ob 8] := rfl
  rw [go_i at__law_order_right rfl rfl, hb]
  show endI (execs (th X (k + 6)) _ [.ln xs, .v (orD o), .no, .no, .no, .no, .no, .no]) = _
  rw [execs_step e0, execs_step e1, execs_step e2, execs_step a1, execs_step e4, execs_step a5, execs_step e6, execs_step e7, execs_cons, e8]
  rfl
end VL.K30
end
section
/-! H30j: _law_plan_right. -/
namespace VL.K30
open PySem M06
theorem gah_get : ∀ (r pre : L) (i : Nat) (h : i < r.length), (gah pre r).getD i 0 = above r[i] (pre ++ r.take i)
  | x :: r, pre, 0, _ => by rw [gah]; simp
  | x :: r, pre, i + 1, h => by
    rw [List.length_cons] at h
    have := gah_get r (pre ++ [x]) i (by omega)
    rw [gah, List.getD_cons_succ, this]
    simp
theorem cA_get {o : L} {i : Nat} (h : i < o.length) : cA o i = ((o.take i).filter fun y => decide (o[i] < y)).length := by
  unfold cA
  rw [gah_get o [] i h]
  rfl
theorem gr_facts {o : L} (ho : Pm o) (hn : o ≠ []) {N c p : Nat} (hc : c < N) (hp : p < o.length) :
    cB (lay true (List.replicate N o)) (c * o.length + p) = cB o p + ((N : Int) - 1 - c) * o.length ∧
    cA (lay true (List.replicate N o)) (c * o.length + p) = (c : Int) * o.length + cA o p ∧
    mG (lay true (List.replicate N o)) = mG o + ((N : Int) - 1) * o.length := by
  have h0 : ∀ x ∈ ([] : List L), Pm x := fun x hx => by cases hx
  have lt : c * o.length + p < N * o.length := by
    have : (c + 1) * o.length ≤ N * o.length := Nat.mul_le_mul_right _ hc
    rw [Nat.succ_mul] at this
    omega
  have hpos : 0 < o.length := by omega
  have em : (c * o.length + p) % o.length = p := by rw [Nat.mul_comm, Nat.mul_add_mod, Nat.mod_eq_of_lt hp]
  have ed : (c * o.length + p) / o.length = c := by rw [Nat.mul_comm, Nat.mul_add_div hpos, Nat.div_eq_of_lt hp, Nat.add_zero]
  have l0 : (lay true ([] : List L)).length = 0 := rfl
  have b := cB_rep (dn := true) ho h0 N (c * o.length + p)
  have a := cA_rep (dn := true) ho h0 N (c * o.length + p) (by omega)
  rw [List.append_nil, if_pos lt, if_pos rfl, em, ed] at a b
  rw [l0] at b
  refine ⟨?_, ?_, ?_⟩
  · rw [b]
    have e1 : ((N * o.length + 0 : Nat) : Int) = (N : Int) * o.length := by rw [Nat.add_zero, Int.natCast_mul]
    rw [e1, Int.sub_mul, Int.sub_mul, Int.add_mul]
    omega
  · rw [a, Int.natCast_mul]
    omega
  · obtain ⟨M, rfl⟩ : ∃ M, N = M + 1 := ⟨N - 1, by omega⟩
    have m := mG_rep (dn := true) ho hn h0 M
    rw [List.append_nil, if_pos rfl, l0] at m
    rw [m]
    have z : mG (lay true ([] : List L)) = 0 := rfl
    have nn : 0 ≤ mG o := mx_nn _
    have e1 : (((M + 1) * o.length + 0 : Nat) : Int) - o.length = (M : Int) * o.length := by
      rw [Nat.add_zero, Nat.succ_mul, Int.natCast_add, Int.natCast_mul]
      omega
    have e2 : ((M + 1 : Nat) : Int) - 1 = M := by omega
    have nm : 0 ≤ (M : Int) * o.length := Int.mul_nonneg (Int.natCast_nonneg _) (Int.natCast_nonneg _)
    rw [z, e1, e2]
    omega
theorem max_or {o : L} (h : o ≠ []) : biop .max [orD (invs o)] = some (.v (.int (mG o))) := by
  have hne := invs_ne h
  have e : biop .max [orD (invs o)] = biop .max [.lst ((invs o).map .int)] := rfl
  rw [e]
  have nn := invs_nn o
  unfold mG
  cases q : invs o with
  | nil => exact absurd q hne
  | cons y r =>
    rw [q] at nn
    rw [bi_max (is := y :: r)]
    show some (R.v (.int (r.foldl max y))) = _
    rw [mx_foldl r y (nn y List.mem_cons_self), mx]
theorem sum_or (l : L) : biop .sum [orD l] = some (.v (.int l.sum)) := by
  have e : biop .sum [orD l] = biop .sum [.lst (l.map .int)] := rfl
  rw [e, bi_sum]
abbrev pb (i : Nat) : S := f__law_plan_right.body.getD i .retN
abbrev pB1 : List S := [.asg (.nm 5) (.bi .len [(.lc .of [(.slc .hi (.var 2) [(.var 4)])] (.nm 6) [(.cmp .gt (.var 6) (.sub (.var 2) (.var 4)))] (.var 6))]),
    .ife (.or (.cmp .ne (.call 22 [(.var 1), (.var 4)]) (.sub (.var 3) (.var 4))) (.cmp .ne (.call 23 [(.var 1), (.var 4)]) (.var 5))) [.ret (.con (.bl false))] []]
section
variable (k : Nat) {x s2 s3 s4 s5 s6 s7 s8 s9 s10 s11 : Sl} {b : Int} {p : P}
theorem pr_turn (h : Pl b p) (hl : p.ord.length ≤ 27) {i : Nat} (hi : i < p.ord.length) (f5 : Fr s5) : ∃ t5, Fr t5 ∧ execs (th X (k + 17)) pB1 [x, .v (pD p), .v (lsD p.ord), .v (orD (invs p.ord)), .v (.int (i : Nat)), s5, .no, s7, s8, s9, s10, s11] = .nx [x, .v (pD p), .v (lsD p.ord), .v (orD (invs p.ord)), .v (.int (i : Nat)), t5, .no, s7, s8, s9, s10, s11] := by
  refine ⟨.v (.int (cA p.ord i)), fr_v _, ?_⟩
  have a1 := e_code_at h k hi
  have a2 := e_great_ahead h k hi
  have sr : subD (lsD p.ord) (.int (i : Int)) = some (.int p.ord[i]) := subD_l (xs := p.ord.map .int) (k := i) (d := .int p.ord[i]) (by rw [List.getElem?_map, List.getElem?_eq_getElem hi]; rfl)
  have hi' : i < (invs p.ord).length := by rw [invs_len]; exact hi
  have sd : subD (orD (invs p.ord)) (.int (i : Int)) = some (.int (cB p.ord i)) := by
    have := subD_t (xs := (invs p.ord).map .int) (k := i) (d := .int (invs p.ord)[i]) (by rw [List.getElem?_map, List.getElem?_eq_getElem hi']; rfl)
    unfold cB
    rw [List.getD_eq_getElem?_getD, List.getElem?_eq_getElem hi']
    exact this
  have hh : slcD .hi (lsD p.ord) [(i : Int)] = some (.fl ((p.ord.take i).map .int)) := by
    have := slc_hil (xs := p.ord.map .int) (i := i) (by simp; omega)
    rw [← List.map_take] at this
    exact this
  have lf := lcE_fl (T := th X (k + 17)) (c := .cmp .gt (.var 6) (.sub (.var 2) (.var 4))) (e := .var 6) (ρ := [x, .v (pD p), .v (lsD p.ord), .v (orD (invs p.ord)), .v (.int (i : Nat)), s5, .no, s7, s8, s9, s10, s11]) (i := 6) (l := p.ord.take i) (g := .int) (f := .int) (p := fun y => decide (p.ord[i] < y)) rfl (by rw [LINE_e, List.length_take]; omega) (fun z hz => by
    generalize lsD p.ord = RO at *
    generalize orD (invs p.ord) = DU at *
    generalize pD p = A at *
    generalize p.ord[i] = v at *
    generalize (i : Int) = j at *
    simp [sr]) (fun z hz _ => by simp)
  have ll : biop .len [.lst (((p.ord.take i).filter fun y => decide (p.ord[i] < y)).map .int)] = some (.v (.int (cA p.ord i))) := by
    rw [cA_get hi]
    simp
  generalize (((p.ord.take i).filter fun y => decide (p.ord[i] < y)).map D.int) = Q at lf ll
  generalize (p.ord.take i).map D.int = Q2 at lf hh
  generalize cA p.ord i = va at *
  generalize cB p.ord i = vb at *
  generalize lsD p.ord = RO at *
  generalize orD (invs p.ord) = DU at *
  generalize pD p = A at *
  generalize p.ord[i] = v at *
  generalize (i : Int) = j at *
  simp -implicitDefEqProofs [a1, a2, sr, sd, hh, lf, ll, f5.set]
theorem pr_loop (h : Pl b p) (hl : p.ord.length ≤ 27) : ∀ (is : List Nat) {s4 s5 : Sl}, (∀ i ∈ is, i < p.ord.length) → Fr s4 → Fr s5 → ∃ t4 t5, Fr t4 ∧ Fr t5 ∧ forL (asgD (.nm 4)) (execs (th X (k + 17)) pB1) (is.map fun z => .int (z : Nat)) [x, .v (pD p), .v (lsD p.ord), .v (orD (invs p.ord)), s4, s5, .no, s7, s8, s9, s10, s11] = .nx [x, .v (pD p), .v (lsD p.ord), .v (orD (invs p.ord)), t4, t5, .no, s7, s8, s9, s10, s11]
  | [], s4, s5, _, f4, f5 => ⟨s4, s5, f4, f5, rfl⟩
  | i :: is, s4, s5, hm, f4, f5 => by
    obtain ⟨t5, g5, a⟩ := pr_turn k (x := x) (s7 := s7) (s8 := s8) (s9 := s9) (s10 := s10) (s11 := s11) h hl (hm i List.mem_cons_self) f5
    obtain ⟨u4, u5, q4, q5, r⟩ := pr_loop h hl is (s4 := .v (.int (i : Nat))) (s5 := t5) (fun j hj => hm j (List.mem_cons_of_mem _ hj)) (fr_v _) g5
    exact ⟨u4, u5, q4, q5, by rw [List.map_cons, forL_step (ρ1 := [x, .v (pD p), .v (lsD p.ord), .v (orD (invs p.ord)), .v (.int (i : Nat)), s5, .no, s7, s8, s9, s10, s11]) (by simp [f4.set]) a]; exact r⟩
theorem len_ls (l : L) : biop .len [lsD l] = some (.v (.int (l.length : Nat))) := by
  have : (l.map D.int).length = l.length := by simp
  unfold lsD
  simp
theorem pr_0 (hl : p.ord.length ≤ 27) : exec (th X (k + 17)) (pb 0) [x, .v (pD p), .v (lsD p.ord), .no, s4, s5, s6, s7, s8, s9, s10, s11] = .nx [x, .v (pD p), .v (lsD p.ord), .v (orD (invs p.ord)), s4, s5, s6, s7, s8, s9, s10, s11] := by
  have a := e_lcode_l (k + 16) (l := p.ord) (by omega)
  have a : call X (k + 16 + 1) 37 [lsD p.ord] = some (.v (orD (invs p.ord)), .non) := a
  generalize lsD p.ord = RO at *
  generalize orD (invs p.ord) = DU at *
  generalize pD p = A at *
  simp -implicitDefEqProofs [pb, f__law_plan_right, a]
theorem pr_1 (h : Pl b p) (hl : p.ord.length ≤ 27) : ∃ t4 t5, Fr t4 ∧ Fr t5 ∧ exec (th X (k + 17)) (pb 1) [x, .v (pD p), .v (lsD p.ord), .v (orD (invs p.ord)), .no, .no, .no, s7, s8, s9, s10, s11] = .nx [x, .v (pD p), .v (lsD p.ord), .v (orD (invs p.ord)), t4, t5, .no, s7, s8, s9, s10, s11] := by
  obtain ⟨t4, t5, g4, g5, r⟩ := pr_loop k (x := x) (s7 := s7) (s8 := s8) (s9 := s9) (s10 := s10) (s11 := s11) h hl (List.range p.ord.length) (fun i hi => List.mem_range.mp hi) fr_no fr_no
  refine ⟨t4, t5, g4, g5, ?_⟩
  have ir := rng_of (n := p.ord.length) (by omega)
  have ln := len_ls p.ord
  have hb : pb 1 = .forS .rng [.bi .len [(.var 2)]] (.nm 4) pB1 := rfl
  rw [hb]
  generalize (List.range p.ord.length).map (fun (t : Nat) => D.int (t : Int)) = RR at ir r
  generalize pB1 = B at r
  generalize lsD p.ord = RO at *
  generalize orD (invs p.ord) = DU at *
  generalize pD p = A at *
  generalize (p.ord.length : Int) = n at *
  simp -implicitDefEqProofs [ir, r, ln]
theorem pr_2 (h : Pl b p) : exec (th X (k + 17)) (pb 2) [x, .v (pD p), .v (lsD p.ord), .v (orD (invs p.ord)), s4, s5, s6, s7, s8, s9, s10, s11] = .nx [x, .v (pD p), .v (lsD p.ord), .v (orD (invs p.ord)), s4, s5, s6, s7, s8, s9, s10, s11] := by
  have a1 := e_greatest_code h k
  have a2 := e_turned_pairs h k
  have ne := (allG p (ok_wf h.wf)).ne
  have m := max_or ne
  have s := sum_or (invs p.ord)
  rw [(allG p (ok_wf h.wf)).t] at a2
  rw [invs_sum] at s
  generalize lsD p.ord = RO at *
  generalize orD (invs p.ord) = DU at *
  generalize inv p.ord = vi at *
  generalize mG p.ord = vm at *
  generalize pD p = A at *
  simp -implicitDefEqProofs [pb, f__law_plan_right, a1, a2, m, s]
end
end VL.K30
end
section
/-! H30k: _law_plan_right, great copies. -/
namespace VL.K30
open PySem M06
mutual
theorem wf_mono {a b : Int} (h : a ≤ b) : ∀ {p : P}, wf a p → wf b p
  | .one, w => by rw [wf] at w ⊢; omega
  | .nd cp dn rs, w => by
    rw [wf] at w ⊢
    exact ⟨w.1, w.2.1, wfR_mono h w.2.2.1, Int.le_trans w.2.2.2 h⟩
theorem wfR_mono {a b : Int} (h : a ≤ b) : ∀ {r : Rn}, wfR a r → wfR b r
  | .nil, _ => by rw [wfR]; trivial
  | .cons n p r, w => by
    rw [wfR] at w ⊢
    exact ⟨w.1, wf_mono h w.2.1, wfR_mono h w.2.2⟩
end
def NN : Nat := 10 ^ 30
abbrev NI : Int := 1000000000000000000000000000000
theorem NN_i : ((NN : Nat) : Int) = NI := by unfold NN; decide +kernel
theorem NN_pos : 1 ≤ NN := Nat.pow_pos (by decide)
theorem NN_9 {v : Nat} (h : v < 1000000000) : v < NN := by
  have e := NN_i
  have g : (1000000000 : Int) < NI := by decide +kernel
  have e2 : (v : Int) < (NN : Nat) := by rw [e]; exact Int.lt_trans (by omega) g
  exact Int.ofNat_lt.mp e2
theorem NN_p : ((NN - 1 : Nat) : Int) = NI - 1 := by rw [Int.natCast_sub NN_pos, NN_i]; rfl
theorem pow30 : binop .pow (.int 10) (.int 30) = some (.v (.int NI)) := by rw [bop_pow (by decide)]; rfl
theorem pow9 : binop .pow (.int 10) (.int 9) = some (.v (.int 1000000000)) := by rw [bop_pow (by decide)]; rfl
abbrev gP (p : P) : P := .nd true true (.cons NN p .nil)
theorem gP_ord (p : P) : (gP p).ord = lay true (List.replicate NN p.ord) := by rw [nd_ord, ofRn, ofRn, fl_one]
theorem gP_len (p : P) : (gP p).ord.length = NN * p.ord.length := by rw [gP_ord, lay_len, List.map_replicate, List.sum_replicate_nat]
theorem Lp.pl {p : P} (q : Lp 3 p) : Pl 60 p := by
  have h1 := q.fm
  have h2 := q.ht
  exact ⟨q.wf, by decide, by decide +kernel, by omega, by omega⟩
theorem Lp.len27 {p : P} (q : Lp 3 p) : p.ord.length ≤ 27 := lp_bound (Nat.le_refl 3) q
theorem Lp.gpl {p : P} (q : Lp 3 p) : Pl (27 * NI) (gP p) := by
  have h1 := q.fm
  have h2 := q.ht
  have h3 := q.len27
  have hR : wfR (27 * NI) (.cons NN p .nil) := by rw [wfR, wfR]; exact ⟨NN_pos, wf_mono (by decide +kernel) q.wf, trivial⟩
  have o : (gP p).ok := by rw [P.ok]; exact ⟨by simp, okR_wf hR⟩
  have s := ok_size o
  rw [P.size, gP_len] at s
  have m1 : NN * p.ord.length ≤ NN * 27 := Nat.mul_le_mul_left _ h3
  have e := NN_i
  refine ⟨?_, by decide +kernel, by decide +kernel, ?_, ?_⟩
  · rw [VL.K30.wf, if_pos rfl]
    refine ⟨by simp, ⟨NN, p, rfl⟩, hR, ?_⟩
    rw [s]
    omega
  · rw [VL.K30.fm, fmR, fmR]
    omega
  · rw [VL.K30.ht, htR, htR]
    omega
theorem gP_D (p : P) : pD (gP p) = .tup [.str (wds true), .int NI, pD p] := by rw [pD, if_pos rfl, hdN, hdD, NN_i]
section
variable (k : Nat) {x s2 s3 s4 s5 s6 s7 s8 s9 s10 s11 : Sl} {p : P}
theorem pr_3 {xs : List D} (h : Hd xs) (q : Lp 3 p) (f4 : Fr s4) {DU : D} : ∃ (pl : Nat) (ys : List D), pl < p.ord.length ∧ Hd ys ∧ exec (th X (k + 17)) (pb 3) [.ln xs, .v (pD p), .v (lsD p.ord), .v DU, s4, s5, s6, .no, s8, s9, s10, s11] = .nx [.ln ys, .v (pD p), .v (lsD p.ord), .v DU, .v (.int (pl : Nat)), s5, s6, .v (.int NI), s8, s9, s10, s11] := by
  have hl := q.len27
  have h1 := ord_pos q.wf
  obtain ⟨v, x1, a1, b1, c1, d1⟩ := e_draw (k + 16) h (m := (p.ord.length : Int)) (by omega) (line_wide (by rw [LINE_e]; omega))
  obtain ⟨v, rfl⟩ := Int.eq_ofNat_of_zero_le c1
  refine ⟨v, x1, by omega, b1, ?_⟩
  have ln := len_ls p.ord
  have pw := pow30
  generalize NI = N at *
  generalize lsD p.ord = RO at *
  generalize pD p = A at *
  generalize (p.ord.length : Int) = n at *
  generalize (v : Int) = w at *
  simp -implicitDefEqProofs [pb, f__law_plan_right, a1, calJ_s, ln, pw, f4.set]
theorem pr_4 {xs : List D} (h : Hd xs) {s3 : Sl} : ∃ (c : Nat) (ys : List D), c < NN ∧ Hd ys ∧ exec (th X (k + 17)) (pb 4) [.ln xs, .v (pD p), s2, s3, s4, s5, s6, .v (.int NI), .no, .no, s10, s11] = .nx [.ln ys, .v (pD p), s2, s3, s4, s5, s6, .v (.int NI), .v (pD (gP p)), .v (.int (c : Nat)), s10, s11] := by
  obtain ⟨v, x1, a1, b1, c1, d1⟩ := e_draw (k + 16) h (m := 1000000000) (by decide) (by decide +kernel)
  obtain ⟨d, x2, a2, b2, c2⟩ := e_some (k + 15) b1 (things := [.int 0, .int (NI - 1), .int v]) (by simp) (by rw [LINE_e]; simp)
  have e := NN_i
  have hc : ∃ c : Nat, c < NN ∧ d = .int (c : Nat) := by
    simp only [List.mem_cons, List.not_mem_nil, or_false] at c2
    rcases c2 with rfl | rfl | rfl
    · exact ⟨0, NN_pos, rfl⟩
    · exact ⟨NN - 1, Nat.sub_lt NN_pos (by decide), by rw [NN_p]⟩
    · obtain ⟨v, rfl⟩ := Int.eq_ofNat_of_zero_le c1
      exact ⟨v, NN_9 (by omega), rfl⟩
  obtain ⟨c, c3, rfl⟩ := hc
  refine ⟨c, x2, c3, b2, ?_⟩
  have pw := pow9
  rw [gP_D, show wds true = Str.ofString "downs" from rfl]
  clear c2 e
  generalize NI = N at *
  generalize pD p = A at *
  generalize (c : Int) = w at *
  simp -implicitDefEqProofs [pb, f__law_plan_right, a1, a2, calJ_s, pw]
theorem len_mul {o : L} (h : o.length ≤ 27) (i : Int) : binop .mul (.int i) (.int (o.length : Nat)) = some (.v (.int (i * (o.length : Nat)))) := bop_mul (mulOk_r (by omega))
theorem pr_5 (q : Lp 3 p) {c : Nat} {s1 : Sl} : exec (th X (k + 17)) (pb 5) [x, s1, .v (lsD p.ord), s3, s4, s5, s6, .v (.int NI), s8, .v (.int (c : Nat)), .no, s11] = .nx [x, s1, .v (lsD p.ord), s3, s4, s5, s6, .v (.int NI), s8, .v (.int (c : Nat)), .v (.int ((NI - 1 - c) * (p.ord.length : Nat))), s11] := by
  have mm := len_mul q.len27
  have ln := len_ls p.ord
  generalize NI = N at *
  generalize lsD p.ord = RO at *
  generalize (p.ord.length : Int) = n at *
  generalize (c : Int) = w at *
  simp -implicitDefEqProofs [pb, f__law_plan_right, ln, mm]
theorem due_at {o : L} {i : Nat} (hi : i < o.length) : subD (orD (invs o)) (.int (i : Int)) = some (.int (cB o i)) := by
  have hi' : i < (invs o).length := by rw [invs_len]; exact hi
  have := subD_t (xs := (invs o).map .int) (k := i) (d := .int (invs o)[i]) (by rw [List.getElem?_map, List.getElem?_eq_getElem hi']; rfl)
  unfold cB
  rw [List.getD_eq_getElem?_getD, List.getElem?_eq_getElem hi']
  exact this
theorem gP_at {c i l N : Nat} (h1 : c < N) (h2 : i < l) : c * l + i < N * l := by
  have : (c + 1) * l ≤ N * l := Nat.mul_le_mul_right _ h1
  rw [Nat.succ_mul] at this
  omega
theorem pr_6 (q : Lp 3 p) {c i : Nat} (hc : c < NN) (hi : i < p.ord.length) {s1 : Sl} : exec (th X (k + 17)) (pb 6) [x, s1, .v (lsD p.ord), .v (orD (invs p.ord)), .v (.int (i : Nat)), s5, s6, s7, .v (pD (gP p)), .v (.int (c : Nat)), .v (.int ((NI - 1 - c) * (p.ord.length : Nat))), s11] = .nx [x, s1, .v (lsD p.ord), .v (orD (invs p.ord)), .v (.int (i : Nat)), s5, s6, s7, .v (pD (gP p)), .v (.int (c : Nat)), .v (.int ((NI - 1 - c) * (p.ord.length : Nat))), s11] := by
  have mm := len_mul q.len27
  have ln := len_ls p.ord
  have sd := due_at hi
  have a := e_code_at q.gpl k (i := c * p.ord.length + i) (by rw [gP_len]; exact gP_at hc hi)
  have g := (gr_facts (ord_pm p) (allG p (ok_wf q.wf)).ne hc hi).1
  rw [← gP_ord, NN_i] at g
  rw [g, Int.natCast_add, Int.natCast_mul] at a
  clear g
  generalize NI = N at *
  generalize cB p.ord i = vb at *
  generalize orD (invs p.ord) = DU at *
  generalize lsD p.ord = RO at *
  generalize pD (gP p) = G at *
  generalize (p.ord.length : Int) = n at *
  generalize (c : Int) = w at *
  generalize (i : Int) = j at *
  simp -implicitDefEqProofs [pb, f__law_plan_right, ln, mm, sd, a]
theorem pr_7 (q : Lp 3 p) {c i : Nat} (hc : c < NN) (hi : i < p.ord.length) : exec (th X (k + 17)) (pb 7) [x, .v (pD p), .v (lsD p.ord), s3, .v (.int (i : Nat)), s5, s6, s7, .v (pD (gP p)), .v (.int (c : Nat)), s10, s11] = .nx [x, .v (pD p), .v (lsD p.ord), s3, .v (.int (i : Nat)), s5, s6, s7, .v (pD (gP p)), .v (.int (c : Nat)), s10, s11] := by
  have mm := len_mul q.len27
  have ln := len_ls p.ord
  have a := e_great_ahead q.gpl k (i := c * p.ord.length + i) (by rw [gP_len]; exact gP_at hc hi)
  have a2 := e_great_ahead q.pl k hi
  have g := (gr_facts (ord_pm p) (allG p (ok_wf q.wf)).ne hc hi).2.1
  rw [← gP_ord] at g
  rw [g, Int.natCast_add, Int.natCast_mul] at a
  clear g
  generalize cA p.ord i = vb at *
  generalize lsD p.ord = RO at *
  generalize pD (gP p) = G at *
  generalize pD p = A at *
  generalize (p.ord.length : Int) = n at *
  generalize (c : Int) = w at *
  generalize (i : Int) = j at *
  simp -implicitDefEqProofs [pb, f__law_plan_right, ln, mm, a, a2]
theorem pr_8 (q : Lp 3 p) {s1 : Sl} : exec (th X (k + 17)) (pb 8) [x, s1, .v (lsD p.ord), .v (orD (invs p.ord)), s4, s5, s6, .v (.int NI), .v (pD (gP p)), s9, s10, s11] = .nx [x, s1, .v (lsD p.ord), .v (orD (invs p.ord)), s4, s5, s6, .v (.int NI), .v (pD (gP p)), s9, s10, s11] := by
  have mm := len_mul q.len27
  have ln := len_ls p.ord
  have a := e_greatest_code q.gpl k
  have ne := (allG p (ok_wf q.wf)).ne
  have m := max_or ne
  have g := (gr_facts (ord_pm p) ne NN_pos (ord_pos q.wf)).2.2
  rw [← gP_ord, NN_i] at g
  rw [g] at a
  clear g
  generalize NI = N at *
  generalize mG p.ord = vb at *
  generalize orD (invs p.ord) = DU at *
  generalize lsD p.ord = RO at *
  generalize pD (gP p) = G at *
  generalize (p.ord.length : Int) = n at *
  simp -implicitDefEqProofs [pb, f__law_plan_right, ln, mm, m, a]
abbrev plL (n : Int) : List D := [.int n, .int (-1), .non, .bl true, .str (Str.ofString "0")]
theorem plL_out {n : Int} {d : D} (h : d ∈ plL n) : Out_ 0 (n - 1) d := by
  simp only [List.mem_cons, List.not_mem_nil, or_false] at h
  rcases h with rfl | rfl | rfl | rfl | rfl
  · exact .inr ⟨_, rfl, by omega⟩
  · exact .inr ⟨_, rfl, by omega⟩
  · exact .inl ni_non
  · exact .inl (ni_bl _)
  · exact .inl (ni_str _)
theorem pr_9 {xs : List D} (h : Hd xs) (q : Lp 3 p) {s3 : Sl} : ∃ (ys : List D), Hd ys ∧ exec (th X (k + 17)) (pb 9) [.ln xs, .v (pD p), .v (lsD p.ord), s3, s4, s5, s6, s7, s8, s9, s10, .no] = .nx [.ln ys, .v (pD p), .v (lsD p.ord), s3, s4, s5, s6, s7, s8, s9, s10, .ol [.str sPlace]] := by
  obtain ⟨d, x1, a1, b1, c1⟩ := e_some (k + 15) h (things := plL (p.ord.length : Int)) (by simp) (by rw [LINE_e]; simp)
  refine ⟨x1, b1, ?_⟩
  have a2 := e_code_at_bad q.pl k (plL_out c1)
  have ln := len_ls p.ord
  unfold plL at a1
  generalize lsD p.ord = RO at *
  generalize pD p = A at *
  generalize (p.ord.length : Int) = n at *
  have wv := word_ex (T := th X (k + 17)) (f := 43) (e := .call 22 [(.var 1), (.calli 33 0 [(.lst [(.bi .len [(.var 2)]), (.neg (.con (.int (1)))), (.con .non), (.con (.bl true)), (.con (.str (Str.ofString "0")))])])]) (ρ := [.ln xs, .v A, .v RO, s3, s4, s5, s6, s7, s8, s9, s10, .no]) (ρ1 := [.ln x1, .v A, .v RO, s3, s4, s5, s6, s7, s8, s9, s10, .no]) (x := xL) (d := .str sPlace) (by
    simp -implicitDefEqProofs [a1, a2, calJ_s, ln]) (e_word_place (k + 16))
  simp -implicitDefEqProofs [pb, f__law_plan_right, wv]
theorem pr_10 {xs : List D} (h : Hd xs) (q : Lp 3 p) {s3 : Sl} : ∃ (ys : List D), Hd ys ∧ exec (th X (k + 17)) (pb 10) [.ln xs, .v (pD p), .v (lsD p.ord), s3, s4, s5, s6, s7, s8, s9, s10, .ol [.str sPlace]] = .nx [.ln ys, .v (pD p), .v (lsD p.ord), s3, s4, s5, s6, s7, s8, s9, s10, .ol [.str sPlace, .str sPlace]] := by
  obtain ⟨d, x1, a1, b1, c1⟩ := e_some (k + 15) h (things := plL (p.ord.length : Int)) (by simp) (by rw [LINE_e]; simp)
  refine ⟨x1, b1, ?_⟩
  have a2 := e_great_ahead_bad q.pl k (plL_out c1)
  have ln := len_ls p.ord
  unfold plL at a1
  generalize lsD p.ord = RO at *
  generalize pD p = A at *
  generalize (p.ord.length : Int) = n at *
  have wv := word_ex (T := th X (k + 17)) (f := 43) (e := .call 23 [(.var 1), (.calli 33 0 [(.lst [(.bi .len [(.var 2)]), (.neg (.con (.int (1)))), (.con .non), (.con (.bl true)), (.con (.str (Str.ofString "0")))])])]) (ρ := [.ln xs, .v A, .v RO, s3, s4, s5, s6, s7, s8, s9, s10, .ol [.str sPlace]]) (ρ1 := [.ln x1, .v A, .v RO, s3, s4, s5, s6, s7, s8, s9, s10, .ol [.str sPlace]]) (x := xL) (d := .str sPlace) (by
    simp -implicitDefEqProofs [a1, a2, calJ_s, ln]) (e_word_place (k + 16))
  simp -implicitDefEqProofs [pb, f__law_plan_right, wv]
theorem eq_l {ds : List D} (hd : dats ds = true) (hf : flat 190 (.lst ds) = true) : cmpop .eq (.lst ds) (.lst ds) = some true := by
  have d : dat (.lst ds) = true := by rw [dat, hd]
  have e : eqOk (.lst ds) (.lst ds) = true := by
    unfold eqOk
    rw [d, hf]
    rfl
  rw [cm_eq' e, eqD_refl _ d]
theorem pr_11 {s1 s2 s3 : Sl} : exec (th X (k + 17)) (pb 11) [x, s1, s2, s3, s4, s5, s6, s7, s8, s9, s10, .ol [.str sPlace, .str sPlace]] = .rt (.v (.bl true)) [x, s1, s2, s3, s4, s5, s6, s7, s8, s9, s10, .ol [.str sPlace, .str sPlace]] := by
  have e := eq_l (ds := [.str sPlace, .str sPlace]) rfl rfl
  simp -implicitDefEqProofs [pb, f__law_plan_right, e]
end
theorem e_lplan_right (k : Nat) {xs : List D} (h : Hd xs) {p : P} (q : Lp 3 p) : ∃ ys, call X (k + 18) 42 [.lst xs, pD p, lsD p.ord] = some (.v (.bl true), .lst ys) ∧ Hd ys := by
  have e0 := pr_0 k (x := .ln xs) (p := p) (s4 := .no) (s5 := .no) (s6 := .no) (s7 := .no) (s8 := .no) (s9 := .no) (s10 := .no) (s11 := .no) q.len27
  obtain ⟨t4, t5, f4, f5, e1⟩ := pr_1 k (x := .ln xs) (s7 := .no) (s8 := .no) (s9 := .no) (s10 := .no) (s11 := .no) q.pl q.len27
  have e2 := pr_2 k (x := .ln xs) (s4 := t4) (s5 := t5) (s6 := .no) (s7 := .no) (s8 := .no) (s9 := .no) (s10 := .no) (s11 := .no) q.pl
  obtain ⟨i, x1, hi, b1, e3⟩ := pr_3 k (s4 := t4) (s5 := t5) (s6 := .no) (s8 := .no) (s9 := .no) (s10 := .no) (s11 := .no) h q f4 (DU := orD (invs p.ord))
  obtain ⟨c, x2, hc, b2, e4⟩ := pr_4 k (p := p) (s2 := .v (lsD p.ord)) (s3 := .v (orD (invs p.ord))) (s4 := .v (.int (i : Nat))) (s5 := t5) (s6 := .no) (s10 := .no) (s11 := .no) b1
  have e5 := pr_5 k (x := .ln x2) (s1 := .v (pD p)) (s3 := .v (orD (invs p.ord))) (s4 := .v (.int (i : Nat))) (s5 := t5) (s6 := .no) (s8 := .v (pD (gP p))) (s11 := .no) q (c := c)
  have e6 := pr_6 k (x := .ln x2) (s1 := .v (pD p)) (s5 := t5) (s6 := .no) (s7 := .v (.int NI)) (s11 := .no) q hc hi
  have e7 := pr_7 k (x := .ln x2) (s3 := .v (orD (invs p.ord))) (s5 := t5) (s6 := .no) (s7 := .v (.int NI)) (s10 := .v (.int ((NI - 1 - c) * (p.ord.length : Nat)))) (s11 := .no) q hc hi
  have e8 := pr_8 k (x := .ln x2) (s1 := .v (pD p)) (s4 := .v (.int (i : Nat))) (s5 := t5) (s6 := .no) (s9 := .v (.int (c : Nat))) (s10 := .v (.int ((NI - 1 - c) * (p.ord.length : Nat)))) (s11 := .no) q
  obtain ⟨x3, b3, e9⟩ := pr_9 k (s3 := .v (orD (invs p.ord))) (s4 := .v (.int (i : Nat))) (s5 := t5) (s6 := .no) (s7 := .v (.int NI)) (s8 := .v (pD (gP p))) (s9 := .v (.int (c : Nat))) (s10 := .v (.int ((NI - 1 - c) * (p.ord.length : Nat)))) b2 q
  obtain ⟨x4, b4, e10⟩ := pr_10 k (s3 := .v (orD (invs p.ord))) (s4 := .v (.int (i : Nat))) (s5 := t5) (s6 := .no) (s7 := .v (.int NI)) (s8 := .v (pD (gP p))) (s9 := .v (.int (c : Nat))) (s10 := .v (.int ((NI - 1 - c) * (p.ord.length : Nat)))) b3 q
  have e11 := pr_11 k (x := .ln x4) (s1 := .v (pD p)) (s2 := .v (lsD p.ord)) (s3 := .v (orD (invs p.ord))) (s4 := .v (.int (i : Nat))) (s5 := t5) (s6 := .no) (s7 := .v (.int NI)) (s8 := .v (pD (gP p))) (s9 := .v (.int (c : Nat))) (s10 := .v (.int ((NI - 1 - c) * (p.ord.length : Nat))))
  refine ⟨x4, ?_, b4⟩
  have hb : f__law_plan_right.body = [pb 0, pb 1, pb 2, pb 3, pb 4, pb 5, pb 6, pb 7, pb 8, pb 9, pb 10, pb 11] := rfl
  rw [go_i at__law_plan_right rfl rfl, hb]
  show endI (execs (th X (k + 17)) _ [.ln xs, .v (pD p), .v (lsD p.ord), .no, .no, .no, .no, .no, .no, .no, .no, .no]) = _
  rw [execs_step e0, execs_step e1, execs_step e2, execs_step e3, execs_step e4, execs_step e5, execs_step e6, execs_step e7, execs_step e8, execs_step e9, execs_step e10, execs_cons, e11]
  rfl
end VL.K30
end
section
/-! H30l: _law_refused_right. -/
namespace VL.K30
open PySem M06
theorem v_fnv {T : Th} {ρ : Env} {f : Nat} : (den T (.fnv f)).v ρ = .ok (.v (.fn f)) ρ := by rw [den]; rfl
theorem v_callv {T : Th} {ρ : Env} {i f : Nat} {es : List E} (h : ρ[i]? = some (.v (.fn f))) : (den T (.callv i es)).v ρ = (evs T es ρ).bind fun rs ρ1 => callR T f rs ρ1 := by
  rw [den]
  show (match ρ[i]? with | some (.v (.fn f)) => (evs T es ρ).bind fun rs ρ1 => callR T f rs ρ1 | _ => .no) = _
  rw [h]
/-- no plan -/
def NP (d : D) : Prop := ∀ k, call X (k + 4) 7 [d] = some (.v (.bl false), .non)
theorem NP.ck {d : D} (h : NP d) (k : Nat) : call X (k + 16) 9 [d] = some (.ex xP, .non) := by
  have a : call X (k + 15) 8 [d] = some (.v (.bl false), .non) := by
    rw [go_f at_is_plan rfl rfl]
    simp -implicitDefEqProofs [f_is_plan, h (k + 10)]
  rw [go_f at_check_plan rfl rfl]
  simp -implicitDefEqProofs [f_check_plan, a]
theorem NP.gc {d : D} (h : NP d) (k : Nat) : call X (k + 17) 25 [d] = some (.ex xP, .non) := by
  rw [go_f at_greatest_code rfl rfl]
  simp -implicitDefEqProofs [f_greatest_code, h.ck k]
theorem NP.ca {d x : D} (h : NP d) (k : Nat) : call X (k + 17) 22 [d, x] = some (.ex xP, .non) := by
  rw [go_f at_code_at rfl rfl]
  simp -implicitDefEqProofs [f_code_at, h.ck k]
abbrev oneD : D := .tup [.str (Str.ofString "one")]
def badO : List D := [.non, .int 0, .tup [], .lst [.int 0], .tup [.int 1], .tup [.int 0, .int 0], .tup [.int 0, .int 2], .tup [.bl true], .tup [.str (Str.ofString "0")], .dic 0, .str (Str.ofString "01")]
def badP : List D := [.non, .int 0, .tup [], .tup [.str (Str.ofString "two")], .tup [.str (Str.ofString "up"), .tup []], .tup [.str (Str.ofString "ups"), .int 0, oneD], .lst [.str (Str.ofString "one")], .tup [.str (Str.ofString "up"), .tup [.non]], .str (Str.ofString "one")]
def badN : List D := [.int 0, .int 61, .int (-1), .non, .bl true, .str (Str.ofString "3")]
def badV : List D := [.int 6, .int (-1), .non, .bl true, .str (Str.ofString "0")]
theorem badO_bo : ∀ d ∈ badO, BO d := by
  unfold badO
  simp only [List.forall_mem_cons]
  exact ⟨bo_nt rfl, bo_nt rfl, bo_nil, bo_nt rfl, bo_1, bo_00, bo_02, bo_ni (fun _ => false) rfl (by simp) (fun k d hd => by simp at hd; subst hd; exact ni_bl _ k), bo_ni (fun _ => false) rfl (by simp) (fun k d hd => by simp at hd; subst hd; exact ni_str _ k), bo_nt rfl, bo_nt rfl, fun d h => by cases h⟩
theorem badP_np : ∀ d ∈ badP, NP d := by
  unfold badP
  simp only [List.forall_mem_cons]
  refine ⟨?_, ?_, ?_, ?_, ?_, ?_, ?_, ?_, ?_, fun d h => by cases h⟩ <;> (intro k; rfl)
theorem badN_out : ∀ d ∈ badN, Out_ 1 60 d := by
  unfold badN
  simp only [List.forall_mem_cons]
  exact ⟨.inr ⟨_, rfl, by decide⟩, .inr ⟨_, rfl, by decide⟩, .inr ⟨_, rfl, by decide⟩, .inl ni_non, .inl (ni_bl _), .inl (ni_str _), fun d h => by cases h⟩
theorem badV_out : ∀ d ∈ badV, Out_ 0 ((fac 3 : Int) - 1) d := by
  unfold badV
  simp only [List.forall_mem_cons]
  exact ⟨.inr ⟨_, rfl, by decide⟩, .inr ⟨_, rfl, by decide⟩, .inl ni_non, .inl (ni_bl _), .inl (ni_str _), fun d h => by cases h⟩
abbrev rb (i : Nat) : S := f__law_refused_right.body.getD i .retN
section
variable (k : Nat) {x s1 s2 s3 s4 s5 : Sl} {xs : List D}
theorem rr_0 (h : Hd xs) : ∃ (d : D) (ys : List D), BO d ∧ Hd ys ∧ exec (th X (k + 17)) (rb 0) [.ln xs, .no, s2, s3, s4, s5] = .nx [.ln ys, .v d, s2, s3, s4, s5] := by
  obtain ⟨d, x1, a1, b1, c1⟩ := e_some (k + 15) h (things := badO) (by unfold badO; simp) (by rw [LINE_e]; decide)
  refine ⟨d, x1, badO_bo d c1, b1, ?_⟩
  unfold badO at a1
  simp -implicitDefEqProofs [rb, f__law_refused_right, a1, calJ_s]
theorem rr_1 (h : Hd xs) : ∃ (d : D) (ys : List D), NP d ∧ Hd ys ∧ exec (th X (k + 17)) (rb 1) [.ln xs, s1, .no, s3, s4, s5] = .nx [.ln ys, s1, .v d, s3, s4, s5] := by
  obtain ⟨d, x1, a1, b1, c1⟩ := e_some (k + 15) h (things := badP) (by unfold badP; simp) (by rw [LINE_e]; decide)
  refine ⟨d, x1, badP_np d c1, b1, ?_⟩
  unfold badP at a1
  simp -implicitDefEqProofs [rb, f__law_refused_right, a1, calJ_s]
theorem rr_2 (h : Hd xs) : ∃ (d : D) (ys : List D), Out_ 1 60 d ∧ Hd ys ∧ exec (th X (k + 17)) (rb 2) [.ln xs, s1, s2, .no, .no, s5] = .nx [.ln ys, s1, s2, .v d, .ol [], s5] := by
  obtain ⟨d, x1, a1, b1, c1⟩ := e_some (k + 15) h (things := badN) (by unfold badN; simp) (by rw [LINE_e]; decide)
  refine ⟨d, x1, badN_out d c1, b1, ?_⟩
  unfold badN at a1
  simp -implicitDefEqProofs [rb, f__law_refused_right, a1, calJ_s]
abbrev rB3 : List S := [.app 4 (.word 43 (.callv 5 [(.var 1)]))]
theorem rr_3 {d : D} (h : BO d) : exec (th X (k + 17)) (rb 3) [x, .v d, s2, s3, .ol [], .no] = .nx [x, .v d, s2, s3, .ol [.str sOrder, .str sOrder], .v (.fn 27)] := by
  have a1 := e_code_bad (k + 12) h
  have a2 := e_number_bad (k + 12) h
  have w1 := word_ex (T := th X (k + 17)) (f := 43) (e := .callv 5 [.var 1]) (ρ := [x, .v d, s2, s3, .ol [], .v (.fn 16)]) (ρ1 := [x, .v d, s2, s3, .ol [], .v (.fn 16)]) (x := xO) (d := .str sOrder) (by
    rw [v_callv (f := 16) rfl]
    simp -implicitDefEqProofs [a1]) (e_word_order (k + 16))
  have w2 := word_ex (T := th X (k + 17)) (f := 43) (e := .callv 5 [.var 1]) (ρ := [x, .v d, s2, s3, .ol [.str sOrder], .v (.fn 27)]) (ρ1 := [x, .v d, s2, s3, .ol [.str sOrder], .v (.fn 27)]) (x := xO) (d := .str sOrder) (by
    rw [v_callv (f := 27) rfl]
    simp -implicitDefEqProofs [a2]) (e_word_order (k + 16))
  have b1 : execs (th X (k + 17)) rB3 [x, .v d, s2, s3, .ol [], .v (.fn 16)] = .nx [x, .v d, s2, s3, .ol [.str sOrder], .v (.fn 16)] := by
    simp -implicitDefEqProofs [w1]
  have b2 : execs (th X (k + 17)) rB3 [x, .v d, s2, s3, .ol [.str sOrder], .v (.fn 27)] = .nx [x, .v d, s2, s3, .ol [.str sOrder, .str sOrder], .v (.fn 27)] := by
    simp -implicitDefEqProofs [w2]
  have hb : rb 3 = .forS .of [(.tup [(.fnv 16), (.fnv 27)])] (.nm 5) rB3 := rfl
  rw [hb]
  have lp : forL (asgD (.nm 5)) (execs (th X (k + 17)) rB3) [.fn 16, .fn 27] [x, .v d, s2, s3, .ol [], .no] = .nx [x, .v d, s2, s3, .ol [.str sOrder, .str sOrder], .v (.fn 27)] := by
    rw [forL_step (ρ1 := [x, .v d, s2, s3, .ol [], .v (.fn 16)]) (by simp) b1, forL_step (ρ1 := [x, .v d, s2, s3, .ol [.str sOrder], .v (.fn 27)]) (by simp) b2]
    rfl
  generalize rB3 = B at lp
  have it : items .of [.tup [.fn 16, .fn 27]] = some [.fn 16, .fn 27] := rfl
  simp -implicitDefEqProofs [v_fnv, lp, it]
theorem rr_4 {d : D} (h : NP d) {s1 : Sl} : exec (th X (k + 17)) (rb 4) [x, s1, .v d, s3, .ol [.str sOrder, .str sOrder], s5] = .nx [x, s1, .v d, s3, .ol [.str sOrder, .str sOrder, .str sPlan], s5] := by
  have a1 := h.gc k
  have w1 := word_ex (T := th X (k + 17)) (f := 43) (e := .call 25 [.var 2]) (ρ := [x, s1, .v d, s3, .ol [.str sOrder, .str sOrder], s5]) (ρ1 := [x, s1, .v d, s3, .ol [.str sOrder, .str sOrder], s5]) (x := xP) (d := .str sPlan) (by
    simp -implicitDefEqProofs [a1]) (e_word_plan (k + 16))
  simp -implicitDefEqProofs [rb, f__law_refused_right, w1]
theorem rr_5 {d : D} (h : NP d) {s1 : Sl} : exec (th X (k + 17)) (rb 5) [x, s1, .v d, s3, .ol [.str sOrder, .str sOrder, .str sPlan], s5] = .nx [x, s1, .v d, s3, .ol [.str sOrder, .str sOrder, .str sPlan, .str sPlan], s5] := by
  have a1 := h.ca k (x := .int (-1))
  have w1 := word_ex (T := th X (k + 17)) (f := 43) (e := .call 22 [.var 2, .neg (.con (.int 1))]) (ρ := [x, s1, .v d, s3, .ol [.str sOrder, .str sOrder, .str sPlan], s5]) (ρ1 := [x, s1, .v d, s3, .ol [.str sOrder, .str sOrder, .str sPlan], s5]) (x := xP) (d := .str sPlan) (by
    simp -implicitDefEqProofs [a1]) (e_word_plan (k + 16))
  simp -implicitDefEqProofs [rb, f__law_refused_right, w1]
theorem rr_6 {d : D} (h : Out_ 1 60 d) {s1 s2 : Sl} : exec (th X (k + 17)) (rb 6) [x, s1, s2, .v d, .ol [.str sOrder, .str sOrder, .str sPlan, .str sPlan], s5] = .nx [x, s1, s2, .v d, .ol [.str sOrder, .str sOrder, .str sPlan, .str sPlan, .str sNumber], s5] := by
  have a1 := e_numbered_bad1 (k + 13) (x := .int 0) h
  have w1 := word_ex (T := th X (k + 17)) (f := 43) (e := .call 28 [.var 3, .con (.int 0)]) (ρ := [x, s1, s2, .v d, .ol [.str sOrder, .str sOrder, .str sPlan, .str sPlan], s5]) (ρ1 := [x, s1, s2, .v d, .ol [.str sOrder, .str sOrder, .str sPlan, .str sPlan], s5]) (x := xN) (d := .str sNumber) (by
    simp -implicitDefEqProofs [a1]) (e_word_number (k + 16))
  simp -implicitDefEqProofs [rb, f__law_refused_right, w1]
theorem rr_7 (h : Hd xs) {s1 s2 s3 : Sl} : ∃ (ys : List D), Hd ys ∧ exec (th X (k + 17)) (rb 7) [.ln xs, s1, s2, s3, .ol [.str sOrder, .str sOrder, .str sPlan, .str sPlan, .str sNumber], s5] = .nx [.ln ys, s1, s2, s3, .ol [.str sOrder, .str sOrder, .str sPlan, .str sPlan, .str sNumber, .str sNumber], s5] := by
  obtain ⟨d, x1, a1, b1, c1⟩ := e_some (k + 15) h (things := badV) (by unfold badV; simp) (by rw [LINE_e]; decide)
  refine ⟨x1, b1, ?_⟩
  have a2 := e_numbered_bad2 (k + 13) (n := 3) (by decide) (by decide) (badV_out d c1)
  rw [show ((3 : Nat) : Int) = 3 from rfl] at a2
  unfold badV at a1
  have w1 := word_ex (T := th X (k + 17)) (f := 43) (e := .call 28 [(.con (.int (3))), (.calli 33 0 [(.lst [(.con (.int (6))), (.neg (.con (.int (1)))), (.con .non), (.con (.bl true)), (.con (.str (Str.ofString "0")))])])]) (ρ := [.ln xs, s1, s2, s3, .ol [.str sOrder, .str sOrder, .str sPlan, .str sPlan, .str sNumber], s5]) (ρ1 := [.ln x1, s1, s2, s3, .ol [.str sOrder, .str sOrder, .str sPlan, .str sPlan, .str sNumber], s5]) (x := xN) (d := .str sNumber) (by
    simp -implicitDefEqProofs [a1, a2, calJ_s]) (e_word_number (k + 16))
  simp -implicitDefEqProofs [rb, f__law_refused_right, w1]
theorem rr_8 {s1 s2 s3 : Sl} : exec (th X (k + 17)) (rb 8) [x, s1, s2, s3, .ol [.str sOrder, .str sOrder, .str sPlan, .str sPlan, .str sNumber, .str sNumber], s5] = .rt (.v (.bl true)) [x, s1, s2, s3, .ol [.str sOrder, .str sOrder, .str sPlan, .str sPlan, .str sNumber, .str sNumber], s5] := by
  have e := eq_l (ds := [.str sOrder, .str sOrder, .str sPlan, .str sPlan, .str sNumber, .str sNumber]) rfl rfl
  simp -implicitDefEqProofs [rb, f__law_refused_right, e]
end
theorem e_lrefused (k : Nat) {xs : List D} (h : Hd xs) : ∃ ys, call X (k + 18) 44 [.lst xs] = some (.v (.bl true), .lst ys) ∧ Hd ys := by
  obtain ⟨b, x1, c1, b1, e0⟩ := rr_0 k (s2 := .no) (s3 := .no) (s4 := .no) (s5 := .no) h
  obtain ⟨p, x2, c2, b2, e1⟩ := rr_1 k (s1 := .v b) (s3 := .no) (s4 := .no) (s5 := .no) b1
  obtain ⟨d, x3, c3, b3, e2⟩ := rr_2 k (s1 := .v b) (s2 := .v p) (s5 := .no) b2
  have e3 := rr_3 k (x := .ln x3) (s2 := .v p) (s3 := .v d) c1
  have e4 := rr_4 k (x := .ln x3) (s1 := .v b) (s3 := .v d) (s5 := .v (.fn 27)) c2
  have e5 := rr_5 k (x := .ln x3) (s1 := .v b) (s3 := .v d) (s5 := .v (.fn 27)) c2
  have e6 := rr_6 k (x := .ln x3) (s1 := .v b) (s2 := .v p) (s5 := .v (.fn 27)) c3
  obtain ⟨x4, b4, e7⟩ := rr_7 k (s1 := .v b) (s2 := .v p) (s3 := .v d) (s5 := .v (.fn 27)) b3
  have e8 := rr_8 k (x := .ln x4) (s1 := .v b) (s2 := .v p) (s3 := .v d) (s5 := .v (.fn 27))
  refine ⟨x4, ?_, b4⟩
  have hb : f__law_refused_right.body = [rb 0, rb 1, rb 2, rb 3, rb 4, rb 5, rb 6, rb 7, rb 8] := rfl
  rw [go_i at__law_refused_right rfl rfl, hb]
  show endI (execs (th X (k + 17)) _ [.ln xs, .no, .no, .no, .no, .no]) = _
  rw [execs_step e0, execs_step e1, execs_step e2, execs_step e3, execs_step e4, execs_step e5, execs_step e6, execs_step e7, execs_cons, e8]
  rfl
end VL.K30
end
section
/-! H30m: the law. -/
namespace VL.K30
open PySem M06
abbrev lB : List S := [.asg (.tp [(.nm 3), (.nm 4)]) (.calli 35 1 [(.con (.int (3)))]),
    .ife (.or (.not (.calli 41 1 [(.calli 36 1 [(.bin .add (.con (.int (1))) (.calli 32 1 [(.con (.int (9)))]))])])) (.not (.calli 42 1 [(.var 3), (.var 4)]))) [.ret (.con (.bl false))] [],
    .ife (.not (.calli 44 1 [])) [.ret (.con (.bl false))] []]
theorem l_turn (k : Nat) {C s2 s3 s4 : Sl} {xs : List D} (h : Hd xs) (f3 : Fr s3) (f4 : Fr s4) : ∃ (ys : List D) (t3 t4 : Sl), Hd ys ∧ Fr t3 ∧ Fr t4 ∧ execs (th X (k + 18)) lB [C, .ol xs, s2, s3, s4] = .nx [C, .ol ys, s2, t3, t4] := by
  obtain ⟨p, x1, a1, b1, q⟩ := e_lplan 3 (Nat.le_refl 3) (k + 12) h
  obtain ⟨m, x2, a2, b2, c2, d2⟩ := e_draw (k + 17) b1 (m := 9) (by decide) (by decide +kernel)
  obtain ⟨m, rfl⟩ := Int.eq_ofNat_of_zero_le c2
  obtain ⟨o, x3, a3, b3, po, lo⟩ := e_lorder (k + 16) b2 (n := m + 1) (by omega)
  obtain ⟨x4, a4, b4⟩ := e_lorder_right (k + 11) b3 po (by omega) (by omega)
  obtain ⟨x5, a5, b5⟩ := e_lplan_right k b4 q
  obtain ⟨x6, a6, b6⟩ := e_lrefused k b5
  refine ⟨x6, .v (pD p), .v (lsD p.ord), b6, fr_v _, fr_v _, ?_⟩
  have e1 : ((m + 1 : Nat) : Int) = 1 + (m : Nat) := by omega
  rw [e1] at a3
  rw [show ((3 : Nat) : Int) = 3 from rfl] at a1
  unfold lpD at a1
  generalize orD o = O at *
  generalize lsD p.ord = RO at *
  generalize pD p = A at *
  generalize (m : Int) = w at *
  have g0 : exec (th X (k + 18)) (.asg (.tp [(.nm 3), (.nm 4)]) (.calli 35 1 [(.con (.int (3)))])) [C, .ol xs, s2, s3, s4] = .nx [C, .ol x1, s2, .v A, .v RO] := by
    simp -implicitDefEqProofs [a1, calJ_s, f3.set, f4.set]
  have g1 : exec (th X (k + 18)) (.ife (.or (.not (.calli 41 1 [(.calli 36 1 [(.bin .add (.con (.int (1))) (.calli 32 1 [(.con (.int (9)))]))])])) (.not (.calli 42 1 [(.var 3), (.var 4)]))) [.ret (.con (.bl false))] []) [C, .ol x1, s2, .v A, .v RO] = .nx [C, .ol x5, s2, .v A, .v RO] := by
    simp -implicitDefEqProofs [a2, a3, a4, a5, calJ_s]
  have g2 : exec (th X (k + 18)) (.ife (.not (.calli 44 1 [])) [.ret (.con (.bl false))] []) [C, .ol x5, s2, .v A, .v RO] = .nx [C, .ol x6, s2, .v A, .v RO] := by
    simp -implicitDefEqProofs [a6, calJ_s]
  rw [execs_step g0, execs_step g1, execs_step g2]
  rfl
theorem l_loop (k : Nat) {C : Sl} : ∀ (is : List Nat) {xs : List D} {s2 s3 s4 : Sl}, Hd xs → Fr s2 → Fr s3 → Fr s4 → ∃ (ys : List D) (t2 t3 t4 : Sl), forL (asgD (.nm 2)) (execs (th X (k + 18)) lB) (is.map fun z => .int (z : Nat)) [C, .ol xs, s2, s3, s4] = .nx [C, .ol ys, t2, t3, t4]
  | [], xs, s2, s3, s4, _, _, _, _ => ⟨xs, s2, s3, s4, rfl⟩
  | i :: is, xs, s2, s3, s4, h, f2, f3, f4 => by
    obtain ⟨y, t3, t4, hy, g3, g4, e⟩ := l_turn k (C := C) (s2 := .v (.int (i : Nat))) h f3 f4
    obtain ⟨ys, u2, u3, u4, r⟩ := l_loop k (C := C) is (s2 := .v (.int (i : Nat))) hy (fr_v _) g3 g4
    refine ⟨ys, u2, u3, u4, ?_⟩
    rw [List.map_cons, forL_step (ρ1 := [C, .ol xs, .v (.int (i : Nat)), s3, s4]) (by simp [f2.set]) e]
    exact r
theorem pm201 : Pm [2, 0, 1] := by unfold Pm; decide
theorem pm210 : Pm [2, 1, 0] := by unfold Pm; decide
theorem e_law (k : Nat) (ns : List Int) : call X (k + 19) 45 [.scr ns] = some (.v (.bl true), .non) := by
  obtain ⟨xs, a0, b0⟩ := e_hand (k + 17) ns
  have c1 := e_code (k + 13) pm201 (by decide) (by decide)
  have c2 := e_from_ok (k + 14) (c := [0]) (by simp [Cd]) (by decide) (by decide)
  have c3 := e_order_number (k + 13) pm210 (by decide) (by decide)
  have i1 : invs [2, 0, 1] = [2, 0, 0] := by decide
  have i2 : dec (rg ([0] : L).length) [0] = [0] := by decide
  have i3 : num 0 (invs [2, 1, 0]) = 5 := by decide
  rw [i1] at c1
  rw [i2] at c2
  rw [i3] at c3
  have n1 := ne_or [2, 0, 0]
  have n2 := ne_or [0]
  have ir := rng_of (n := 4) (by decide)
  rw [show ((4 : Nat) : Int) = 4 from rfl] at ir
  obtain ⟨ys, t2, t3, t4, lp⟩ := l_loop k (C := .v (.scr ns)) (List.range 4) (s2 := .no) (s3 := .no) (s4 := .no) b0 fr_no fr_no fr_no
  generalize (List.range 4).map (fun k => D.int (k : Nat)) = RR at *
  rw [go_f at_law rfl rfl]
  generalize D.scr ns = C at *
  have w0 : exec (th X (k + 18)) (f_law.body.getD 0 .retN) [.v C, .no, .no, .no, .no] = .nx [.v C, .ol xs, .no, .no, .no] := by
    simp -implicitDefEqProofs [f_law, a0]
  have w1 : exec (th X (k + 18)) (f_law.body.getD 1 .retN) [.v C, .ol xs, .no, .no, .no] = .nx [.v C, .ol xs, .no, .no, .no] := by
    unfold orD at c1 c2 c3 n1 n2
    simp only [List.map_cons, List.map_nil] at c1 c2 c3 n1 n2
    simp -implicitDefEqProofs [f_law, c1, c2, c3, n1, n2]
  have w2 : exec (th X (k + 18)) (f_law.body.getD 2 .retN) [.v C, .ol xs, .no, .no, .no] = .nx [.v C, .ol ys, t2, t3, t4] := by
    have hb : f_law.body.getD 2 .retN = .forS .rng [.con (.int 4)] (.nm 2) lB := rfl
    rw [hb]
    generalize lB = B at lp
    simp -implicitDefEqProofs [ir, lp]
  have w3 : exec (th X (k + 18)) (f_law.body.getD 3 .retN) [.v C, .ol ys, t2, t3, t4] = .rt (.v (.bl true)) [.v C, .ol ys, t2, t3, t4] := by
    simp -implicitDefEqProofs [f_law]
  have hb : f_law.body = [f_law.body.getD 0 .retN, f_law.body.getD 1 .retN, f_law.body.getD 2 .retN, f_law.body.getD 3 .retN] := rfl
  rw [hb]
  show endR (execs (th X (k + 18)) _ [.v C, .no, .no, .no, .no]) = _
  rw [execs_step w0, execs_step w1, execs_step w2, execs_cons, w3]
  rfl
theorem e_end (ns : List Int) : call X (18 + 1) 45 [.scr ns] = some (.v (.bl true), .non) := e_law 0 ns
end VL.K30
end
section
set_option maxHeartbeats 0
namespace Hd
open PySem PySem.Spec PyProof.Rows L2
abbrev lw := PySem.Challenge.rw_upsdowns_k30_whole_codes
abbrev R : PySem.W.OpenRow := PySem.W.OpenLaw.row lw
def names : List PySem.Str := (["LayError", "BadCode", "BadOrder", "BadPlan", "NoNumber", "NoPlace", "is_int", "is_within", "is_ints", "check_within", "check_place", "ONE", "UP", "DOWN", "UPS"] : List PySem.Str) ++ (["DOWNS", "SINGLE", "JOINS", "COPIES", "MOST_PARTS", "MOST_FORMS", "MOST_DEPTH", "GREAT", "MOST_SIZE", "MOST_COPIES", "is_one", "parts_of", "has_form", "is_plan", "check_plan"] : List PySem.Str) ++ (["runs_of", "word_of", "size_of", "MOST_ORDER", "is_order", "check_order", "code_of", "code", "is_code", "order_by_code", "from_code", "behind_less", "ahead_greater", "code_at", "greater_ahead"] : List PySem.Str) ++ (["greatest_in", "greatest_code", "orders_many", "order_number", "numbered_order", "turned_in", "turned_pairs", "_law_hand", "_law_draw", "_law_any", "_law_laid", "_law_plan", "_law_order", "_law_code", "_law_number"] : List PySem.Str) ++ (["_law_is_code", "_law_bent", "_law_order_right", "_law_plan_right", "_law_word", "_law_refused_right"] : List PySem.Str)
def defD : Stmt → Option He.DefD
  | .FunctionDef n a b _ _ _ sc _ _ _ => some ⟨(n, none), n, n, a, b, sc, [], []⟩
  | _ => none
def fn : List He.DefD := R.prog.main.body.filterMap defD
/-! the text as the reader takes it -/
def nm : VL.Nm where
  cons := [((Str.ofString "ONE"), .str (Str.ofString "one")), ((Str.ofString "UP"), .str (Str.ofString "up")), ((Str.ofString "DOWN"), .str (Str.ofString "down")), ((Str.ofString "UPS"), .str (Str.ofString "ups")), ((Str.ofString "DOWNS"), .str (Str.ofString "downs")), ((Str.ofString "SINGLE"), .tup [.str (Str.ofString "one")]), ((Str.ofString "JOINS"), .tup [.str (Str.ofString "up"), .str (Str.ofString "down")]), ((Str.ofString "MOST_PARTS"), .int (12)), ((Str.ofString "MOST_FORMS"), .int (200)), ((Str.ofString "MOST_DEPTH"), .int (70)), ((Str.ofString "GREAT"), .int (1000000000000000000000000000000000000000000000000000000000000)), ((Str.ofString "MOST_SIZE"), .int (1000000000000000000000000000000000000000000000000000000000000000000000000000000000000000000000000000000000000000000000000000000000000000000000000000000000000000000000000000000000000000000000000000000000000000000000000000000000000000000000000000000000000000000000000000000000000000000000000000000000000)), ((Str.ofString "MOST_COPIES"), .int (1000000000000000000000000000000000000000000000000000000000000000000000000000000000000000000000000000000000000000000000000000000000000000000000000000000000000000000000000000000000000000000000000000000000000000000000000000000000000000000000000000000000000000000000000000000000000000000000000000000000000)), ((Str.ofString "MOST_ORDER"), .int (60))]
  fns := [((Str.ofString "is_int"), 0), ((Str.ofString "is_within"), 1), ((Str.ofString "is_ints"), 2), ((Str.ofString "check_within"), 3), ((Str.ofString "check_place"), 4), ((Str.ofString "is_one"), 5), ((Str.ofString "parts_of"), 6), ((Str.ofString "has_form"), 7), ((Str.ofString "is_plan"), 8), ((Str.ofString "check_plan"), 9), ((Str.ofString "runs_of"), 10), ((Str.ofString "word_of"), 11), ((Str.ofString "size_of"), 12), ((Str.ofString "is_order"), 13), ((Str.ofString "check_order"), 14), ((Str.ofString "code_of"), 15), ((Str.ofString "code"), 16), ((Str.ofString "is_code"), 17), ((Str.ofString "order_by_code"), 18), ((Str.ofString "from_code"), 19), ((Str.ofString "behind_less"), 20), ((Str.ofString "ahead_greater"), 21), ((Str.ofString "code_at"), 22), ((Str.ofString "greater_ahead"), 23), ((Str.ofString "greatest_in"), 24), ((Str.ofString "greatest_code"), 25), ((Str.ofString "orders_many"), 26), ((Str.ofString "order_number"), 27), ((Str.ofString "numbered_order"), 28), ((Str.ofString "turned_in"), 29), ((Str.ofString "turned_pairs"), 30), ((Str.ofString "_law_hand"), 31), ((Str.ofString "_law_draw"), 32), ((Str.ofString "_law_any"), 33), ((Str.ofString "_law_laid"), 34), ((Str.ofString "_law_plan"), 35), ((Str.ofString "_law_order"), 36), ((Str.ofString "_law_code"), 37), ((Str.ofString "_law_number"), 38), ((Str.ofString "_law_is_code"), 39), ((Str.ofString "_law_bent"), 40), ((Str.ofString "_law_order_right"), 41), ((Str.ofString "_law_plan_right"), 42), ((Str.ofString "_law_word"), 43), ((Str.ofString "_law_refused_right"), 44), ((Str.ofString "law"), 45)]
  cls := [((Str.ofString "LayError"), 1), ((Str.ofString "BadCode"), 2), ((Str.ofString "BadOrder"), 3), ((Str.ofString "BadPlan"), 4), ((Str.ofString "NoNumber"), 5), ((Str.ofString "NoPlace"), 6)]
  tabs := [((Str.ofString "COPIES"), [((Str.ofString "ups"), .str (Str.ofString "up")), ((Str.ofString "downs"), .str (Str.ofString "down"))])]
  free := [(Str.ofString "len"), (Str.ofString "abs"), (Str.ofString "int"), (Str.ofString "sum"), (Str.ofString "all"), (Str.ofString "any"), (Str.ofString "max"), (Str.ofString "min"), (Str.ofString "tuple"), (Str.ofString "list"), (Str.ofString "isinstance"), (Str.ofString "range"), (Str.ofString "enumerate"), (Str.ofString "zip"), (Str.ofString "bool"), (Str.ofString "str"), (Str.ofString "dict"), (Str.ofString "sorted"), (Str.ofString "ValueError")]
  calm := true
  own := [1, 2, 3, 4, 5, 6]
  wds := [((Str.ofString "_law_word"), 43)]
  lam := false
def ios : Nat → Bool := fun n => [32, 33, 35, 36, 40, 41, 42, 44].contains n
def kn : VL.Kn := ⟨ios, fun n => [41, 42, 44].contains n, fun n => [43].contains n⟩
def sub : Nat → Nat → Bool := fun a b => [(1, 1), (1, 0), (2, 2), (2, 1), (2, 0), (3, 3), (3, 1), (3, 0), (4, 4), (4, 1), (4, 0), (5, 5), (5, 1), (5, 0), (6, 6), (6, 1), (6, 0)].contains (a, b)
def Ns : List (List Str) := [[(Str.ofString "thing")], [(Str.ofString "thing"), (Str.ofString "least"), (Str.ofString "greatest")], [(Str.ofString "thing"), (Str.ofString "part")], [(Str.ofString "thing"), (Str.ofString "least"), (Str.ofString "greatest")], [(Str.ofString "many"), (Str.ofString "thing")], [(Str.ofString "thing")], [(Str.ofString "thing")], [(Str.ofString "thing"), (Str.ofString "waiting"), (Str.ofString "many"), (Str.ofString "one"), (Str.ofString "depth"), (Str.ofString "parts"), (Str.ofString "part")], [(Str.ofString "thing")], [(Str.ofString "plan")], [(Str.ofString "plan"), (Str.ofString "part")], [(Str.ofString "plan")], [(Str.ofString "plan"), (Str.ofString "part"), (Str.ofString "many")], [(Str.ofString "thing")], [(Str.ofString "order")], [(Str.ofString "order"), (Str.ofString "one"), (Str.ofString "place"), (Str.ofString "value")], [(Str.ofString "order")], [(Str.ofString "thing"), (Str.ofString "place"), (Str.ofString "one")], [(Str.ofString "code"), (Str.ofString "left"), (Str.ofString "found"), (Str.ofString "one")], [(Str.ofString "code")], [(Str.ofString "plan"), (Str.ofString "place"), (Str.ofString "left"), (Str.ofString "part"), (Str.ofString "many"), (Str.ofString "own"), (Str.ofString "inner")], [(Str.ofString "plan"), (Str.ofString "place"), (Str.ofString "ahead"), (Str.ofString "part"), (Str.ofString "many"), (Str.ofString "own"), (Str.ofString "inner")], [(Str.ofString "plan"), (Str.ofString "place")], [(Str.ofString "plan"), (Str.ofString "place")], [(Str.ofString "plan"), (Str.ofString "best"), (Str.ofString "left"), (Str.ofString "part"), (Str.ofString "many"), (Str.ofString "own")], [(Str.ofString "plan")], [(Str.ofString "many"), (Str.ofString "found"), (Str.ofString "number")], [(Str.ofString "order"), (Str.ofString "found"), (Str.ofString "place"), (Str.ofString "one")], [(Str.ofString "many"), (Str.ofString "number"), (Str.ofString "found"), (Str.ofString "radix")], [(Str.ofString "plan"), (Str.ofString "found"), (Str.ofString "ahead"), (Str.ofString "part"), (Str.ofString "many"), (Str.ofString "own")], [(Str.ofString "plan")], [(Str.ofString "script"), (Str.ofString "cells"), (Str.ofString "cell")], [(Str.ofString "hand"), (Str.ofString "many"), (Str.ofString "cell"), (Str.ofString "digit"), (Str.ofString "number")], [(Str.ofString "hand"), (Str.ofString "some")], [(Str.ofString "word"), (Str.ofString "rows"), (Str.ofString "found"), (Str.ofString "whole"), (Str.ofString "ahead"), (Str.ofString "row"), (Str.ofString "low"), (Str.ofString "number")], [(Str.ofString "hand"), (Str.ofString "depth"), (Str.ofString "kind"), (Str.ofString "word"), (Str.ofString "parts"), (Str.ofString "part"), (Str.ofString "plan"), (Str.ofString "row"), (Str.ofString "many")], [(Str.ofString "hand"), (Str.ofString "many"), (Str.ofString "left"), (Str.ofString "found"), (Str.ofString "turn")], [(Str.ofString "row"), (Str.ofString "one"), (Str.ofString "at"), (Str.ofString "number")], [(Str.ofString "row"), (Str.ofString "found"), (Str.ofString "at"), (Str.ofString "many")], [(Str.ofString "thing"), (Str.ofString "one"), (Str.ofString "at")], [(Str.ofString "hand"), (Str.ofString "row"), (Str.ofString "at"), (Str.ofString "odd"), (Str.ofString "some")], [(Str.ofString "hand"), (Str.ofString "order"), (Str.ofString "due"), (Str.ofString "turn"), (Str.ofString "thing"), (Str.ofString "whole"), (Str.ofString "many"), (Str.ofString "number")], [(Str.ofString "hand"), (Str.ofString "plan"), (Str.ofString "row"), (Str.ofString "due"), (Str.ofString "place"), (Str.ofString "ahead"), (Str.ofString "one"), (Str.ofString "many"), (Str.ofString "great"), (Str.ofString "copy"), (Str.ofString "behind_it"), (Str.ofString "words")], [(Str.ofString "call"), (Str.ofString "error"), (Str.ofString "flags")], [(Str.ofString "hand"), (Str.ofString "bad"), (Str.ofString "plan"), (Str.ofString "odd"), (Str.ofString "words"), (Str.ofString "tried")], [(Str.ofString "script"), (Str.ofString "hand"), (Str.ofString "turn"), (Str.ofString "plan"), (Str.ofString "row")]]
def tf : List He.Defn := [((Str.ofString "_law_order_right"), none), ((Str.ofString "_law_plan_right"), none), ((Str.ofString "_law_refused_right"), none)]
def fa : List He.Fa := [.free "len"]
abbrev hk : PySem.W.Hook := He.hookX 4 fa fn (VL.tabsOf nm) tf (VL.chk2 nm sub tf)
def ob (s : PySem.W.SharedT) : He.AlX := He.obsX 4 fa fn (VL.tabsOf nm) tf (VL.chk2 nm sub tf) (HandSHeadRun.getT s)
theorem ob_eq (s : PySem.W.SharedT) : ob s = hk.obs s.abs := He.obsX_eq (HandSHeadRun.getT_eq s)
theorem run_f (w : World) : HandSHeadRun.RunEq R (PySem.W.view R.prog [73]) hk ob 30000 names (w.withFollow "special-get-raises" false) := by
  intro os; kernel_rfl
theorem run_t (w : World) : HandSHeadRun.RunEq R (PySem.W.view R.prog [73]) hk ob 30000 names (w.withFollow "special-get-raises" true) := by
  intro os; kernel_rfl
theorem run (w : World) : HandSHeadRun.RunEq R (PySem.W.view R.prog [73]) hk ob 30000 names w :=
  PySem.W.byRow2 "special-get-raises" (P := fun w => HandSHeadRun.RunEq R (PySem.W.view R.prog [73]) hk ob 30000 names w) run_f run_t w
theorem read_all : VL.readAll nm kn 0 fn Ns = some VL.K30.fds := by kernel_rfl
def dl : He.DefD := (fn[45]?).get (by kernel_rfl)
theorem dl_at : fn[45]? = some dl := (Option.some_get _).symm
theorem ats : fn.map (·.at_) = (VL.fnNames nm).map fun y => (y, none) := by kernel_rfl
theorem ixs : nm.fns = (VL.fnNames nm).zipIdx := by kernel_rfl
theorem nams : VL.namB nm kn fn tf = true := by kernel_rfl
theorem subs_ (a b : Nat) (h : sub a b = true) : ∃ p ∈ nm.cls, p.2 = a := by
  have key : ∀ q ∈ [(1, 1), (1, 0), (2, 2), (2, 1), (2, 0), (3, 3), (3, 1), (3, 0), (4, 4), (4, 1), (4, 0), (5, 5), (5, 1), (5, 0), (6, 6), (6, 1), (6, 0)], nm.cls.any (fun p => p.2 == q.1) = true := by decide +kernel
  have h1 := key (a, b) (List.contains_iff_mem.mp h)
  obtain ⟨p, hp, e⟩ := List.any_eq_true.mp h1
  exact ⟨p, hp, beq_iff_eq.mp e⟩
end Hd
open PySem PySem.W PySem.Calls PyProof.Rows
theorem head_holds (hc : WalkO (view Hd.R.prog [73]) Hd.names (XL (view Hd.R.prog [73]) []) Hd.hk.says Hd.R.toRowW (HandSHeadRun.topDef Hd.R.prog 73) [] fun f vs => PySem.call f vs) : PySem.Challenge.rw_upsdowns_k30_whole_codes.Holds := by
  w_on; o_law
  refine HandSHeadRun.head_any (r := OpenLaw.row PySem.Challenge.rw_upsdowns_k30_whole_codes) (q := view (OpenLaw.row PySem.Challenge.rw_upsdowns_k30_whole_codes).prog [73]) (H := Hd.hk) (ob := Hd.ob) (M := 30000) (loose := Hd.names) (d := HandSHeadRun.topDef (OpenLaw.row PySem.Challenge.rw_upsdowns_k30_whole_codes).prog 73) (kwd := []) Hd.ob_eq
    (by kernel_rfl) (fun s => by kernel_rfl) Hd.run (by kernel_rfl) (by kernel_rfl) (by kernel_rfl) (by rfl) (by first | assumption | decide +kernel) (by decide +kernel) ⟨rfl, rfl, rfl, rfl, rfl, by decide +kernel⟩ ?hw hc
  case hw => w_witness2

theorem PySem.Challenge.cw_upsdowns_k30_whole_codes_holds : PySem.Challenge.rw_upsdowns_k30_whole_codes.Holds := by
  refine head_holds ?_
  exact VL.end_ok (l := Hd.lw) (k := 18) (lawIx := 45) (dl := Hd.dl) (nn := 63) (sub := Hd.sub) Hd.read_all Hd.ats Hd.ixs Hd.nams Hd.subs_ (by kernel_rfl) (by decide +kernel) (by kernel_rfl) ⟨rfl, by decide +kernel, by decide +kernel⟩ (by decide +kernel) Hd.dl_at (x := Str.ofString "script") (by kernel_rfl) (by kernel_rfl) (fun ns _ _ => ⟨_, VL.K30.e_end ns⟩)
end
