import PyProof.Rows.All
import HandS.Head2
import HandS.Head3
import HandS.ForMost
import HandS.ForExc
import KE.SortData
import HandS.Lambda
import HandS.TupAny
import HandS.TupMul
import HandS.Deep
import HandS.Text
import KE.DataMinMax
import KE.DataCmp
import HandS.Flow
import HandS.IsInst
import HandS.Style
import HandS.Gcd
import HandS.Conv
import HandS.NoneIn
import HandS.CallSlots
import HandS.Defaults
import HandS.Rev
import HandS.Zip
import HandS.More
import KE.GoesEnum
import HandS.ExcInit
import HandS.ExcField
import HandS.HeadHook4
import HandS.HeadEnd
import HandS.Codes
import HandS.HeadWalk
import HandS.NestedK
import PySem.Challenge.RW_giftwright_k17_whole_unspent
set_option Elab.async false
set_option linter.all false
set_option maxRecDepth 100000
set_option maxHeartbeats 0
section
set_option linter.all false
set_option autoImplicit false
/-! An interpreter of the part of Python that the program and the laws use, over data without a heap. -/
namespace Ip
open PySem

/-- data that never changes: texts by their code points -/
inductive D where
  | non
  | bl (b : Bool)
  | int (i : Int)
  | str (x : List Nat)
  | tup (xs : List D)
  | lst (xs : List D)
  | dct (kvs : List (D × D))
  | ins (c : Nat) (fs : List (Nat × D))
  deriving Inhabited

/-- what stands in a name's place: nothing yet, data, or an object that this name alone holds -/
inductive SV where
  | un
  | d (x : D)
  | lst (xs : List D)
  | dct (kvs : List (D × D))
  | ins (c : Nat) (fs : List (Nat × SV))
  deriving Inhabited

/-- the value of an expression: a value of its own, or the object held by a name (or by an attribute of the instance that the name holds) -/
inductive W where
  | v (x : SV)
  | r (i : Nat) (f : Option Nat)

abbrev Env := List SV

inductive R (α : Type) where
  | ok (a : α) (e : Env)
  | exc (x : D) (e : Env)
  | no

@[inline] def R.bind {α β : Type} (r : R α) (f : α → Env → R β) : R β := match r with
  | .ok a e => f a e
  | .exc x e => .exc x e
  | .no => .no

inductive BOp where
  | add | sub | mul | fdiv | mod | pow | shl | shr | band | bor
  deriving DecidableEq
inductive COp where
  | eq | ne | lt | le | gt | ge | isN | notN | isin | notin
  deriving DecidableEq
inductive BFn where
  | len | tuple | list | sum | max | min | abs | int | str | sorted | all | any | dict | divmod | gcd | ord
  deriving DecidableEq
inductive MFn where
  | append | extend | insert | pop | get | index | split | join | zfill | count | replace | reverse | items | values
  deriving DecidableEq
inductive Ty where
  | int | bool | str | tuple | list | cls (c : Nat)
  deriving DecidableEq

mutual
inductive CE where
  | cst (x : D)
  | var (i : Nat)
  | glb (x : Nat)
  | tup (es : List CE)
  | lst (es : List CE)
  | dct (es : List (CE × CE))
  | bin (op : BOp) (a b : CE)
  | neg (a : CE)
  | not (a : CE)
  | cmp (op : COp) (a b : CE)
  | cmp2 (op1 op2 : COp) (a b c : CE)
  | and (a b : CE)
  | or (a b : CE)
  | ite (c a b : CE)
  | idx (a i : CE)
  | slc (a : CE) (lo hi : Option CE)
  | rev (a : CE)
  | call (f : Nat) (as : List CE)
  | new (c : Nat) (as : List CE)
  | bi (f : BFn) (as : List CE)
  | isin (a : CE) (ts : List Ty)
  | meth (m : MFn) (o : CE) (as : List CE)
  | omth (m : Nat) (o : CE) (as : List CE)
  | attr (o : CE) (f : Nat)
  | comp (own : List Nat) (t : Tg) (it : It) (ifs : List CE) (elt : CE)
  | dcomp (own : List Nat) (t : Tg) (it : It) (ifs : List CE) (key val : CE)
  | frz (a : CE)
  | lck (i : Nat) (a : CE)
  | told (a : CE)
inductive Tg where
  | name (i : Nat)
  | tup (ts : List Tg)
  | idx (o i : CE)
  | attr (o : CE) (f : Nat)
inductive It where
  | e (a : CE)
  | range (as : List CE)
  | revR (as : List CE)
  | rev (a : CE)
  | enum (as : List CE)
  | zip (as : List CE)
  | items (a : CE)
  | values (a : CE)
end

inductive CS where
  | pass | brk | cont
  | expr (e : CE)
  | asg (t : Tg) (e : CE)
  | aug (i : Nat) (op : BOp) (e : CE)
  | augI (o i : CE) (op : BOp) (e : CE)
  | ret (e : Option CE)
  | ite (c : CE) (a b : List CS)
  | whl (c : CE) (a : List CS)
  | for (t : Tg) (it : It) (a : List CS)
  | raise (c : Nat) (as : List CE)
  | tryE (a : List CS) (hs : List (Nat × Nat × List CS))
  | lck (i : Nat) (a : CS)

end Ip
end

section
set_option linter.all false
set_option autoImplicit false
namespace Ip
open PySem

/-! ### data: what is read of it -/
def numD : D → Option Int
  | .int i => some i
  | .bl b => some (if b then 1 else 0)
  | _ => none
mutual
/-- == -/
def eqD : D → D → Bool
  | .tup xs, .tup ys => eqDs xs ys
  | .lst xs, .lst ys => eqDs xs ys
  | .str x, .str y => decide (x = y)
  | .non, .non => true
  | .int i, .int j => decide (i = j)
  | .int i, .bl b => decide (i = if b then 1 else 0)
  | .bl b, .int j => decide ((if b then 1 else 0) = j)
  | .bl b, .bl c => decide (b = c)
  | _, _ => false
def eqDs : List D → List D → Bool
  | [], [] => true
  | x :: xs, y :: ys => eqD x y && eqDs xs ys
  | _, _ => false
end
/-- what == can be asked of: at most n deep, nothing in it that changes -/
def flatN : Nat → D → Bool
  | _, .non => true
  | _, .bl _ => true
  | _, .int _ => true
  | _, .str _ => true
  | n + 1, .tup xs => xs.all (flatN n)
  | n + 1, .lst xs => xs.all (flatN n)
  | _, _ => false
mutual
/-- whether < can be asked: the same kinds in the same places -/
def alikeD : D → D → Bool
  | .non, .non => true
  | .bl _, .bl _ => true
  | .int _, .int _ => true
  | .str _, .str _ => true
  | .tup xs, .tup ys => alikeDs xs ys
  | .lst xs, .lst ys => alikeDs xs ys
  | _, _ => false
def alikeDs : List D → List D → Bool
  | x :: xs, y :: ys => alikeD x y && alikeDs xs ys
  | _, _ => true
end
mutual
/-- < of such -/
def ltB : D → D → Bool
  | .tup xs, .tup ys => ltBs xs ys
  | .lst xs, .lst ys => ltBs xs ys
  | .str x, .str y => decide (x < y)
  | .int i, .int j => decide (i < j)
  | .bl a, .bl b => !a && b
  | _, _ => false
def ltBs : List D → List D → Bool
  | [], [] => false
  | [], _ :: _ => true
  | _ :: _, [] => false
  | x :: xs, y :: ys => if eqD x y then ltBs xs ys else ltB x y
end
def okLt (x y : D) : Bool := flatN 8 x && flatN 8 y && alikeD x y && (match x with | .non => false | _ => true)
def truD : D → Option Bool
  | .non => some false
  | .bl b => some b
  | .int i => some (decide (i ≠ 0))
  | .str x => some (!x.isEmpty)
  | .tup xs => some (!xs.isEmpty)
  | .lst xs => some (!xs.isEmpty)
  | .dct _ => none
  | .ins _ _ => none
mutual
def frz : SV → Option D
  | .un => none
  | .d x => some x
  | .lst xs => some (.lst xs)
  | .dct _ => none
  | .ins c fs => (frzs fs).map (.ins c)
def frzs : List (Nat × SV) → Option (List (Nat × D))
  | [] => some []
  | (n, x) :: r => match frz x, frzs r with
    | some y, some s => some ((n, y) :: s)
    | _, _ => none
end
/-- data to be read: a dict that its name alone holds, too -/
def rd : SV → Option D
  | .dct kvs => some (.dct kvs)
  | x => frz x
def lkp {α : Type} : List (Nat × α) → Nat → Option α
  | [], _ => none
  | (n, x) :: r, f => if n = f then some x else lkp r f
def putN {α : Type} : List (Nat × α) → Nat → α → List (Nat × α)
  | [], f, v => [(f, v)]
  | (n, x) :: r, f, v => if n = f then (n, v) :: r else (n, x) :: putN r f v
def lkD : List (D × D) → D → Option D
  | [], _ => none
  | (a, x) :: r, k => if eqD a k then some x else lkD r k
def putD (kvs : List (D × D)) (k v : D) : List (D × D) := if (lkD kvs k).isSome then kvs.map (fun p => if eqD p.1 k then (p.1, v) else p) else kvs ++ [(k, v)]
/-- keys are ints and texts -/
def isKey : D → Bool
  | .int _ => true
  | .str _ => true
  | _ => false

/-! ### where objects stand -/
def getP (e : Env) (i : Nat) (f : Option Nat) : SV := match e[i]? with
  | some x => match f with
    | none => x
    | some g => match x with
      | .ins _ fs => match lkp fs g with
        | some y => y
        | none => .un
      | _ => .un
  | none => .un
def setP (e : Env) (i : Nat) (f : Option Nat) (v : SV) : Env := match f with
  | none => e.set i v
  | some g => match e[i]? with
    | some (.ins c fs) => e.set i (.ins c (putN fs g v))
    | _ => e
/-- what is there -/
def con (e : Env) : W → SV
  | .v x => x
  | .r i f => getP e i f
/-- a value's data, to be read -/
def see (e : Env) (w : W) : Option D := rd (con e w)
/-- a value's data, to be kept: an object that a name holds never changes from then on -/
def take (e : Env) (w : W) : Option (D × Env) := match w with
  | .v x => (frz x).map fun y => (y, e)
  | .r i f => (frz (getP e i f)).map fun y => (y, setP e i f (.d y))
/-- an object goes to a callee -/
def move (e : Env) (w : W) : SV × Env := match w with
  | .v x => (x, e)
  | .r i f => (getP e i f, setP e i f .un)
def back (e : Env) (w : W) (x : SV) : Env := match w with
  | .v _ => e
  | .r i f => setP e i f x

/-! ### operations -/
def small64 (i : Int) : Bool := decide (-(2 ^ 64) < i ∧ i < 2 ^ 64)
def bop : BOp → D → D → Option SV
  | .add, .int i, .int j => some (.d (.int (i + j)))
  | .add, .str x, .str y => if x.length + y.length ≤ 1000000 then some (.d (.str (x ++ y))) else none
  | .add, .tup x, .tup y => if x.length + y.length ≤ 1000000 then some (.d (.tup (x ++ y))) else none
  | .add, .lst x, .lst y => if x.length + y.length ≤ 1000000 then some (.lst (x ++ y)) else none
  | .sub, .int i, .int j => some (.d (.int (i - j)))
  | .mul, .int i, .int j => if small64 i || small64 j then some (.d (.int (i * j))) else none
  | .mul, .lst x, .int j => if decide (-1000000 ≤ j) && decide (j ≤ 1000000) && decide (x.length * j.toNat ≤ 1000000) then some (.lst (List.replicate j.toNat x).flatten) else none
  | .mul, .tup x, .int j => if !x.isEmpty && decide (2 ≤ j) && decide (j ≤ 1000) && decide (x.length ≤ 1000) then some (.d (.tup (List.replicate j.toNat x).flatten)) else none
  | .fdiv, .int i, .int j => if decide (0 < j) && decide (j < 1073741824) then some (.d (.int (i / j))) else none
  | .mod, .int i, .int j => if 0 < j then some (.d (.int (i % j))) else none
  | .pow, .int i, .int j => if decide (0 ≤ j) && decide (j ≤ 1000) && small64 i then some (.d (.int (i ^ j.toNat))) else none
  | .shl, .int i, .int j => if decide (0 ≤ j) && decide (j ≤ 1000) && small64 i then some (.d (.int (i * 2 ^ j.toNat))) else none
  | .shr, .int i, .int j => if 0 ≤ j then some (.d (.int (i / 2 ^ j.toNat))) else none
  | .band, .int i, .int j => some (.d (.int (Builtin.bitAnd i j)))
  | .bor, .int i, .int j => some (.d (.int (Builtin.bitOr i j)))
  | _, _, _ => none
def isNonD : D → Bool
  | .non => true
  | _ => false
def cop : COp → D → D → Option Bool
  | .eq, .int i, .int j => some (decide (i = j))
  | .ne, .int i, .int j => some (!decide (i = j))
  | .lt, .int i, .int j => some (decide (i < j))
  | .gt, .int i, .int j => some (decide (j < i))
  | .le, .int i, .int j => some (decide (i ≤ j))
  | .ge, .int i, .int j => some (decide (j ≤ i))
  | .eq, x, y => if flatN 8 x && flatN 8 y then some (eqD x y) else none
  | .ne, x, y => if flatN 8 x && flatN 8 y then some (!eqD x y) else none
  | .lt, x, y => if okLt x y then some (ltB x y) else none
  | .gt, x, y => if okLt x y then some (ltB y x) else none
  | .le, x, y => if okLt x y then some (!ltB y x) else none
  | .ge, x, y => if okLt x y then some (!ltB x y) else none
  | .isN, x, .non => some (isNonD x)
  | .notN, x, .non => some (!isNonD x)
  | .isin, .str [c], .str z => some (decide (c ∈ z))
  | .notin, .str [c], .str z => some (!decide (c ∈ z))
  | .isin, x, .lst ys => if flatN 8 x && ys.all (flatN 8) then some (ys.any fun y => eqD y x) else none
  | .isin, x, .tup ys => if flatN 8 x && ys.all (flatN 8) then some (ys.any fun y => eqD y x) else none
  | .isin, x, .dct kvs => if isKey x then some (lkD kvs x).isSome else none
  | .notin, x, .lst ys => if flatN 8 x && ys.all (flatN 8) then some (!ys.any fun y => eqD y x) else none
  | .notin, x, .tup ys => if flatN 8 x && ys.all (flatN 8) then some (!ys.any fun y => eqD y x) else none
  | .notin, x, .dct kvs => if isKey x then some (!(lkD kvs x).isSome) else none
  | _, _, _ => none
/-- the place that an index means -/
def ix (n : Nat) (i : Int) : Option Nat := if 0 ≤ i then (if i < n then some i.toNat else none) else if -(n : Int) ≤ i then some (i + n).toNat else none
def idxD : D → D → Option D
  | .lst xs, .int i => (ix xs.length i).bind fun j => xs[j]?
  | .tup xs, .int i => (ix xs.length i).bind fun j => xs[j]?
  | .str xs, .int i => (ix xs.length i).bind fun j => (xs[j]?).map fun c => .str [c]
  | .dct kvs, k => if isKey k then lkD kvs k else none
  | _, _ => none
def cutIx (n d : Nat) : Option Int → Nat
  | none => d
  | some i => if i < 0 then (i + n).toNat else min i.toNat n
def cut {α : Type} (xs : List α) (lo hi : Option Int) : List α := (xs.drop (cutIx xs.length 0 lo)).take (cutIx xs.length xs.length hi - cutIx xs.length 0 lo)
def slcD (x : D) (lo hi : Option Int) : Option SV := match x with
  | .lst xs => some (.lst (cut xs lo hi))
  | .tup xs => some (.d (.tup (cut xs lo hi)))
  | .str xs => some (.d (.str (cut xs lo hi)))
  | _ => none
def revD : D → Option SV
  | .lst xs => some (.lst xs.reverse)
  | .tup xs => some (.d (.tup xs.reverse))
  | _ => none
def rangeL (lo : Int) (n : Nat) : List D := (List.range n).map fun (k : Nat) => .int (lo + k)
def itemsD : D → Option (List D)
  | .lst xs => some xs
  | .tup xs => some xs
  | .str xs => some (xs.map fun c => .str [c])
  | .dct kvs => some (kvs.map (·.1))
  | _ => none
def intsD : List D → Option (List Int)
  | [] => some []
  | .int i :: r => (intsD r).map (i :: ·)
  | _ => none
def bools : List D → Option (List Bool)
  | [] => some []
  | .bl b :: r => (bools r).map (b :: ·)
  | _ => none
/-- all of a list can be compared -/
def okLts (xs : List D) : Bool := xs.all (fun x => flatN 8 x && (match x with | .non => false | _ => true)) && xs.all fun x => xs.all (alikeD x)
/-- .. and sorted -/
def okSort (xs : List D) : Bool := okLts xs && (xs.all (fun x => match x with | .tup (_ :: _) => true | _ => false) || xs.all fun x => match x with | .tup _ => false | _ => true)
/-- the first of the least -/
def leastD (x : D) (xs : List D) : D := xs.foldl (fun a y => if ltB y a then y else a) x
/-- the first of the greatest -/
def greatestD (x : D) (xs : List D) : D := xs.foldl (fun a y => if ltB a y then y else a) x
mutual
/-- the library's own data -/
def toPy : D → PyData
  | .non => .none
  | .bl b => .bool b
  | .int i => .int i
  | .str x => .str (⟨x.toArray⟩)
  | .tup xs => .tuple (toPys xs)
  | .lst xs => .list (toPys xs)
  | .dct _ => .none
  | .ins _ _ => .none
def toPys : List D → List PyData
  | [] => []
  | x :: xs => toPy x :: toPys xs
end
/-- in order, equal ones as they stood -/
def insI (a : Int) : List Int → List Int
  | [] => [a]
  | b :: r => if a ≤ b then a :: b :: r else b :: insI a r
def isortI : List Int → List Int
  | [] => []
  | a :: r => insI a (isortI r)
/-- the same by any order -/
def insB {α : Type} (le : α → α → Bool) (a : α) : List α → List α
  | [] => [a]
  | b :: r => if le a b then a :: b :: r else b :: insB le a r
def isortB {α : Type} (le : α → α → Bool) : List α → List α
  | [] => []
  | a :: r => insB le a (isortB le r)
/-- by insertion, so that it computes -/
def sortD (xs : List D) : List D := match intsD xs with
  | some ns => (isortI ns).map .int
  | none => isortB (PySem.W.dataLe false toPy) xs
def digitsN (n : Nat) : List Nat := if h : n < 10 then [48 + n] else digitsN (n / 10) ++ [48 + n % 10]
decreasing_by omega
def strI (i : Int) : List Nat := if 0 ≤ i then digitsN i.toNat else 45 :: digitsN (-i).toNat
def gcdI (a b : Int) : Int := (Int.gcd a b : Nat)
def bfn : BFn → List D → Option SV
  | .len, [.lst xs] => some (.d (.int xs.length))
  | .len, [.tup xs] => some (.d (.int xs.length))
  | .len, [.str xs] => some (.d (.int xs.length))
  | .tuple, [.lst xs] => some (.d (.tup xs))
  | .tuple, [.tup xs] => some (.d (.tup xs))
  | .list, [.lst xs] => some (.lst xs)
  | .list, [.tup xs] => some (.lst xs)
  | .sum, [.lst xs] => (intsD xs).map fun ns => .d (.int ns.sum)
  | .max, [.int i, .int j] => some (.d (.int (if j > i then j else i)))
  | .min, [.int i, .int j] => some (.d (.int (if j < i then j else i)))
  | .max, [.lst (y :: r)] => if okLts (y :: r) then some (.d (greatestD y r)) else none
  | .min, [.lst (y :: r)] => if okLts (y :: r) then some (.d (leastD y r)) else none
  | .max, [.tup (y :: r)] => if okLts (y :: r) then some (.d (greatestD y r)) else none
  | .min, [.tup (y :: r)] => if okLts (y :: r) then some (.d (leastD y r)) else none
  | .abs, [.int i] => some (.d (.int (if i < 0 then -i else i)))
  | .int, [.int i] => some (.d (.int i))
  | .sorted, [.lst xs] => if okSort xs then some (.lst (sortD xs)) else none
  | .all, [.lst xs] => (bools xs).map fun bs => .d (.bl (bs.all id))
  | .any, [.lst xs] => (bools xs).map fun bs => .d (.bl (bs.any id))
  | .divmod, [.int i, .int j] => if decide (0 < j) && decide (j < 1073741824) then some (.d (.tup [.int (i / j), .int (i % j)])) else none
  | .sum, [.tup xs] => (intsD xs).map fun ns => .d (.int ns.sum)
  | .gcd, [.int i, .int j] => some (.d (.int (Nat.gcd i.natAbs j.natAbs : Nat)))
  | .list, [.dct kvs] => if kvs.length ≤ 1000000 then some (.lst (kvs.map (·.1))) else none
  | .len, [.dct kvs] => some (.d (.int kvs.length))
  | .max, [.tup a, .tup b] => if okLts [.tup a, .tup b] then some (.d (greatestD (.tup a) [.tup b])) else none
  | .min, [.tup a, .tup b] => if okLts [.tup a, .tup b] then some (.d (leastD (.tup a) [.tup b])) else none
  | _, _ => none
/-- the first place of a number -/
def idxI (i : Int) : List Int → Option Nat
  | [] => none
  | n :: r => if n = i then some 0 else (idxI i r).map (· + 1)
/-- a method that only reads -/
def rmeth : MFn → D → List D → Option SV
  | .get, .dct kvs, [k] => if isKey k then some (.d ((lkD kvs k).getD .non)) else none
  | .get, .dct kvs, [k, z] => if isKey k then some (.d ((lkD kvs k).getD z)) else none
  | .index, .lst xs, [.int i] => match intsD xs with
    | some ns => (idxI i ns).map fun j => .d (.int (j : Nat))
    | none => none
  | _, _, _ => none
/-- a method that changes its object: what it hands back, the object behind -/
def mmeth : MFn → SV → List D → Option (D × SV)
  | .append, .lst xs, [x] => if xs.length < 1000000 then some (.non, .lst (xs ++ [x])) else none
  | .extend, .lst xs, [.lst ys] => if xs.length + ys.length < 1000000 then some (.non, .lst (xs ++ ys)) else none
  | .insert, .lst xs, [.int i, x] => if decide (0 ≤ i) && decide (i < 1000000) && decide (xs.length < 1000000) then some (.non, .lst (xs.take i.toNat ++ [x] ++ xs.drop i.toNat)) else none
  | .pop, .lst xs, [] => (xs.getLast?).map fun y => (y, .lst xs.dropLast)
  | _, _, _ => none
def setI : SV → D → D → Option SV
  | .lst xs, .int i, v => (ix xs.length i).map fun j => .lst (xs.set j v)
  | .dct kvs, k, v => if decide (kvs.length < 1000000) && isKey k then some (.dct (putD kvs k v)) else none
  | _, _, _ => none
def isTy (x : D) : Ty → Bool
  | .int => match x with | .int _ => true | .bl _ => true | _ => false
  | .bool => match x with | .bl _ => true | _ => false
  | .str => match x with | .str _ => true | _ => false
  | .tuple => match x with | .tup _ => true | _ => false
  | .list => match x with | .lst _ => true | _ => false
  | .cls c => match x with | .ins k _ => decide (k = c) | _ => false
end Ip
end

section
set_option linter.all false
set_option autoImplicit false
namespace Ip
open PySem

structure FnD where
  /-- parameters -/
  n : Nat
  /-- names in all -/
  m : Nat
  /-- which parameters the body stores anew -/
  asg : List Bool
  /-- defaults of the last parameters -/
  defs : List D
  body : List CS
structure ClD where
  /-- the def of __init__ -/
  init : Option Nat
  /-- methods by the names' numbers -/
  meths : List (Nat × Nat)
  /-- an exception's attributes, in the order of its arguments -/
  exc : List Nat
  /-- the classes above it -/
  up : List Nat
structure Cfg where
  fns : List FnD
  cls : List ClD
  consts : List D
  /-- the names of the exceptions' classes -/
  exn : List (List Nat)

/-- a call's end: what comes back, what the parameters hold behind -/
inductive RC where
  | ok (w : SV) (fin : List SV)
  | exc (x : D) (fin : List SV)
  | no

def moves : List Bool → List W → Env → Option (List SV × Env)
  | _, [], e => some ([], e)
  | [], _ :: _, _ => none
  | a :: as, w :: ws, e =>
    if a then match take e w with
      | some (x, e1) => match moves as ws e1 with
        | some (xs, e2) => some (.d x :: xs, e2)
        | none => none
      | none => none
    else match moves as ws (move e w).2 with
      | some (xs, e2) => some ((move e w).1 :: xs, e2)
      | none => none
def backs : List Bool → List W → List SV → Env → Env
  | a :: as, w :: ws, x :: xs, e => backs as ws xs (if a then e else back e w x)
  | _, _, _, e => e

mutual
/-- nothing is called, nothing is made to be kept -/
def quiet : CE → Bool
  | .cst _ => true
  | .var _ => true
  | .glb _ => true
  | .bin _ a b => quiet a && quiet b
  | .neg a => quiet a
  | .not a => quiet a
  | .cmp _ a b => quiet a && quiet b
  | .and a b => quiet a && quiet b
  | .or a b => quiet a && quiet b
  | .ite a b c => quiet a && quiet b && quiet c
  | .idx a b => quiet a && quiet b
  | .tup es => quiets es
  | .lst es => quiets es
  | .bi _ es => quiets es
  | .attr a _ => quiet a
  | .frz a => quiet a
  | _ => false
def quiets : List CE → Bool
  | [] => true
  | e :: es => quiet e && quiets es
end

def wipe : List Nat → Env → Env
  | [], e => e
  | i :: is, e => wipe is (e.set i .un)
def unwipe : List Nat → Env → Env → Env
  | [], _, e => e
  | i :: is, e0, e => unwipe is e0 (match e0[i]? with | some x => e.set i x | none => e)

/-- a name's dict never changes from now on -/
def frzAt (i : Nat) (e : Env) : Env := match e[i]? with
  | some (.dct kvs) => e.set i (.d (.dct kvs))
  | _ => e
section
variable (G : Cfg) (cl : Nat → List SV → RC)

def doCall (f : Nat) (ws : List W) (e : Env) : R W := match G.fns[f]? with
  | none => .no
  | some fd => if ws.length ≤ fd.n ∧ fd.n ≤ ws.length + fd.defs.length then
    match moves fd.asg ws e with
    | none => .no
    | some (xs, e1) => match cl f (xs ++ (fd.defs.drop (ws.length + fd.defs.length - fd.n)).map .d) with
      | .ok w fin => .ok (.v w) (backs fd.asg ws fin e1)
      | .exc x fin => .exc x (backs fd.asg ws fin e1)
      | .no => .no
    else .no
def clsOf : SV → Option Nat
  | .ins c _ => some c
  | .d (.ins c _) => some c
  | _ => none
def methOf (x : SV) (m : Nat) : Option Nat := (clsOf x).bind fun c => (G.cls[c]?).bind fun d => lkp d.meths m
def calm (w : W) (es : List CE) : Bool := match w with
  | .r _ (some _) => quiets es
  | _ => true
def pure1 (e : Env) : Option SV → R W
  | some x => .ok (.v x) e
  | none => .no
def ofO {α : Type} (e : Env) : Option α → R α
  | some x => .ok x e
  | none => .no
def intO (e : Env) (w : W) : Option Int := match see e w with
  | some (.int i) => some i
  | _ => none
def attrW (e : Env) (w : W) (f : Nat) : R W := match w with
  | .v (.ins _ fs) => match lkp fs f with
    | some x => .ok (.v x) e
    | none => .no
  | .v (.d (.ins _ fs)) => match lkp fs f with
    | some x => .ok (.v (.d x)) e
    | none => .no
  | .v _ => .no
  | .r i none => match getP e i (some f) with
    | .un => .no
    | .d x => .ok (.v (.d x)) e
    | _ => .ok (.r i (some f)) e
  | .r i (some g) => match getP e i (some g) with
    | .ins _ fs => match lkp fs f with
      | some (.d x) => .ok (.v (.d x)) e
      | _ => .no
    | _ => .no
/-- what the laws' own try makes of a value, of an exception -/
def toldW : R W → R W
  | .ok w e => match take e w with
    | some (x, e1) => .ok (.v (.d (.tup [.str [118, 97, 108, 117, 101], x]))) e1
    | none => .no
  | .exc (.ins c [(0, y)]) e => match G.exn[c]? with
    | some s => .ok (.v (.d (.tup [.str s, y]))) e
    | none => .no
  | _ => .no
def seeAll (e : Env) : List W → Option (List D)
  | [] => some []
  | w :: ws => match see e w, seeAll e ws with
    | some x, some xs => some (x :: xs)
    | _, _ => none
def takeAll : List W → Env → Option (List D × Env)
  | [], e => some ([], e)
  | w :: ws, e => match take e w with
    | some (x, e1) => match takeAll ws e1 with
      | some (xs, e2) => some (x :: xs, e2)
      | none => none
    | none => none
def methW (e : Env) (m : MFn) (w : W) (ws : List W) : R W := match seeAll e ws, see e w with
  | some xs, some x => match rmeth m x xs with
    | some y => .ok (.v y) e
    | none => match takeAll ws e with
      | some (xs, e1) => match w with
        | .r i f => match mmeth m (getP e1 i f) xs with
          | some (y, o) => .ok (.v (.d y)) (setP e1 i f o)
          | none => .no
        | .v _ => .no
      | none => .no
  | _, _ => .no
/-- what a method is asked of, ahead of its arguments -/
def okM : MFn → SV → Bool
  | .append, .lst _ => true
  | .extend, .lst _ => true
  | .insert, .lst _ => true
  | .reverse, .lst _ => true
  | .pop, .lst _ => true
  | .index, .lst _ => true
  | .index, .d (.lst _) => true
  | .count, .lst _ => true
  | .count, .d (.lst _) => true
  | .get, .dct _ => true
  | .get, .d (.dct _) => true
  | .split, .d (.str _) => true
  | .join, .d (.str _) => true
  | .zfill, .d (.str _) => true
  | .replace, .d (.str _) => true
  | _, _ => false
def zipD : List D → List D → List D
  | x :: xs, y :: ys => .tup [x, y] :: zipD xs ys
  | _, _ => []
def enumD : Nat → List D → List D
  | _, [] => []
  | n, x :: xs => .tup [.int n, x] :: enumD (n + 1) xs
/-- steps of c -/
def rangeC (lo c : Int) (n : Nat) : List D := (List.range n).map fun (k : Nat) => .int (lo + k * c)
def rangeD : List D → Option (List D)
  | [.int j] => if decide (-(2 ^ 62) ≤ j) && decide (j < 2 ^ 62) then some (rangeL 0 j.toNat) else none
  | [.int i, .int j] => if decide (-(2 ^ 62) ≤ i) && decide (i < 2 ^ 62) && decide (-(2 ^ 62) ≤ j) && decide (j < 2 ^ 62) then some (rangeL i (j - i).toNat) else none
  | [.int i, .int j, .int c] => if decide (c ≠ 0) && decide (c.natAbs < 1073741824) && Builtin.Range.small i j c && decide (0 ≤ Builtin.Range.rangeSize i j c) then some (rangeC i c (Builtin.Range.rangeSize i j c).toNat) else none
  | _ => none

def compL (f : D → Env → R (Option D)) : List D → List D → Env → R (List D)
  | [], acc, e => .ok acc e
  | x :: xs, acc, e => match f x e with
    | .ok (some y) e => compL f xs (acc ++ [y]) e
    | .ok none e => compL f xs acc e
    | _ => .no
def pureAt (e : Env) (i : Nat) : Bool := match e[i]? with
  | some .un => true
  | some (.d _) => true
  | _ => false

mutual
def evalE : CE → Env → R W
  | .cst x, e => .ok (.v (.d x)) e
  | .var i, e => match e[i]? with
    | some .un => .no
    | some (.d x) => .ok (.v (.d x)) e
    | some _ => .ok (.r i none) e
    | none => .no
  | .glb n, e => match G.consts[n]? with
    | some x => .ok (.v (.d x)) e
    | none => .no
  | .tup es, e => (evalEs es e).bind fun ws e => match takeAll ws e with
    | some (xs, e1) => .ok (.v (.d (.tup xs))) e1
    | none => .no
  | .lst es, e => (evalEs es e).bind fun ws e => match takeAll ws e with
    | some (xs, e1) => .ok (.v (.lst xs)) e1
    | none => .no
  | .dct kvs, e => evalKV kvs [] e
  | .bin op a b, e => (evalE a e).bind fun x e => (evalE b e).bind fun y e => match see e x, see e y with
    | some x, some y => pure1 e (bop op x y)
    | _, _ => .no
  | .neg a, e => (evalE a e).bind fun x e => match see e x with
    | some (.int i) => .ok (.v (.d (.int (-i)))) e
    | _ => .no
  | .not a, e => (evalE a e).bind fun x e => match (see e x).bind truD with
    | some b => .ok (.v (.d (.bl (!b)))) e
    | none => .no
  | .cmp op a b, e => (evalE a e).bind fun x e => (evalE b e).bind fun y e => match see e x, see e y with
    | some x, some y => match cop op x y with
      | some c => .ok (.v (.d (.bl c))) e
      | none => .no
    | _, _ => .no
  | .cmp2 op1 op2 a b c, e => (evalE a e).bind fun x e => (evalE b e).bind fun y e => match see e x, see e y with
    | some x, some y' => match cop op1 x y' with
      | some true => (evalE c e).bind fun z e => match see e y, see e z with
        | some y, some z => match cop op2 y z with
          | some c => .ok (.v (.d (.bl c))) e
          | none => .no
        | _, _ => .no
      | some false => .ok (.v (.d (.bl false))) e
      | none => .no
    | _, _ => .no
  | .and a b, e => (evalE a e).bind fun x e => match (see e x).bind truD with
    | some true => evalE b e
    | some false => .ok x e
    | none => .no
  | .or a b, e => (evalE a e).bind fun x e => match (see e x).bind truD with
    | some true => .ok x e
    | some false => evalE b e
    | none => .no
  | .ite c a b, e => (evalE c e).bind fun x e => match (see e x).bind truD with
    | some true => evalE a e
    | some false => evalE b e
    | none => .no
  | .idx a i, e => (evalE a e).bind fun x e => (evalE i e).bind fun y e => match see e x, see e y with
    | some x, some y => pure1 e ((idxD x y).map .d)
    | _, _ => .no
  | .slc a lo hi, e => (evalE a e).bind fun x e => (evalO lo e).bind fun l e => (evalO hi e).bind fun h e => match see e x with
    | some x => pure1 e (slcD x l h)
    | none => .no
  | .rev a, e => (evalE a e).bind fun x e => match see e x with
    | some x => pure1 e (revD x)
    | none => .no
  | .call f as, e => (evalEs as e).bind fun ws e => doCall G cl f ws e
  | .new c as, e => (evalEs as e).bind fun ws e => match (G.cls[c]?).bind (·.init) with
    | none => .no
    | some f => match G.fns[f]? with
      | none => .no
      | some fd => if ws.length + 1 = fd.n ∧ fd.asg[0]? = some false then match moves fd.asg (.v (.ins c []) :: ws) e with
        | none => .no
        | some (xs, e1) => match cl f xs with
          | .ok (.d .non) (o :: fin) => .ok (.v o) (backs fd.asg (.v (.ins c []) :: ws) (o :: fin) e1)
          | .exc x fin => .exc x (backs fd.asg (.v (.ins c []) :: ws) fin e1)
          | _ => .no
        else .no
  | .bi f as, e => (evalEs as e).bind fun ws e => match seeAll e ws with
    | some xs => pure1 e (bfn f xs)
    | none => .no
  | .isin a ts, e => (evalE a e).bind fun x e => match see e x with
    | some x => .ok (.v (.d (.bl (ts.any (isTy x))))) e
    | none => .no
  | .meth m o as, e => (evalE o e).bind fun w e => if okM m (con e w) && calm w as then (evalEs as e).bind fun ws e => methW e m w ws else .no
  | .omth m o as, e => (evalE o e).bind fun w e => match methOf G (con e w) m with
    | none => .no
    | some f => if calm w as then (evalEs as e).bind fun ws e => doCall G cl f (w :: ws) e else .no
  | .attr o f, e => (evalE o e).bind fun w e => attrW e w f
  | .comp own t it ifs elt, e => (evalI it e).bind fun xs e => if decide (xs.length ≤ 1000000) && own.all (pureAt e) then
      (compL (fun x e0 => (assign t (.v (.d x)) (wipe own e0)).bind fun _ e => (tests ifs e).bind fun b e =>
        if b then (evalE elt e).bind fun w e => match take e w with
          | some (y, e) => .ok (some y) (unwipe own e0 e)
          | none => .no
        else .ok none (unwipe own e0 e)) xs [] e).bind fun ys e => .ok (.v (.lst ys)) e else .no
  | .dcomp own t it ifs k v, e => .no
  | .frz a, e => (evalE a e).bind fun w e => match take e w with
    | some (x, e1) => .ok (.v (.d x)) e1
    | none => .no
  | .lck i a, e => evalE a (frzAt i e)
  | .told a, e => toldW G (evalE a e)
termination_by structural x => x
def evalEs : List CE → Env → R (List W)
  | [], e => .ok [] e
  | a :: as, e => (evalE a e).bind fun w e => (evalEs as e).bind fun ws e => .ok (w :: ws) e
termination_by structural x => x
def evalKV : List (CE × CE) → List (D × D) → Env → R W
  | [], acc, e => .ok (.v (.dct acc)) e
  | (k, v) :: r, acc, e => (evalE k e).bind fun x e => (evalE v e).bind fun y e => match takeAll [x, y] e with
    | some ([x, y], e) => if isKey x then evalKV r (putD acc x y) e else .no
    | _ => .no
termination_by structural x => x
def evalO : Option CE → Env → R (Option Int)
  | none, e => .ok none e
  | some a, e => (evalE a e).bind fun w e => match intO e w with
    | some i => .ok (some i) e
    | none => .no
termination_by structural x => x
def evalI : It → Env → R (List D)
  | .e a, e => (evalE a e).bind fun w e => match take e w with
    | some (x, e1) => ofO e1 (itemsD x)
    | none => .no
  | .range as, e => (evalEs as e).bind fun ws e => ofO e ((seeAll e ws).bind rangeD)
  | .revR as, e => .no
  | .rev a, e => (evalE a e).bind fun w e => match take e w with
    | some (.lst xs, e1) => .ok xs.reverse e1
    | some (.tup xs, e1) => .ok xs.reverse e1
    | _ => .no
  | .enum a, e => (evalEs a e).bind fun ws e => match takeAll ws e with
    | some ([.lst xs], e1) => .ok (enumD 0 xs) e1
    | some ([.tup xs], e1) => .ok (enumD 0 xs) e1
    | _ => .no
  | .zip as, e => (evalEs as e).bind fun ws e => match takeAll ws e with
    | some ([.lst xs, .lst ys], e1) => .ok (zipD xs ys) e1
    | some ([.tup xs, .tup ys], e1) => .ok (zipD xs ys) e1
    | _ => .no
  | .items a, e => .no
  | .values a, e => .no
termination_by structural x => x
def assign : Tg → W → Env → R Unit
  | .name i, w, e => match w with
    | .v x => .ok () (e.set i x)
    | .r _ _ => match take e w with
      | some (x, e1) => .ok () (e1.set i (.d x))
      | none => .no
  | .tup ts, w, e => match take e w with
    | some (.tup xs, e1) => if xs.length = ts.length then assigns ts xs e1 else .no
    | some (.lst xs, e1) => if xs.length = ts.length then assigns ts xs e1 else .no
    | _ => .no
  | .idx o i, w, e => (evalE o e).bind fun wo e => (evalE i e).bind fun wi e => match take e w with
    | some (x, e1) => match wo, see e1 wi with
      | .r p q, some k => if calm wo [i] then match setI (getP e1 p q) k x with
        | some y => .ok () (setP e1 p q y)
        | none => .no
        else .no
      | _, _ => .no
    | none => .no
  | .attr o f, w, e => (evalE o e).bind fun wo e => match wo with
    | .r i none => match getP e i none with
      | .ins _ _ => match w with
        | .v x => .ok () (setP e i (some f) x)
        | .r _ _ => match take e w with
          | some (x, e1) => .ok () (setP e1 i (some f) (.d x))
          | none => .no
      | _ => .no
    | _ => .no
termination_by structural x => x
def assigns : List Tg → List D → Env → R Unit
  | [], [], e => .ok () e
  | t :: ts, x :: xs, e => (assign t (.v (.d x)) e).bind fun _ e => assigns ts xs e
  | _, _, _ => .no
termination_by structural x => x
def tests : List CE → Env → R Bool
  | [], e => .ok true e
  | c :: cs, e => (evalE c e).bind fun x e => match (see e x).bind truD with
    | some true => tests cs e
    | some false => .ok false e
    | none => .no
termination_by structural x => x
end

end
/-! ### statements -/
/-- a statement's end -/
inductive SR where
  | nx (e : Env)
  | bk (e : Env)
  | ct (e : Env)
  | rt (w : SV) (e : Env)
  | exc (x : D) (e : Env)
  | no
@[inline] def R.st {α : Type} (r : R α) (f : α → Env → SR) : SR := match r with
  | .ok a e => f a e
  | .exc x e => .exc x e
  | .no => .no
def forL (f : D → Env → SR) : List D → Env → SR
  | [], e => .nx e
  | x :: xs, e => match f x e with
    | .nx e => forL f xs e
    | .ct e => forL f xs e
    | .bk e => .nx e
    | r => r
def whlL (c : Env → R Bool) (f : Env → SR) : Nat → Env → SR
  | 0, _ => .no
  | n + 1, e => (c e).st fun b e => if b then (match f e with
    | .nx e => whlL c f n e
    | .ct e => whlL c f n e
    | .bk e => .nx e
    | r => r) else .nx e
/-- what a def hands back: a local name's object goes, a parameter's is kept -/
def retW (np : Nat) (w : W) (e : Env) : SR := match w with
  | .v x => .rt x e
  | .r i none => if i < np then match take e w with
      | some (x, e1) => .rt (.d x) e1
      | none => .no
    else match getP e i none with
      | .un => .no
      | x => .rt x (e.set i .un)
  | .r _ (some _) => match take e w with
      | some (x, e1) => .rt (.d x) e1
      | none => .no
def aop : BOp → D → D → Option D
  | .add, .int i, .int j => some (.int (i + j))
  | .sub, .int i, .int j => some (.int (i - j))
  | _, _, _ => none
/-- turns of a while, at most -/
def turns : Nat := 1000000
section
variable (G : Cfg) (cl : Nat → List SV → RC) (np : Nat)
mutual
def execS : CS → Env → SR
  | .pass, e => .nx e
  | .brk, e => .bk e
  | .cont, e => .ct e
  | .expr a, e => (evalE G cl a e).st fun _ e => .nx e
  | .asg t a, e => (evalE G cl a e).st fun w e => (assign G cl t w e).st fun _ e => .nx e
  | .aug i op a, e => match e[i]? with
    | some (.d x) => (evalE G cl a e).st fun w e => match see e w with
      | some y => match aop op x y with
        | some z => .nx (e.set i (.d z))
        | none => .no
      | none => .no
    | _ => .no
  | .augI o i op a, e => (evalE G cl o e).st fun wo e => (evalE G cl i e).st fun wi e => match see e wo, see e wi with
    | some x, some k => match idxD x k with
      | some old => if quiet a then (evalE G cl a e).st fun w e => match see e w with
        | some y => match aop op old y with
          | some z => match wo with
            | .r p q => if calm wo [i] then match setI (getP e p q) k z with
              | some o => .nx (setP e p q o)
              | none => .no
              else .no
            | .v _ => .no
          | none => .no
        | none => .no
        else .no
      | none => .no
    | _, _ => .no
  | .ret none, e => .rt (.d .non) e
  | .ret (some a), e => (evalE G cl a e).st fun w e => retW np w e
  | .ite c a b, e => (evalE G cl c e).st fun w e => match (see e w).bind truD with
    | some true => execSs a e
    | some false => execSs b e
    | none => .no
  | .whl c a, e => whlL (fun e => (evalE G cl c e).bind fun w e => ofO e ((see e w).bind truD)) (fun e => execSs a e) turns e
  | .for t it a, e => (evalI G cl it e).st fun xs e => forL (fun x e => (assign G cl t (.v (.d x)) e).st fun _ e => execSs a e) xs e
  | .raise c as, e => (evalEs G cl as e).st fun ws e => match takeAll ws e with
    | some ([x], e) => .exc (.ins c [(0, x)]) e
    | _ => .no
  | .tryE a hs, e => .no
  | .lck i a, e => execS a (frzAt i e)
termination_by structural x => x
def execSs : List CS → Env → SR
  | [], e => .nx e
  | a :: as, e => match execS a e with
    | .nx e => execSs as e
    | r => r
termination_by structural x => x
end
end
/-- a call at most k deep -/
def callI (G : Cfg) : Nat → Nat → List SV → RC
  | 0, _, _ => .no
  | k + 1, f, xs => match G.fns[f]? with
    | none => .no
    | some fd => if xs.length = fd.n then
      match execSs G (callI G k) fd.n fd.body (xs ++ List.replicate (fd.m - fd.n) .un) with
      | .nx e => .ok (.d .non) (e.take fd.n)
      | .rt w e => .ok w (e.take fd.n)
      | .exc x e => .exc x (e.take fd.n)
      | _ => .no
      else .no
end Ip
end

section
set_option linter.all false
set_option autoImplicit false
namespace Ip
open PySem PySem.Spec PyProof.Rows L2

abbrev txt (x : List Nat) : Str := ⟨x.toArray⟩
/-- a text of the model's size and signs -/
def TxtOk (x : List Nat) : Prop := x.length ≤ sizeLine ∧ ∀ c ∈ x, c < 1114112
section
variable (K : PySem.W.Frag)
/-- a key -/
def RelKy : D → Key → Prop
  | .int i, k => k = .inl i
  | .str x, k => k = .inr (txt x) ∧ TxtOk x
  | _, _ => False
mutual
/-- data as it lies in the part F of the heap that never changes -/
def RelD (F : Hp) : D → V → Prop
  | .non, v => v = .non
  | .bl b, v => v = .bl b
  | .int i, v => v = .int i
  | .str x, v => v = .str (txt x) ∧ TxtOk x
  | .tup xs, v => ∃ a vs, v = .ref a ∧ SqT K F a vs ∧ RelDs F xs vs ∧ xs.length ≤ sizeLine
  | .lst xs, v => ∃ a vs, v = .ref a ∧ SqL K F a vs ∧ RelDs F xs vs ∧ xs.length ≤ sizeLine
  | .dct kvs, v => ∃ a od ps, v = .ref a ∧ F a = some (.frz od (.dK ps)) ∧ RelKs F kvs ps
  | .ins _ _, _ => False
def RelKs (F : Hp) : List (D × D) → List (Key × V) → Prop
  | [], [] => True
  | (k, x) :: r, (j, v) :: s => RelKy k j ∧ RelD F x v ∧ RelKs F r s
  | _, _ => False
def RelDs (F : Hp) : List D → List V → Prop
  | [], [] => True
  | x :: xs, v :: vs => RelD F x v ∧ RelDs F xs vs
  | _, _ => False
end
/-- .. whose uppermost object may be one that changes -/
def RelT (F H : Hp) : D → V → Prop
  | .lst xs, v => ∃ a vs, v = .ref a ∧ SqL K H a vs ∧ RelDs K F xs vs ∧ xs.length ≤ sizeLine
  | .dct kvs, v => ∃ a ps, v = .ref a ∧ Rd H a (.dK ps) ∧ RelKs K F kvs ps
  | x, v => RelD K F x v
/-- a name's content, its own objects -/
def RelS (F H : Hp) : SV → V → List Addr → Prop
  | .un, _, f => f = []
  | .d x, v, f => RelD K F x v ∧ f = []
  | .lst xs, v, f => ∃ a vs, v = .ref a ∧ H a = some (.lst vs) ∧ RelDs K F xs vs ∧ xs.length ≤ sizeLine ∧ f = [a]
  | .dct kvs, v, f => ∃ a ps, v = .ref a ∧ H a = some (.dK ps) ∧ RelKs K F kvs ps ∧ f = [a]
  | .ins _ _, _, _ => False
def RelU (F H : Hp) : SV → Option V → List Addr → Prop
  | .un, _, f => f = []
  | x, some v, f => RelS K F H x v f
  | _, none, _ => False
def RelE (F H : Hp) : Env → L2.St → List (List Addr) → Prop
  | [], [], [] => True
  | x :: e, o :: σ, f :: fs => RelU K F H x o f ∧ RelE F H e σ fs
  | _, _, _ => False
end

def Le (F H : Hp) : Prop := ∀ b o, F b = some o → H b = some o
theorem Le.refl (F : Hp) : Le F F := fun _ _ h => h
theorem Le.trans {F H J : Hp} (a : Le F H) (b : Le H J) : Le F J := fun c o h => b c o (a c o h)
theorem Le.rd {F H : Hp} {a : Addr} {o : HO} (e : Le F H) (h : Rd F a o) : Rd H a o := by
  rcases h with h | ⟨o, h⟩
  · exact .inl (e _ _ h)
  · exact .inr ⟨o, e _ _ h⟩
theorem Le.sql {K : PySem.W.Frag} {F H : Hp} {a : Addr} {xs : List V} (e : Le F H) (h : SqL K F a xs) : SqL K H a xs := h.imp e.rd id
theorem Le.sqt {K : PySem.W.Frag} {F H : Hp} {a : Addr} {xs : List V} (e : Le F H) (h : SqT K F a xs) : SqT K H a xs := by
  rcases h with (h | ⟨o, h⟩) | h
  · exact .inl (.inl (e _ _ h))
  · exact .inl (.inr ⟨o, e _ _ h⟩)
  · exact .inr h

section
variable {K : PySem.W.Frag} {F F' H H' : Hp}
mutual
theorem RelD.mono (e : Le F F') : ∀ {x : D} {v : V}, RelD K F x v → RelD K F' x v
  | .non, _, h => by unfold RelD at h ⊢; exact h
  | .bl _, _, h => by unfold RelD at h ⊢; exact h
  | .int _, _, h => by unfold RelD at h ⊢; exact h
  | .str _, _, h => by unfold RelD at h ⊢; exact h
  | .tup xs, _, h => by
    unfold RelD at h ⊢
    obtain ⟨a, vs, h1, h2, h3, h4⟩ := h
    exact ⟨a, vs, h1, e.sqt h2, RelDs.mono e h3, h4⟩
  | .lst xs, _, h => by
    unfold RelD at h ⊢
    obtain ⟨a, vs, h1, h2, h3, h4⟩ := h
    exact ⟨a, vs, h1, e.sql h2, RelDs.mono e h3, h4⟩
  | .dct kvs, _, h => by
    unfold RelD at h ⊢
    obtain ⟨a, od, ps, h1, h2, h3⟩ := h
    exact ⟨a, od, ps, h1, e _ _ h2, RelKs.mono e h3⟩
  | .ins _ _, _, h => by unfold RelD at h; exact h.elim
theorem RelKs.mono (e : Le F F') : ∀ {kvs : List (D × D)} {ps : List (Key × V)}, RelKs K F kvs ps → RelKs K F' kvs ps
  | [], [], _ => by unfold RelKs; trivial
  | (k, x) :: r, (j, v) :: s, h => by
    unfold RelKs at h ⊢
    exact ⟨h.1, RelD.mono e h.2.1, RelKs.mono e h.2.2⟩
  | [], _ :: _, h => by unfold RelKs at h; exact h.elim
  | (_, _) :: _, [], h => by unfold RelKs at h; exact h.elim
theorem RelDs.mono (e : Le F F') : ∀ {xs : List D} {vs : List V}, RelDs K F xs vs → RelDs K F' xs vs
  | [], [], _ => by unfold RelDs; trivial
  | _ :: _, _ :: _, h => by
    unfold RelDs at h ⊢
    exact ⟨RelD.mono e h.1, RelDs.mono e h.2⟩
  | [], _ :: _, h => by unfold RelDs at h; exact h.elim
  | _ :: _, [], h => by unfold RelDs at h; exact h.elim
end
theorem RelDs.len : ∀ {xs : List D} {vs : List V}, RelDs K F xs vs → xs.length = vs.length
  | [], [], _ => rfl
  | _ :: xs, _ :: vs, h => by
    unfold RelDs at h
    exact congrArg (· + 1) (RelDs.len h.2)
  | [], _ :: _, h => by unfold RelDs at h; exact h.elim
  | _ :: _, [], h => by unfold RelDs at h; exact h.elim
theorem RelDs.get : ∀ {xs : List D} {vs : List V} {i : Nat} {x : D}, RelDs K F xs vs → xs[i]? = some x → ∃ v, vs[i]? = some v ∧ RelD K F x v
  | [], [], _, _, _, e => by simp at e
  | x :: xs, v :: vs, 0, y, h, e => by
    unfold RelDs at h
    simp at e
    subst e
    exact ⟨v, rfl, h.1⟩
  | x :: xs, v :: vs, i + 1, y, h, e => by
    unfold RelDs at h
    simp at e
    obtain ⟨u, h1, h2⟩ := RelDs.get h.2 e
    exact ⟨u, by simpa using h1, h2⟩
  | [], _ :: _, _, _, h, _ => by unfold RelDs at h; exact h.elim
  | _ :: _, [], _, _, h, _ => by unfold RelDs at h; exact h.elim
theorem RelDs.append : ∀ {xs ys : List D} {vs us : List V}, RelDs K F xs vs → RelDs K F ys us → RelDs K F (xs ++ ys) (vs ++ us)
  | [], _, [], _, _, h => h
  | x :: xs, _, v :: vs, _, h, g => by
    unfold RelDs at h
    show RelDs K F (x :: (xs ++ _)) (v :: (vs ++ _))
    unfold RelDs
    exact ⟨h.1, RelDs.append h.2 g⟩
  | [], _, _ :: _, _, h, _ => by unfold RelDs at h; exact h.elim
  | _ :: _, _, [], _, h, _ => by unfold RelDs at h; exact h.elim
theorem RelDs.take : ∀ {xs : List D} {vs : List V} (n : Nat), RelDs K F xs vs → RelDs K F (xs.take n) (vs.take n)
  | [], [], n, _ => by simp [RelDs]
  | x :: xs, v :: vs, 0, _ => by simp [RelDs]
  | x :: xs, v :: vs, n + 1, h => by
    unfold RelDs at h
    simp only [List.take_succ_cons]
    unfold RelDs
    exact ⟨h.1, RelDs.take n h.2⟩
  | [], _ :: _, _, h => by unfold RelDs at h; exact h.elim
  | _ :: _, [], _, h => by unfold RelDs at h; exact h.elim
theorem RelDs.drop : ∀ {xs : List D} {vs : List V} (n : Nat), RelDs K F xs vs → RelDs K F (xs.drop n) (vs.drop n)
  | xs, vs, 0, h => h
  | [], [], n + 1, _ => by simp [RelDs]
  | x :: xs, v :: vs, n + 1, h => by
    unfold RelDs at h
    exact RelDs.drop n h.2
  | [], _ :: _, _ + 1, h => by unfold RelDs at h; exact h.elim
  | _ :: _, [], _ + 1, h => by unfold RelDs at h; exact h.elim
theorem RelDs.set : ∀ {xs : List D} {vs : List V} (i : Nat) {x : D} {v : V}, RelDs K F xs vs → RelD K F x v → RelDs K F (xs.set i x) (vs.set i v)
  | [], [], _, _, _, h, _ => h
  | _ :: xs, _ :: vs, 0, x, v, h, g => by
    unfold RelDs at h
    show RelDs K F (x :: xs) (v :: vs)
    unfold RelDs
    exact ⟨g, h.2⟩
  | y :: xs, u :: vs, i + 1, x, v, h, g => by
    unfold RelDs at h
    show RelDs K F (y :: xs.set i x) (u :: vs.set i v)
    unfold RelDs
    exact ⟨h.1, RelDs.set i h.2 g⟩
  | [], _ :: _, _, _, _, h, _ => by unfold RelDs at h; exact h.elim
  | _ :: _, [], _, _, _, h, _ => by unfold RelDs at h; exact h.elim
theorem RelDs.rev {xs : List D} {vs : List V} (h : RelDs K F xs vs) : RelDs K F xs.reverse vs.reverse := by
  induction xs generalizing vs with
  | nil =>
    cases vs with
    | nil => exact h
    | cons v vs => unfold RelDs at h; exact h.elim
  | cons x xs ih =>
    cases vs with
    | nil => unfold RelDs at h; exact h.elim
    | cons v vs =>
      unfold RelDs at h
      rw [List.reverse_cons, List.reverse_cons]
      refine RelDs.append (ih h.2) ?_
      unfold RelDs
      exact ⟨h.1, by unfold RelDs; trivial⟩
theorem txt_inj {x y : List Nat} (h : txt x = txt y) : x = y := by
  have : x.toArray = y.toArray := congrArg Str.cps h
  simpa using congrArg Array.toList this
theorem RelKy.eq {k k' : D} {j j' : Key} (h : RelKy k j) (h' : RelKy k' j') : eqD k k' = decide (j = j') := by
  cases k <;> simp only [RelKy] at h <;> cases k' <;> simp only [RelKy] at h'
  · subst h; subst h'; simp [eqD]
  · subst h; obtain ⟨rfl, _⟩ := h'; simp [eqD]
  · obtain ⟨rfl, _⟩ := h; subst h'; simp [eqD]
  · obtain ⟨rfl, _⟩ := h
    obtain ⟨rfl, _⟩ := h'
    simp only [eqD, Sum.inr.injEq]
    congr 1
    exact propext ⟨fun z => by rw [z], txt_inj⟩
theorem RelKs.val {k : D} {j : Key} (hk : RelKy k j) : ∀ {kvs : List (D × D)} {ps : List (Key × V)}, RelKs K F kvs ps → match lkD kvs k with
    | some x => ∃ v, valV ps j = some v ∧ RelD K F x v
    | none => valV ps j = none
  | [], [], _ => by simp [lkD, valV_nil]
  | (a, x) :: r, (i, v) :: s, h => by
    unfold RelKs at h
    simp only [lkD, RelKy.eq h.1 hk]
    by_cases q : i = j
    · simp only [q, decide_true, if_true]
      exact ⟨v, valV_pos (p := (j, v)) rfl, h.2.1⟩
    · simp only [q, decide_false, Bool.false_eq_true, if_false]
      rw [valV_neg (p := (i, v)) q]
      exact RelKs.val hk h.2.2
  | [], _ :: _, h => by unfold RelKs at h; exact h.elim
  | (_, _) :: _, [], h => by unfold RelKs at h; exact h.elim
theorem RelKs.len : ∀ {kvs : List (D × D)} {ps : List (Key × V)}, RelKs K F kvs ps → kvs.length = ps.length
  | [], [], _ => rfl
  | (a, x) :: r, (i, v) :: s, h => by
    unfold RelKs at h
    exact congrArg (· + 1) (RelKs.len h.2.2)
  | [], _ :: _, h => by unfold RelKs at h; exact h.elim
  | (_, _) :: _, [], h => by unfold RelKs at h; exact h.elim
theorem RelKs.snoc {k y : D} {j : Key} {u : V} (hk : RelKy k j) (hy : RelD K F y u) : ∀ {kvs : List (D × D)} {ps : List (Key × V)}, RelKs K F kvs ps → RelKs K F (kvs ++ [(k, y)]) (ps ++ [(j, u)])
  | [], [], _ => by
    show RelKs K F [(k, y)] [(j, u)]
    unfold RelKs
    exact ⟨hk, hy, by unfold RelKs; trivial⟩
  | (a, x) :: r, (i, v) :: s, h => by
    unfold RelKs at h
    show RelKs K F ((a, x) :: (r ++ [(k, y)])) ((i, v) :: (s ++ [(j, u)]))
    unfold RelKs
    exact ⟨h.1, h.2.1, RelKs.snoc hk hy h.2.2⟩
  | [], _ :: _, h => by unfold RelKs at h; exact h.elim
  | (_, _) :: _, [], h => by unfold RelKs at h; exact h.elim
theorem RelKs.repl {k y : D} {j : Key} {u : V} (hk : RelKy k j) (hy : RelD K F y u) : ∀ {kvs : List (D × D)} {ps : List (Key × V)}, RelKs K F kvs ps → RelKs K F (kvs.map fun p => if eqD p.1 k then (p.1, y) else p) (ps.map fun kv => if kv.1 = j then (kv.1, u) else kv)
  | [], [], h => h
  | (a, x) :: r, (i, v) :: s, h => by
    unfold RelKs at h
    simp only [List.map_cons, RelKy.eq h.1 hk]
    have ih := RelKs.repl hk hy h.2.2
    by_cases q : i = j
    · simp only [q, decide_true, if_true]
      unfold RelKs
      exact ⟨by rw [← q]; exact h.1, hy, ih⟩
    · simp only [q, decide_false, Bool.false_eq_true, if_false]
      unfold RelKs
      exact ⟨h.1, h.2.1, ih⟩
  | [], _ :: _, h => by unfold RelKs at h; exact h.elim
  | (_, _) :: _, [], h => by unfold RelKs at h; exact h.elim
theorem RelKs.put {k y : D} {j : Key} {u : V} (hk : RelKy k j) (hy : RelD K F y u) {kvs : List (D × D)} {ps : List (Key × V)} (h : RelKs K F kvs ps) : RelKs K F (putD kvs k y) (putK ps j u) := by
  have hv := RelKs.val hk h
  unfold putD putK
  rw [valV_any]
  cases q : lkD kvs k with
  | none =>
    rw [q] at hv
    simp only [hv, Option.isSome_none, Bool.false_eq_true, if_false]
    exact RelKs.snoc hk hy h
  | some x =>
    rw [q] at hv
    obtain ⟨v, hv, _⟩ := hv
    simp only [hv, Option.isSome_some, if_true]
    exact RelKs.repl hk hy h
theorem RelKs.keys : ∀ {kvs : List (D × D)} {ps : List (Key × V)}, RelKs K F kvs ps → RelDs K F (kvs.map (·.1)) (ps.map fun p => kV p.1)
  | [], [], _ => by simp [RelDs]
  | (a, x) :: r, (i, v) :: s, h => by
    unfold RelKs at h
    simp only [List.map_cons]
    unfold RelDs
    refine ⟨?_, RelKs.keys h.2.2⟩
    have h1 := h.1
    cases a <;> simp only [RelKy] at h1
    · subst h1; unfold RelD; rfl
    · obtain ⟨rfl, ht⟩ := h1
      unfold RelD
      exact ⟨rfl, ht⟩
  | [], _ :: _, h => by unfold RelKs at h; exact h.elim
  | (_, _) :: _, [], h => by unfold RelKs at h; exact h.elim
/-- a key's value -/
theorem key_of_rel {k : D} {v : V} (h : RelD K F k v) (q : isKey k = true) : ∃ j, v = kV j ∧ RelKy k j := by
  cases k <;> simp [isKey] at q
  · unfold RelD at h; exact ⟨.inl _, h, rfl⟩
  · unfold RelD at h
    obtain ⟨rfl, ht⟩ := h
    exact ⟨.inr _, rfl, rfl, ht⟩
theorem RelD.top {x : D} {v : V} (e : Le F H) (h : RelD K F x v) : RelT K F H x v := by
  cases x <;> try exact h
  · unfold RelD at h
    obtain ⟨a, vs, h1, h2, h3, h4⟩ := h
    exact ⟨a, vs, h1, e.sql h2, h3, h4⟩
  · unfold RelD at h
    obtain ⟨a, od, ps, h1, h2, h3⟩ := h
    exact ⟨a, ps, h1, .inr ⟨od, e _ _ h2⟩, h3⟩
theorem RelT.all {x : D} {v : V} (e : Le F H) (h : RelT K F H x v) (nd : ∀ kvs, x ≠ .dct kvs) : RelD K H x v := by
  cases x with
  | lst xs =>
    obtain ⟨a, vs, h1, h2, h3, h4⟩ := h
    unfold RelD
    exact ⟨a, vs, h1, h2, h3.mono e, h4⟩
  | non => exact RelD.mono e h
  | bl b => exact RelD.mono e h
  | int b => exact RelD.mono e h
  | str b => exact RelD.mono e h
  | tup b => exact RelD.mono e h
  | dct b => exact absurd rfl (nd b)
  | ins b c => exact RelD.mono e h
theorem RelS.top {x : SV} {y : D} {v : V} {f : List Addr} (e : Le F H) (h : RelS K F H x v f) (q : rd x = some y) : RelT K F H y v := by
  cases x with
  | un => simp [rd, frz] at q
  | d z =>
    simp [rd, frz] at q
    subst q
    exact h.1.top e
  | lst xs =>
    simp [rd, frz] at q
    subst q
    obtain ⟨a, vs, h1, h2, h3, h4, h5⟩ := h
    exact ⟨a, vs, h1, .inl (.of h2), h3, h4⟩
  | dct kvs =>
    simp [rd] at q
    subst q
    obtain ⟨a, ps, h1, h2, h3, h4⟩ := h
    exact ⟨a, ps, h1, .of h2, h3⟩
  | ins _ _ => exact h.elim
/-- what is not its own may change -/
theorem RelS.frame {x : SV} {v : V} {f : List Addr} (h : RelS K F H x v f) (e : Le F F') (k : ∀ b ∈ f, ∀ o, H b = some o → H' b = some o) : RelS K F' H' x v f := by
  cases x with
  | un => exact h
  | d z => exact ⟨h.1.mono e, h.2⟩
  | lst xs =>
    obtain ⟨a, vs, h1, h2, h3, h4, rfl⟩ := h
    exact ⟨a, vs, h1, k a (by simp) _ h2, h3.mono e, h4, rfl⟩
  | dct kvs =>
    obtain ⟨a, ps, h1, h2, h3, rfl⟩ := h
    exact ⟨a, ps, h1, k a (by simp) _ h2, h3.mono e, rfl⟩
  | ins _ _ => exact h.elim
theorem RelS.own {x : SV} {v : V} {f : List Addr} (h : RelS K F H x v f) : ∀ b ∈ f, ∃ o, H b = some o ∧ Mut (some o) := by
  cases x with
  | un => have h : f = [] := h; subst h; intro b hb; cases hb
  | d z => obtain ⟨_, rfl⟩ := h; intro b hb; cases hb
  | lst xs =>
    obtain ⟨a, vs, h1, h2, h3, h4, rfl⟩ := h
    intro b hb
    have : b = a := by simpa using hb
    subst this
    exact ⟨_, h2, trivial⟩
  | dct kvs =>
    obtain ⟨a, ps, h1, h2, h3, rfl⟩ := h
    intro b hb
    have : b = a := by simpa using hb
    subst this
    exact ⟨_, h2, trivial⟩
  | ins _ _ => exact h.elim
theorem RelU.frame {x : SV} {o : Option V} {f : List Addr} (h : RelU K F H x o f) (e : Le F F') (k : ∀ b ∈ f, ∀ o, H b = some o → H' b = some o) : RelU K F' H' x o f := by
  cases x <;> cases o <;> first | exact h | exact RelS.frame (x := .d _) h e k | exact RelS.frame (x := .lst _) h e k | exact RelS.frame (x := .dct _) h e k | exact RelS.frame (x := .ins _ _) h e k
theorem RelU.own {x : SV} {o : Option V} {f : List Addr} (h : RelU K F H x o f) : ∀ b ∈ f, ∃ o, H b = some o ∧ Mut (some o) := by
  cases x <;> cases o <;> first | exact h.elim | exact RelS.own (x := .d _) h | exact RelS.own (x := .lst _) h | exact RelS.own (x := .dct _) h | exact RelS.own (x := .ins _ _) h | (have h : f = [] := h; subst h; intro b hb; cases hb)
theorem RelE.frame : ∀ {e : Env} {σ : L2.St} {fs : List (List Addr)}, RelE K F H e σ fs → Le F F' → (∀ b ∈ fs.flatten, ∀ o, H b = some o → H' b = some o) → RelE K F' H' e σ fs
  | [], [], [], _, _, _ => trivial
  | x :: e, o :: σ, f :: fs, h, l, k => ⟨RelU.frame h.1 l fun b hb => k b (by simp [hb]), RelE.frame h.2 l fun b hb => k b (by simp only [List.flatten_cons, List.mem_append]; exact .inr hb)⟩
  | [], [], _ :: _, h, _, _ => h.elim
  | [], _ :: _, _, h, _, _ => h.elim
  | _ :: _, [], _, h, _, _ => h.elim
  | _ :: _, _ :: _, [], h, _, _ => h.elim
theorem RelE.own : ∀ {e : Env} {σ : L2.St} {fs : List (List Addr)}, RelE K F H e σ fs → ∀ b ∈ fs.flatten, ∃ o, H b = some o ∧ Mut (some o)
  | [], [], [], _, _, hb => by simp at hb
  | x :: e, o :: σ, f :: fs, h, b, hb => by
    rw [List.flatten_cons, List.mem_append] at hb
    rcases hb with hb | hb
    · exact RelU.own h.1 b hb
    · exact RelE.own h.2 b hb
  | [], [], _ :: _, h, _, _ => h.elim
  | [], _ :: _, _, h, _, _ => h.elim
  | _ :: _, [], _, h, _, _ => h.elim
  | _ :: _, _ :: _, [], h, _, _ => h.elim
theorem RelE.len : ∀ {e : Env} {σ : L2.St} {fs : List (List Addr)}, RelE K F H e σ fs → e.length = σ.length ∧ fs.length = σ.length
  | [], [], [], _ => ⟨rfl, rfl⟩
  | x :: e, o :: σ, f :: fs, h => by
    have := RelE.len h.2
    simp [this.1, this.2]
  | [], [], _ :: _, h => h.elim
  | [], _ :: _, _, h => h.elim
  | _ :: _, [], _, h => h.elim
  | _ :: _, _ :: _, [], h => h.elim
theorem RelE.get : ∀ {e : Env} {σ : L2.St} {fs : List (List Addr)} {i : Nat} {x : SV}, RelE K F H e σ fs → e[i]? = some x → ∃ o f, σ[i]? = some o ∧ fs[i]? = some f ∧ RelU K F H x o f
  | [], [], [], _, _, _, q => by simp at q
  | x :: e, o :: σ, f :: fs, 0, y, h, q => by
    simp at q
    subst q
    exact ⟨o, f, rfl, rfl, h.1⟩
  | x :: e, o :: σ, f :: fs, i + 1, y, h, q => by
    simp at q
    obtain ⟨o', f', h1, h2, h3⟩ := RelE.get h.2 q
    exact ⟨o', f', by simpa using h1, by simpa using h2, h3⟩
  | [], [], _ :: _, _, _, h, _ => h.elim
  | [], _ :: _, _, _, _, h, _ => h.elim
  | _ :: _, [], _, _, _, h, _ => h.elim
  | _ :: _, _ :: _, [], _, _, h, _ => h.elim
theorem RelE.set : ∀ {e : Env} {σ : L2.St} {fs : List (List Addr)} (i : Nat) {x : SV} {o : Option V} {f : List Addr}, RelE K F H e σ fs → RelU K F H x o f → RelE K F H (e.set i x) (σ.set i o) (fs.set i f)
  | [], [], [], _, _, _, _, h, _ => h
  | _ :: e, _ :: σ, _ :: fs, 0, x, o, f, h, g => ⟨g, h.2⟩
  | _ :: e, _ :: σ, _ :: fs, i + 1, x, o, f, h, g => ⟨h.1, RelE.set i h.2 g⟩
  | [], [], _ :: _, _, _, _, _, h, _ => h.elim
  | [], _ :: _, _, _, _, _, _, h, _ => h.elim
  | _ :: _, [], _, _, _, _, _, h, _ => h.elim
  | _ :: _, _ :: _, [], _, _, _, _, h, _ => h.elim
end
end Ip
end

section
set_option linter.all false
set_option autoImplicit false
namespace Ip
open PySem PySem.Spec PyProof.Rows L2

/-! ### worlds: the part that never changes, the heap, the objects that each name holds -/
/-- the tables into which the code of the program's lambdas goes -/
class Tb where
  T : List (Addr × Str)
  /-- the code objects of the defs with lambdas, their tables -/
  cs : List (Addr × Addr)
  /-- the classes of exceptions, the attribute of each -/
  X : List (Addr × Str)
variable [Tb]
/-- no table: it stays as it is -/
def Nt (o : HO) : Prop := ∀ ps, o ≠ .tbl ps
theorem Nt.mut {o : HO} (h : Mut (some o)) : Nt o := fun ps e => by subst e; exact h
/-- nothing, or a table -/
def Vac (H : Hp) (b : Addr) : Prop := ∀ o, H b = some o → ¬ Nt o
theorem Vac.of {H : Hp} {b : Addr} (h : H b = none) : Vac H b := fun o z => by rw [h] at z; cases z
theorem Vac.no {H : Hp} {b : Addr} {o : HO} (v : Vac H b) (h : H b = some o) (t : Nt o) : False := v o h t
/-- a list, a dict -/
def Pl : HO → Prop
  | .lst _ => True
  | .dK _ => True
  | _ => False
theorem tabs_upd {T : List (Addr × Str)} {H : Hp} {D : Addr} {o o' : HO} (h : H D = some o) (p : Pl o) (t : LamX.Tabs T H) : LamX.Tabs T (upd H D o') := fun q hq => by
  obtain ⟨ps, h1, h2, h3⟩ := t q hq
  have n1 : q.1 ≠ D := fun z => by rw [z, h] at h1; cases h1; exact p
  refine ⟨ps, by rw [upd_ne n1]; exact h1, h2, fun pos cv hc => ?_⟩
  obtain ⟨c, e1, e2⟩ := h3 pos cv hc
  have n2 : c ≠ D := fun z => by rw [z, h] at e2; cases e2; exact p
  exact ⟨c, e1, by rw [upd_ne n2]; exact e2⟩
structure Wld where
  F : Hp
  H : Hp
  fs : List (List Addr)
structure Ok (K : PySem.W.Frag) (e : Env) (σ : L2.St) (w : Wld) : Prop where
  le : Le w.F w.H
  rel : RelE K w.F w.H e σ w.fs
  nd : w.fs.flatten.Nodup
  out : ∀ b ∈ w.fs.flatten, w.F b = none
  fnt : ∀ b o, w.F b = some o → Nt o
  tab : LamX.Tabs Tb.T w.H
/-- from a world to another, with objects f that no name holds yet -/
structure Go (w w' : Wld) (f : List Addr) : Prop where
  keep : ∀ b o, w.H b = some o → Nt o → b ∉ w.fs.flatten → w'.H b = some o
  new : ∀ b, b ∈ f ∨ b ∈ w'.fs.flatten → b ∈ w.fs.flatten ∨ Vac w.H b
  le : Le w.F w'.F
  frz : ∀ b o, w'.F b = some o → (∃ o', w.F b = some o') ∨ b ∈ w.fs.flatten ∨ Vac w.H b
structure Sep (w : Wld) (f : List Addr) : Prop where
  nd : f.Nodup
  dis : ∀ b ∈ f, b ∉ w.fs.flatten
  out : ∀ b ∈ f, w.F b = none
  own : ∀ b ∈ f, ∃ o, w.H b = some o ∧ Mut (some o)
theorem Sep.nil {w : Wld} : Sep w [] := ⟨.nil, (fun _ h => nomatch h), (fun _ h => nomatch h), (fun _ h => nomatch h)⟩
theorem upd_cases {F : Hp} {a b : Addr} {o o' : HO} (h : upd F a o b = some o') : (b = a ∧ o' = o) ∨ (b ≠ a ∧ F b = some o') := by
  by_cases e : b = a
  · subst e; rw [upd_same] at h; cases h; exact .inl ⟨rfl, rfl⟩
  · rw [upd_ne e] at h; exact .inr ⟨e, h⟩
theorem upd_none {F : Hp} {a b : Addr} {o : HO} (h : F b = none) (n : b ≠ a) : upd F a o b = none := by rw [upd_ne n]; exact h
theorem upd_some {F : Hp} {a b : Addr} {o o' : HO} (h : F b = some o') (n : F a = none) : upd F a o b = some o' := by rw [upd_ne (ne_of_none h n)]; exact h
theorem upd_non {F : Hp} {a b : Addr} {o : HO} (h : upd F a o b = none) : F b = none := by
  by_cases e : b = a
  · subst e; rw [upd_same] at h; cases h
  · rw [upd_ne e] at h; exact h
theorem upd_le {F : Hp} {a : Addr} {o : HO} (n : F a = none) : Le F (upd F a o) := fun _ _ z => upd_some z n
theorem upd_le2 {F H : Hp} {a : Addr} {o : HO} (h : Le F H) (n : H a = some o) : Le (upd F a o) H := fun b o' z => by
  rcases upd_cases z with ⟨rfl, rfl⟩ | ⟨_, z⟩
  · exact n
  · exact h b o' z
theorem upd_both {F H : Hp} {a : Addr} {o : HO} (h : Le F H) : Le (upd F a o) (upd H a o) := fun b o' z => by
  rcases upd_cases z with ⟨rfl, rfl⟩ | ⟨n, z⟩
  · exact upd_same
  · rw [upd_ne n]; exact h b o' z
theorem Le.none {F H : Hp} {a : Addr} (h : Le F H) (n : H a = Option.none) : F a = Option.none := by
  cases q : F a with
  | none => rfl
  | some o => rw [h a o q] at n; cases n
theorem Sep.left {w : Wld} {f g : List Addr} (s : Sep w (f ++ g)) : Sep w f :=
  ⟨(List.nodup_append.mp s.nd).1, fun b h => s.dis b (by simp [h]), fun b h => s.out b (by simp [h]), fun b h => s.own b (by simp [h])⟩
theorem Sep.right {w : Wld} {f g : List Addr} (s : Sep w (f ++ g)) : Sep w g :=
  ⟨(List.nodup_append.mp s.nd).2.1, fun b h => s.dis b (by simp [h]), fun b h => s.out b (by simp [h]), fun b h => s.own b (by simp [h])⟩
theorem Go.refl {w : Wld} : Go w w [] := ⟨fun _ _ h _ _ => h, fun _ h => .inl (h.elim (fun z => nomatch z) id), .refl _, fun _ o h => .inl ⟨o, h⟩⟩
theorem Go.sub {w w' : Wld} {f g : List Addr} (h : Go w w' f) (s : ∀ b ∈ g, b ∈ f) : Go w w' g := ⟨h.keep, fun b z => h.new b (z.imp (s b) id), h.le, h.frz⟩
theorem Go.vac {w w' : Wld} {f : List Addr} (a : Go w w' f) {c : Addr} (z : Vac w'.H c) (n : c ∉ w.fs.flatten) : Vac w.H c := fun o h t => z.no (a.keep c o h t n) t
theorem Go.trans {w w1 w2 : Wld} {f g : List Addr} (a : Go w w1 f) (b : Go w1 w2 g) : Go w w2 (f ++ g) where
  keep := fun c o h t n => by
    refine b.keep c o (a.keep c o h t n) t fun z => ?_
    rcases a.new c (.inr z) with q | q
    · exact n q
    · exact q.no h t
  new := fun c h => by
    have key : c ∈ w1.fs.flatten ∨ Vac w1.H c → c ∈ w.fs.flatten ∨ Vac w.H c := fun z => by
      rcases z with z | z
      · exact a.new c (.inr z)
      · by_cases n : c ∈ w.fs.flatten
        · exact .inl n
        · exact .inr (a.vac z n)
    rcases h with h | h
    · rw [List.mem_append] at h
      rcases h with h | h
      · exact a.new c (.inl h)
      · exact key (b.new c (.inl h))
    · exact key (b.new c (.inr h))
  le := a.le.trans b.le
  frz := fun c o h => by
    rcases b.frz c o h with ⟨o', z⟩ | z | z
    · exact a.frz c o' z
    · exact .inr (a.new c (.inr z))
    · by_cases n : c ∈ w.fs.flatten
      · exact .inr (.inl n)
      · exact .inr (.inr (a.vac z n))
/-- what waits stands apart from what comes -/
theorem Sep.go {w w' : Wld} {f g : List Addr} (s : Sep w f) (h : Go w w' g) (sg : Sep w' g) : Sep w' (f ++ g) := by
  have key : ∀ b ∈ f, b ∈ g ∨ b ∈ w'.fs.flatten → False := fun b hb z => by
    obtain ⟨o, ho, m⟩ := s.own b hb
    rcases h.new b z with q | q
    · exact s.dis b hb q
    · exact q.no ho (.mut m)
  refine ⟨List.nodup_append.mpr ⟨s.nd, sg.nd, fun a ha b hb e => key a ha (.inl (e ▸ hb))⟩, fun b hb => ?_, fun b hb => ?_, fun b hb => ?_⟩
  · rcases List.mem_append.mp hb with hb | hb
    · exact fun z => key b hb (.inr z)
    · exact sg.dis b hb
  · rcases List.mem_append.mp hb with hb | hb
    · cases q : w'.F b with
      | none => rfl
      | some o =>
        exfalso
        obtain ⟨o1, ho, m⟩ := s.own b hb
        rcases h.frz b o q with ⟨o', z⟩ | z | z
        · rw [s.out b hb] at z; cases z
        · exact s.dis b hb z
        · exact z.no ho (.mut m)
    · exact sg.out b hb
  · rcases List.mem_append.mp hb with hb | hb
    · obtain ⟨o, ho, m⟩ := s.own b hb
      exact ⟨o, h.keep b o ho (.mut m) (s.dis b hb), m⟩
    · exact sg.own b hb

/-! ### lists of lists -/
theorem mem_setF : ∀ {fs : List (List Addr)} {i : Nat} {f g : List Addr} {b : Addr}, fs[i]? = some f → b ∈ (fs.set i g).flatten → b ∈ g ∨ b ∈ fs.flatten
  | [], _, _, _, _, e, _ => by simp at e
  | h :: fs, 0, f, g, b, e, m => by
    simp only [List.set_cons_zero, List.flatten_cons, List.mem_append] at m ⊢
    rcases m with m | m
    · exact .inl m
    · exact .inr (.inr m)
  | h :: fs, i + 1, f, g, b, e, m => by
    simp only [List.set_cons_succ, List.flatten_cons, List.mem_append] at m ⊢
    rcases m with m | m
    · exact .inr (.inl m)
    · rcases mem_setF (f := f) (by simpa using e) m with q | q
      · exact .inl q
      · exact .inr (.inr q)
theorem mem_ofF : ∀ {fs : List (List Addr)} {i : Nat} {f : List Addr} {b : Addr}, fs[i]? = some f → b ∈ f → b ∈ fs.flatten := fun e h =>
  List.mem_flatten.mpr ⟨_, List.mem_of_getElem? e, h⟩
theorem mem_setF' : ∀ {fs : List (List Addr)} {i : Nat} {f g : List Addr} {b : Addr}, fs[i]? = some f → b ∈ g → b ∈ (fs.set i g).flatten := fun {fs i f g b} e h => by
  refine mem_ofF (i := i) (f := g) ?_ h
  obtain ⟨hi, _⟩ := List.getElem?_eq_some_iff.mp e
  rw [List.getElem?_set_self hi]
/-- in a set list of lists without doubles what stood there is gone -/
theorem nd_setF : ∀ {fs : List (List Addr)} {i : Nat} {f g : List Addr}, fs.flatten.Nodup → fs[i]? = some f → g.Nodup → (∀ b ∈ g, b ∈ f ∨ b ∉ fs.flatten) → (fs.set i g).flatten.Nodup
  | [], _, _, _, _, e, _, _ => by simp at e
  | h :: fs, 0, f, g, nd, e, ng, k => by
    have e : h = f := by simpa using e
    subst e
    simp only [List.set_cons_zero, List.flatten_cons] at nd k ⊢
    obtain ⟨n1, n2, n3⟩ := List.nodup_append.mp nd
    refine List.nodup_append.mpr ⟨ng, n2, fun a ha b hb q => ?_⟩
    subst q
    rcases k a ha with z | z
    · exact n3 a z a hb rfl
    · exact z (List.mem_append.mpr (.inr hb))
  | h :: fs, i + 1, f, g, nd, e, ng, k => by
    simp only [List.set_cons_succ, List.flatten_cons] at nd k ⊢
    obtain ⟨n1, n2, n3⟩ := List.nodup_append.mp nd
    have e : fs[i]? = some f := by simpa using e
    refine List.nodup_append.mpr ⟨n1, nd_setF n2 e ng fun b hb => ?_, fun a ha b hb q => ?_⟩
    · rcases k b hb with z | z
      · exact .inl z
      · exact .inr fun y => z (List.mem_append.mpr (.inr y))
    · subst q
      rcases mem_setF e hb with z | z
      · rcases k a z with y | y
        · exact n3 a ha a (mem_ofF e y) rfl
        · exact y (List.mem_append.mpr (.inl ha))
      · exact n3 a ha a z rfl
theorem gone_setF : ∀ {fs : List (List Addr)} {i : Nat} {f g : List Addr} {b : Addr}, fs.flatten.Nodup → fs[i]? = some f → b ∈ f → b ∈ (fs.set i g).flatten → b ∈ g
  | [], _, _, _, _, _, e, _, _ => by simp at e
  | h :: fs, 0, f, g, b, nd, e, hb, m => by
    have e : h = f := by simpa using e
    subst e
    simp only [List.set_cons_zero, List.flatten_cons, List.mem_append] at nd m
    rcases m with m | m
    · exact m
    · exact absurd rfl ((List.nodup_append.mp nd).2.2 b hb b m)
  | h :: fs, i + 1, f, g, b, nd, e, hb, m => by
    simp only [List.set_cons_succ, List.flatten_cons, List.mem_append] at nd m
    obtain ⟨n1, n2, n3⟩ := List.nodup_append.mp nd
    have e : fs[i]? = some f := by simpa using e
    rcases m with m | m
    · exact absurd rfl (n3 b m b (mem_ofF e hb))
    · exact gone_setF n2 e hb m

/-! ### values -/
def RelW (K : PySem.W.Frag) (σ : L2.St) (w : Wld) : W → V → List Addr → Prop
  | .v x, v, f => RelS K w.F w.H x v f ∧ x ≠ .un
  | .r i none, v, f => σ[i]? = some (some v) ∧ f = []
  | .r _ (some _), _, _ => False
section
variable {K : PySem.W.Frag} {e e' : Env} {σ : L2.St} {w w' w0 : Wld} {x : W} {v : V} {f g : List Addr} {y : D}
theorem RelW.own (h : RelW K σ w x v f) : ∀ b ∈ f, ∃ o, w.H b = some o ∧ Mut (some o) := by
  cases x with
  | v x => exact fun b hb => h.1.own b hb
  | r i p =>
    cases p with
    | none => obtain ⟨_, rfl⟩ := h; intro b hb; cases hb
    | some _ => exact h.elim
/-- .. where nothing of its own was written -/
theorem RelW.ext (h : RelW K σ w x v f) (q : Le w.F w'.F) (k : ∀ b ∈ f, ∀ o, w.H b = some o → w'.H b = some o) : RelW K σ w' x v f := by
  cases x with
  | v x => exact ⟨h.1.frame q k, h.2⟩
  | r i p =>
    cases p with
    | none => exact h
    | some _ => exact h.elim
theorem Sep.nt {w : Wld} {f : List Addr} (s : Sep w f) {b : Addr} {o : HO} (hb : b ∈ f) (ho : w.H b = some o) : Nt o := by
  obtain ⟨o1, h1, m⟩ := s.own b hb
  rw [ho] at h1
  cases h1
  exact .mut m
theorem RelW.go (h : RelW K σ w x v f) (s : Sep w f) (q : Go w w' g) : RelW K σ w' x v f := h.ext q.le fun b hb o ho => q.keep b o ho (by
  obtain ⟨o1, h1, m⟩ := s.own b hb
  rw [ho] at h1
  cases h1
  exact .mut m) (s.dis b hb)
theorem Ok.slot (ok : Ok K e σ w) {i : Nat} {s : SV} (q : e[i]? = some s) (hv : σ[i]? = some (some v)) (hs : s ≠ .un) : ∃ f, w.fs[i]? = some f ∧ RelS K w.F w.H s v f := by
  obtain ⟨o, f, h1, h2, h3⟩ := ok.rel.get q
  rw [hv] at h1
  cases h1
  refine ⟨f, h2, ?_⟩
  cases s <;> first | exact absurd rfl hs | exact h3
theorem see_ok (ok : Ok K e σ w) (h : RelW K σ w x v f) (q : see e x = some y) : RelT K w.F w.H y v := by
  cases x with
  | v x => exact h.1.top ok.le q
  | r i p =>
    cases p with
    | some _ => exact h.elim
    | none =>
      have q : rd (getP e i none) = some y := q
      unfold getP at q
      cases hq : e[i]? with
      | none => rw [hq] at q; simp [rd, frz] at q
      | some s =>
        rw [hq] at q
        have hs : s ≠ .un := fun z => by subst z; simp [rd, frz] at q
        obtain ⟨f', h1, h2⟩ := ok.slot hq h.1 hs
        exact h2.top ok.le q
theorem getP_set {i : Nat} {s : SV} (q : e[i]? = some s) : e.set i s = e := by
  obtain ⟨hi, hx⟩ := List.getElem?_eq_some_iff.mp q
  rw [← hx]; exact List.set_getElem_self hi
theorem st_set {σ : L2.St} {i : Nat} {s : Option V} (q : σ[i]? = some s) : σ.set i s = σ := by
  obtain ⟨hi, hx⟩ := List.getElem?_eq_some_iff.mp q
  rw [← hx]; exact List.set_getElem_self hi
/-- an object that waits, or that a name holds, never changes from now on -/
theorem take_ok (ok : Ok K e σ w) (h : RelW K σ w x v f) (go : Go w0 w (f ++ g)) (sp : Sep w (f ++ g)) (q : Ip.take e x = some (y, e')) :
    ∃ w', w'.H = w.H ∧ Ok K e' σ w' ∧ RelD K w'.F y v ∧ Go w0 w' g ∧ Sep w' g ∧ Le w.F w'.F := by
  cases x with
  | v x =>
    cases x with
    | un => exact absurd rfl h.2
    | d z =>
      simp [Ip.take, frz] at q
      obtain ⟨rfl, rfl⟩ := q
      exact ⟨w, rfl, ok, h.1.1, go.sub (by simp +contextual), sp.right, .refl _⟩
    | lst xs =>
      simp [Ip.take, frz] at q
      obtain ⟨rfl, rfl⟩ := q
      obtain ⟨⟨a, vs, h1, h2, h3, h4, rfl⟩, _⟩ := h
      have ha : a ∉ w.fs.flatten := sp.dis a (by simp)
      have hF : w.F a = none := sp.out a (by simp)
      have le : Le w.F (upd w.F a (.lst vs)) := upd_le hF
      have nag : a ∉ g := fun z => (List.nodup_append.mp sp.nd).2.2 a (by simp) a z rfl
      refine ⟨⟨upd w.F a (.lst vs), w.H, w.fs⟩, rfl, ⟨upd_le2 ok.le h2, ok.rel.frame le fun _ _ _ z => z, ok.nd, fun b hb => upd_none (ok.out b hb) ?_, fun b o z => (upd_cases z).elim (fun y => by rw [y.2]; exact fun _ z => nomatch z) fun y => ok.fnt b o y.2, ok.tab⟩, ?_, ⟨go.keep, fun b z => go.new b (z.imp (fun y => by simp [y]) id), go.le.trans le, fun b o z => ?_⟩, ⟨sp.right.nd, sp.right.dis, fun b hb => upd_none (sp.right.out b hb) ?_, sp.right.own⟩, le⟩
      · rintro rfl; exact ha hb
      · unfold RelD
        exact ⟨a, vs, h1, .inl (.of upd_same), h3.mono le, h4⟩
      · rcases upd_cases z with ⟨rfl, rfl⟩ | ⟨_, z⟩
        · exact .inr (go.new b (.inl (by simp)))
        · exact go.frz b o z
      · rintro rfl; exact nag hb
    | dct _ => simp [Ip.take, frz] at q
    | ins _ _ => exact h.1.elim
  | r i p =>
    cases p with
    | some _ => exact h.elim
    | none =>
      obtain ⟨hv, rfl⟩ := h
      have q : (frz (getP e i none)).map (fun y => (y, e.set i (.d y))) = some (y, e') := q
      unfold getP at q
      cases hq : e[i]? with
      | none => rw [hq] at q; simp [frz] at q
      | some s =>
        rw [hq] at q
        have hs : s ≠ .un := fun z => by subst z; simp [frz] at q
        obtain ⟨f', h1, h2⟩ := ok.slot hq hv hs
        cases s with
        | un => exact absurd rfl hs
        | d z =>
          simp [frz] at q
          obtain ⟨rfl, rfl⟩ := q
          rw [getP_set hq]
          exact ⟨w, rfl, ok, h2.1, go.sub (by simp +contextual), sp.right, .refl _⟩
        | lst xs =>
          simp [frz] at q
          obtain ⟨rfl, rfl⟩ := q
          obtain ⟨a, vs, e1, e2, e3, e4, rfl⟩ := h2
          have ha : a ∈ w.fs.flatten := mem_ofF h1 (by simp)
          have hF : w.F a = none := ok.out a ha
          have le : Le w.F (upd w.F a (.lst vs)) := upd_le hF
          have rd : RelD K (upd w.F a (.lst vs)) (.lst xs) v := by
            unfold RelD
            exact ⟨a, vs, e1, .inl (.of upd_same), e3.mono le, e4⟩
          have nag : a ∉ g := fun z => sp.right.dis a z ha
          refine ⟨⟨upd w.F a (.lst vs), w.H, w.fs.set i []⟩, rfl, ⟨upd_le2 ok.le e2, ?_, nd_setF ok.nd h1 .nil (fun _ h => nomatch h), fun b hb => ?_, fun b o z => (upd_cases z).elim (fun y => by rw [y.2]; exact fun _ z => nomatch z) fun y => ok.fnt b o y.2, ok.tab⟩, rd, ⟨go.keep, fun b z => ?_, go.le.trans le, fun b o z => ?_⟩, ⟨sp.right.nd, fun b hb z => ?_, fun b hb => upd_none (sp.right.out b hb) ?_, sp.right.own⟩, le⟩
          · have r1 := (ok.rel.frame le fun _ _ _ z => z).set i (x := .d (.lst xs)) (o := some v) (f := []) ⟨rd, rfl⟩
            rw [st_set hv] at r1
            exact r1
          · rcases mem_setF h1 hb with z | z
            · cases z
            · refine upd_none (ok.out b z) ?_
              rintro rfl
              have := gone_setF ok.nd h1 (by simp) hb
              cases this
          · rcases z with z | z
            · exact go.new b (.inl (by simp [z]))
            · rcases mem_setF h1 z with y | y
              · cases y
              · exact go.new b (.inr y)
          · rcases upd_cases z with ⟨rfl, rfl⟩ | ⟨_, z⟩
            · exact .inr (go.new b (.inr ha))
            · exact go.frz b o z
          · rcases mem_setF h1 z with y | y
            · cases y
            · exact sp.right.dis b hb y
          · rintro rfl; exact nag hb
        | dct _ => simp [frz] at q
        | ins _ _ => exact h2.elim
/-! ### new objects -/
theorem Go.fresh {p : Addr} (go : Go w0 w f) (np : w.H p = none) : p ∈ w0.fs.flatten ∨ Vac w0.H p := by
  by_cases n : p ∈ w0.fs.flatten
  · exact .inl n
  · exact .inr (go.vac (.of np) n)
theorem Go.newF {p : Addr} {o : HO} (go : Go w0 w f) (np : w.H p = none) (ok : Le w.F w.H) : Go w0 ⟨upd w.F p o, upd w.H p o, w.fs⟩ f :=
  ⟨fun b o' h t n => upd_some (go.keep b o' h t n) np, go.new, go.le.trans (upd_le (ok.none np)), (fun b o' z => by
    rcases upd_cases z with ⟨rfl, rfl⟩ | ⟨_, z⟩
    · exact .inr (go.fresh np)
    · exact go.frz b o' z)⟩
theorem Go.newH {p : Addr} {o : HO} (go : Go w0 w f) (np : w.H p = none) : Go w0 ⟨w.F, upd w.H p o, w.fs⟩ (p :: f) :=
  ⟨fun b o' h t n => upd_some (go.keep b o' h t n) np, (fun b z => by
    rcases z with z | z
    · rcases List.mem_cons.mp z with rfl | z
      · exact go.fresh np
      · exact go.new b (.inl z)
    · exact go.new b (.inr z)), go.le, go.frz⟩
theorem Ok.newF {p : Addr} {o : HO} (ok : Ok K e σ w) (np : w.H p = none) (nt : Nt o := by exact fun _ z => nomatch z) : Ok K e σ ⟨upd w.F p o, upd w.H p o, w.fs⟩ :=
  ⟨upd_both ok.le, ok.rel.frame (upd_le (ok.le.none np)) (fun b hb o' z => upd_some z np), ok.nd, fun b hb => upd_none (ok.out b hb) (by
    obtain ⟨o', ho, _⟩ := ok.rel.own b hb
    exact ne_of_none ho np), fun b o' z => (upd_cases z).elim (fun y => by rw [y.2]; exact nt) fun y => ok.fnt b o' y.2, ok.tab.ext fun b o' z => upd_some z np⟩
theorem Ok.newH {p : Addr} {o : HO} (ok : Ok K e σ w) (np : w.H p = none) : Ok K e σ ⟨w.F, upd w.H p o, w.fs⟩ :=
  ⟨fun b o' z => upd_some (ok.le b o' z) np, ok.rel.frame (.refl _) (fun b hb o' z => upd_some z np), ok.nd, ok.out, ok.fnt, ok.tab.ext fun b o' z => upd_some z np⟩
theorem Sep.newH {p : Addr} {o : HO} (sp : Sep w f) (ok : Ok K e σ w) (np : w.H p = none) (mu : Mut (some o) := by trivial) : Sep ⟨w.F, upd w.H p o, w.fs⟩ (p :: f) := by
  have pf : p ∉ f := fun z => by obtain ⟨o, ho, _⟩ := sp.own p z; rw [np] at ho; cases ho
  refine ⟨List.nodup_cons.mpr ⟨pf, sp.nd⟩, fun b hb => ?_, fun b hb => ?_, fun b hb => ?_⟩
  · rcases List.mem_cons.mp hb with rfl | hb
    · exact fun z => by obtain ⟨o', ho, _⟩ := ok.rel.own b z; rw [np] at ho; cases ho
    · exact sp.dis b hb
  · rcases List.mem_cons.mp hb with rfl | hb
    · exact ok.le.none np
    · exact sp.out b hb
  · rcases List.mem_cons.mp hb with rfl | hb
    · exact ⟨o, upd_same, mu⟩
    · obtain ⟨o', ho, m⟩ := sp.own b hb
      exact ⟨o', upd_some ho np, m⟩
theorem Sep.newF {p : Addr} {o : HO} (sp : Sep w f) (np : w.H p = none) : Sep ⟨upd w.F p o, upd w.H p o, w.fs⟩ f :=
  ⟨sp.nd, sp.dis, fun b hb => by
    obtain ⟨o', ho, _⟩ := sp.own b hb
    exact upd_none (sp.out b hb) (ne_of_none ho np), fun b hb => by
    obtain ⟨o', ho, m⟩ := sp.own b hb
    exact ⟨o', upd_some ho np, m⟩⟩
end
end Ip
end

section
set_option linter.all false
set_option autoImplicit false
set_option maxHeartbeats 1000000
namespace Ip
open PySem PySem.Spec PyProof.Rows L2
variable [Tb]

/-- what is wanted of an operation's value z -/
structure Fin (K : PySem.W.Frag) (F H : Hp) (z : SV) (Q : VK) : Prop where
  le : Le F H
  val : ∀ x v, z = .d x → RelD K F x v → Q v H
  tup : ∀ xs vs p, z = .d (.tup xs) → RelDs K F xs vs → xs.length ≤ sizeLine → H p = none → Q (.ref p) (upd H p (.tup vs))
  lst : ∀ xs vs p, z = .lst xs → RelDs K F xs vs → xs.length ≤ sizeLine → H p = none → Q (.ref p) (upd H p (.lst vs))
section
variable {K : PySem.W.Frag} {F H : Hp} {Q : VK}
theorem Fin.int {i : Int} (f : Fin K F H (.d (.int i)) Q) : Q (.int i) H := f.val _ _ rfl (by unfold RelD; rfl)
theorem Fin.bl {b : Bool} (f : Fin K F H (.d (.bl b)) Q) : Q (.bl b) H := f.val _ _ rfl (by unfold RelD; rfl)
theorem Fin.non (f : Fin K F H (.d .non) Q) : Q .non H := f.val _ _ rfl (by unfold RelD; rfl)
theorem Fin.str {x : List Nat} (f : Fin K F H (.d (.str x)) Q) (h : TxtOk x) : Q (.str (txt x)) H := f.val _ _ rfl (by unfold RelD; exact ⟨rfl, h⟩)
end
theorem line1m {n : Nat} (h : n ≤ 1000000) : n ≤ sizeLine := Nat.le_trans h (by rw [sizeLine_eq]; decide)
theorem txt_app (x y : List Nat) : txt x ++ txt y = txt (x ++ y) := by
  show Str.append (txt x) (txt y) = _
  unfold Str.append txt
  simp
theorem txt_len (x : List Nat) : (txt x).length = x.length := by
  show (txt x).cps.size = _
  simp [txt]
section
variable {X : Cx}
/-- two lists, each of which may be one that is locked -/
def rCatR (K : PySem.W.Frag) : R2 := fun x y H Q => ∃ l b xs zs, x = .ref l ∧ y = .ref b ∧ SqL K H l xs ∧ SqL K H b zs ∧ xs.length + zs.length ≤ sizeLine ∧ ∀ p, H p = none → Q (.ref p) (upd H p (.lst (xs ++ zs)))
theorem op_catR : OpR X (binaryOp .Add) (rCatR X.K) := by
  intro pins s σ H x y v u Q I rx ry h
  obtain ⟨l, b, xs, zs, rfl, rfl, hH, hB, hz, q⟩ := h
  cases rx
  cases ry
  obtain ⟨its, r, ⟨o, n, e, c1, c2, c3⟩, z⟩ := I.list hH
  obtain ⟨its2, r2, ⟨o2, n2, e2, d1, d2, d3⟩, z2⟩ := I.list hB
  obtain ⟨oc, od, dt, sl⟩ := o
  obtain ⟨oc2, od2, dt2, sl2⟩ := o2
  simp only at c1 c2 c3 d1 d2 d3
  subst c1 c2 c3 d1 d2 d3
  have hl := r.length
  have hl2 := r2.length
  refine concat_meets ⟨_, e, rfl⟩ ⟨_, e2, rfl⟩ noFill_list_add seq_list_add PySem.F.slot_list_add PySem.F.entry_list_add (PySem.F.args_list_add_2 _ _) (PyProof.Rows.list_addW l b its.toArray its2.toArray n n2 none none sl sl2 (by simp only [List.size_toArray]; omega)) ⟨e, e2, ?_⟩
  rw [show its.toArray ++ its2.toArray = (its ++ its2).toArray by simp]
  exact ⟨.ref _, _, I.lnew (t' := s.toks) (r.append r2) (by rw [List.length_append]; omega), rfl, q _ I.fresh⟩
def rRepR (K : PySem.W.Frag) : R2 := fun x y H Q => ∃ l k xs, x = .ref l ∧ y = .int k ∧ SqL K H l xs ∧ -(2 ^ 63) ≤ k ∧ k < 2 ^ 63 ∧ xs.length * k.toNat ≤ sizeLine ∧
  ∀ p, H p = none → Q (.ref p) (upd H p (.lst (List.replicate k.toNat xs).flatten))
theorem op_repR : OpR X (binaryOp .Mult) (rRepR X.K) := by
  intro pins s σ H x y v u Q I rx ry h
  obtain ⟨l, k, xs, rfl, rfl, hH, h1, h2, hz, q⟩ := h
  cases rx
  obtain ⟨t, rfl⟩ := ry
  obtain ⟨its, r, ⟨o, n, e, c1, c2, c3⟩, z⟩ := I.list hH
  obtain ⟨oc, od, dt, sl⟩ := o
  simp only at c1 c2 c3
  subst c1 c2 c3
  have hl := r.length
  have hlen : its.toArray.size * k.toNat ≤ sizeLine := by rw [List.size_toArray, ← hl]; exact hz
  have hcap : ¬ its.toArray.size * k.toNat > (2 ^ 63 - 1) / 8 := by
    have : (sizeLine : Nat) ≤ (2 ^ 63 - 1) / 8 := by decide
    omega
  have hfit : ¬ (!Builtin.List.listFitsIndex k) = true := by
    rw [fitsIndex_both h1 h2]; simp
  have hlong : ¬ Builtin.List.listTooLong (its.toArray.size * k.toNat) = true := by
    rw [notLongL hlen]; simp
  have f0 : ∀ m : Nat, List.foldl (fun x1 x2 => x1 ++ x2) #[] (List.replicate m its.toArray) = (List.replicate m its).flatten.toArray := fun m => by
    have z := foldl_rep its m []
    rwa [List.nil_append] at z
  have hnew : List.foldl (fun x1 x2 => x1 ++ x2) #[] (List.replicate (if its.toArray.isEmpty = true then 0 else k.toNat) its.toArray) = (List.replicate k.toNat its).flatten.toArray := by
    rw [f0]
    cases its with
    | nil => simp
    | cons a r' => rw [if_neg (by simp)]
  refine wpAny_binaryOp_repeat_ref (T := "list") (U := "int") (by decide) ⟨_, e, rfl⟩ (fun s' => typeIs_int s' k t) noFill_list_mul F.fills_int_mul F.slot_int_rmul repeat_list F.slot_int_index.lookup
    (call_meets F.slot_int_rmul (typeIs_int s k t) F.entry_int_rmul (F.args_int_rmul_2 _ _) (lm_int_rmul_list_any k t l its.toArray n none sl)
      ⟨e, rfl, ⟨_, e, rfl⟩, call_meets F.slot_list_mul ⟨_, e, rfl⟩ F.entry_list_mul (F.args_list_mul_2 _ _) (lm_list_mul_any l its.toArray n none sl k t hfit hcap hlong) ⟨e, ?_⟩⟩)
  rw [hnew]
  exact ⟨.ref _, _, I.lnew (t' := s.toks) (r.rep k.toNat) (by rw [PyProof.Rows.lm_len_rep_flat, Nat.mul_comm]; exact hz), rfl, q _ I.fresh⟩
theorem OpR.or2 {f : Value → Value → Sem Value} {r r' : R2} (h : OpR X f r) (h' : OpR X f r') : OpR X f (fun x y H Q => r x y H Q ∨ r' x y H Q) := by
  intro pins s σ H x y v u Q I rx ry q
  rcases q with q | q
  · exact h pins s σ H x y v u Q I rx ry q
  · exact h' pins s σ H x y v u Q I rx ry q
end
def oper : BOp → Operator
  | .add => .Add | .sub => .Sub | .mul => .Mult | .fdiv => .FloorDiv | .mod => .Mod | .pow => .Pow | .shl => .LShift | .shr => .RShift | .band => .BitAnd | .bor => .BitOr
def rBin (K : PySem.W.Frag) : BOp → R2
  | .add => fun x y H Q => (rI0 (fun i j => .int (i + j)) x y H Q ∨ (∃ i j, x = .str i ∧ y = .str j ∧ i.length + j.length ≤ sizeLine ∧ Q (.str (i ++ j)) H)) ∨ (rCatA K x y H Q ∨ rCatR K x y H Q)
  | .sub => rI0 fun i j => .int (i - j)
  | .mul => fun x y H Q => rI CMul (fun i j => .int (i * j)) x y H Q ∨ (rRepR K x y H Q ∨ rRepT K x y H Q)
  | .fdiv => rI CDiv fun i j => .int (i / j)
  | .mod => rI (fun _ j => 0 < j) fun i j => .int (i % j)
  | .pow => rI CPow fun i j => .int (i ^ j.toNat)
  | .shl => rI CPow fun i j => .int (i * 2 ^ j.toNat)
  | .shr => rI (fun _ j => 0 ≤ j) fun i j => .int (i / 2 ^ j.toNat)
  | .band => rI0 fun i j => .int (Builtin.bitAnd i j)
  | .bor => rI0 fun i j => .int (Builtin.bitOr i j)
theorem bin_op {X : Cx} : ∀ op : BOp, OpR X (binaryOp (oper op)) (rBin X.K op)
  | .add => OpR.or2 (OpR.or2 op_add op_add_str) (OpR.or2 op_catA op_catR)
  | .sub => op_sub
  | .mul => OpR.or2 op_mul (OpR.or2 op_repR op_repT)
  | .fdiv => op_fdiv
  | .mod => op_mod
  | .pow => op_pow
  | .shl => op_shl
  | .shr => op_shr
  | .band => op_and
  | .bor => op_or
section
variable {K : PySem.W.Frag} {F H : Hp} {Q : VK}
theorem RelDs.rep {xs : List D} {vs : List V} (h : RelDs K F xs vs) : ∀ n : Nat, RelDs K F (List.replicate n xs).flatten (List.replicate n vs).flatten
  | 0 => by simp [RelDs]
  | n + 1 => by
    simp only [List.replicate_succ, List.flatten_cons]
    exact h.append (RelDs.rep h n)
theorem RelT.int {i : Int} {v : V} (h : RelT K F H (.int i) v) : v = .int i := by
  have h : RelD K F (.int i) v := h
  unfold RelD at h; exact h
theorem RelT.bl {i : Bool} {v : V} (h : RelT K F H (.bl i) v) : v = .bl i := by
  have h : RelD K F (.bl i) v := h
  unfold RelD at h; exact h
theorem RelT.non {v : V} (h : RelT K F H .non v) : v = .non := by
  have h : RelD K F .non v := h
  unfold RelD at h; exact h
theorem RelT.str {x : List Nat} {v : V} (h : RelT K F H (.str x) v) : v = .str (txt x) ∧ TxtOk x := by
  have h : RelD K F (.str x) v := h
  unfold RelD at h; exact h
theorem RelT.tup {x : List D} {v : V} (h : RelT K F H (.tup x) v) : ∃ a vs, v = .ref a ∧ SqT K F a vs ∧ RelDs K F x vs ∧ x.length ≤ sizeLine := by
  have h : RelD K F (.tup x) v := h
  unfold RelD at h; exact h
theorem small64_ok {i j : Int} (h : (small64 i || small64 j) = true) : CMul i j := by
  simp only [small64, Bool.or_eq_true, decide_eq_true_eq] at h
  exact h
theorem rep_len {α : Type} (xs : List α) (n : Nat) : (List.replicate n xs).flatten.length = n * xs.length := by
  induction n with
  | zero => simp
  | succ n ih => rw [List.replicate_succ, List.flatten_cons, List.length_append, ih, Nat.succ_mul]; omega
theorem bop_ok {op : BOp} {x y : D} {z : SV} {v u : V} (e : bop op x y = some z) (hx : RelT K F H x v) (hy : RelT K F H y u) (f : Fin K F H z Q) : rBin K op v u H Q := by
  unfold bop at e
  split at e
  case h_1 i j =>
    cases e; cases hx.int; cases hy.int
    exact .inl (.inl ⟨i, j, rfl, rfl, f.int⟩)
  case h_2 x y =>
    split at e
    case isFalse => cases e
    case isTrue hl =>
      cases e
      obtain ⟨rfl, h1⟩ := hx.str
      obtain ⟨rfl, h2⟩ := hy.str
      have := f.str ⟨by rw [List.length_append]; exact line1m hl, fun c hc => (List.mem_append.mp hc).elim (h1.2 c) (h2.2 c)⟩
      exact .inl (.inr ⟨_, _, rfl, rfl, by rw [txt_len, txt_len]; exact line1m hl, by rw [txt_app]; exact this⟩)
  case h_3 x y =>
    split at e
    case isFalse => cases e
    case isTrue hl =>
      cases e
      obtain ⟨a, vs, rfl, s1, r1, l1⟩ := hx.tup
      obtain ⟨b, us, rfl, s2, r2, l2⟩ := hy.tup
      have e1 := r1.len
      have e2 := r2.len
      refine .inr (.inl ⟨a, b, vs, us, rfl, rfl, f.le.sqt s1, f.le.sqt s2, by rw [← e1, ← e2]; exact line1m hl, fun z => ?_, fun _ z => ?_, fun _ _ p np => ?_⟩)
      · subst z
        have : x = [] := List.eq_nil_of_length_eq_zero e1
        subst this
        exact f.val _ _ rfl (by unfold RelD; exact ⟨b, us, rfl, s2, by simpa using r2, by simpa using l2⟩)
      · subst z
        have : y = [] := List.eq_nil_of_length_eq_zero e2
        subst this
        exact f.val _ _ rfl (by unfold RelD; exact ⟨a, vs, rfl, s1, by simpa using r1, by simpa using l1⟩)
      · exact f.tup _ _ p rfl (r1.append r2) (by rw [List.length_append]; exact line1m hl) np
  case h_4 x y =>
    split at e
    case isFalse => cases e
    case isTrue hl =>
      cases e
      obtain ⟨a, vs, rfl, s1, r1, l1⟩ := hx
      obtain ⟨b, us, rfl, s2, r2, l2⟩ := hy
      have e1 := r1.len
      have e2 := r2.len
      exact .inr (.inr ⟨a, b, vs, us, rfl, rfl, s1, s2, by rw [← e1, ← e2]; exact line1m hl, fun p np => f.lst _ _ p rfl (r1.append r2) (by rw [List.length_append]; exact line1m hl) np⟩)
  case h_5 i j =>
    cases e; cases hx.int; cases hy.int
    exact ⟨i, j, rfl, rfl, f.int⟩
  case h_6 i j =>
    split at e
    case isFalse => cases e
    case isTrue hl =>
      cases e; cases hx.int; cases hy.int
      exact .inl ⟨i, j, rfl, rfl, small64_ok hl, f.int⟩
  case h_7 x j =>
    split at e
    case isFalse => cases e
    case isTrue hl =>
      cases e; cases hy.int
      simp only [Bool.and_eq_true, decide_eq_true_eq] at hl
      obtain ⟨a, vs, rfl, s1, r1, l1⟩ := hx
      have e1 := r1.len
      refine .inr (.inl ⟨a, j, vs, rfl, rfl, s1, by omega, by omega, by rw [← e1]; exact line1m hl.2, fun p np => f.lst _ _ p rfl (r1.rep _) (by rw [rep_len, Nat.mul_comm]; exact line1m hl.2) np⟩)
  case h_8 x j =>
    split at e
    case isFalse => cases e
    case isTrue hl =>
      cases e; cases hy.int
      simp only [Bool.and_eq_true, decide_eq_true_eq, Bool.not_eq_true', List.isEmpty_eq_false_iff] at hl
      obtain ⟨⟨⟨h1, h2⟩, h3⟩, h4⟩ := hl
      obtain ⟨a, vs, rfl, s1, r1, l1⟩ := hx.tup
      have e1 := r1.len
      refine .inr (.inr ⟨a, j, vs, rfl, rfl, f.le.sqt s1, fun z => h1 (by subst z; exact List.eq_nil_of_length_eq_zero e1), h2, h3, by omega, fun p np => f.tup _ _ p rfl (r1.rep _) (line1m ?_) np⟩)
      rw [rep_len]
      exact Nat.le_trans (Nat.mul_le_mul (show j.toNat ≤ 1000 by omega) h4) (by decide)
  case h_9 i j =>
    split at e
    case isFalse => cases e
    case isTrue hl =>
      cases e; cases hx.int; cases hy.int
      simp only [Bool.and_eq_true, decide_eq_true_eq] at hl
      exact ⟨i, j, rfl, rfl, hl, f.int⟩
  case h_10 i j =>
    split at e
    case isFalse => cases e
    case isTrue hl =>
      cases e; cases hx.int; cases hy.int
      exact ⟨i, j, rfl, rfl, hl, f.int⟩
  case h_11 i j =>
    split at e
    case isFalse => cases e
    case isTrue hl =>
      cases e; cases hx.int; cases hy.int
      simp only [Bool.and_eq_true, decide_eq_true_eq, small64] at hl
      exact ⟨i, j, rfl, rfl, ⟨by omega, by omega, by omega⟩, f.int⟩
  case h_12 i j =>
    split at e
    case isFalse => cases e
    case isTrue hl =>
      cases e; cases hx.int; cases hy.int
      simp only [Bool.and_eq_true, decide_eq_true_eq, small64] at hl
      exact ⟨i, j, rfl, rfl, ⟨by omega, by omega, by omega⟩, f.int⟩
  case h_13 i j =>
    split at e
    case isFalse => cases e
    case isTrue hl =>
      cases e; cases hx.int; cases hy.int
      exact ⟨i, j, rfl, rfl, hl, f.int⟩
  case h_14 i j =>
    cases e; cases hx.int; cases hy.int
    exact ⟨i, j, rfl, rfl, f.int⟩
  case h_15 i j =>
    cases e; cases hx.int; cases hy.int
    exact ⟨i, j, rfl, rfl, f.int⟩
  case h_16 => cases e
end
end Ip
end

section
set_option linter.all false
set_option autoImplicit false
set_option maxHeartbeats 1000000
namespace Ip
open PySem PySem.Spec PyProof.Rows L2
variable [Tb]

theorem toPys_map : ∀ xs : List D, toPys xs = xs.map toPy
  | [] => by simp [toPys]
  | x :: xs => by simp [toPys, toPys_map xs]
mutual
theorem eqv_toPy : ∀ {n m : Nat} (x y : D), flatN n x = true → flatN m y = true → PyData.eqv (toPy x) (toPy y) = eqD x y
  | n, m, x, y, hx, hy => by
    cases x <;> cases y <;> first
      | (simp only [toPy, PyData.eqv, eqD]; done)
      | (simp [flatN] at hx; done)
      | (simp [flatN] at hy; done)
      | skip
    case bl.bl a b => cases a <;> cases b <;> simp [toPy, PyData.eqv, eqD]
    case bl.int a i => cases a <;> simp [toPy, PyData.eqv, eqD] <;> exact Bool.beq_eq_decide_eq _ _
    case int.bl i a => cases a <;> simp [toPy, PyData.eqv, eqD] <;> exact Bool.beq_eq_decide_eq _ _
    case int.int i j => simp [toPy, PyData.eqv, eqD]; exact Bool.beq_eq_decide_eq _ _
    case str.str a b =>
      simp only [toPy, PyData.eqv, eqD]
      by_cases e : a = b
      · subst e; simp
      · have : ¬ txt a = txt b := fun q => e (by have := congrArg (fun z => z.cps.toList) q; simpa [txt] using this)
        simp [e, this]
    case tup.tup xs ys =>
      cases n with
      | zero => simp [flatN] at hx
      | succ n =>
        cases m with
        | zero => simp [flatN] at hy
        | succ m =>
          simp only [flatN, List.all_eq_true] at hx hy
          simp only [toPy, PyData.eqv, eqD]
          exact eqvs_toPy xs ys hx hy
    case lst.lst xs ys =>
      cases n with
      | zero => simp [flatN] at hx
      | succ n =>
        cases m with
        | zero => simp [flatN] at hy
        | succ m =>
          simp only [flatN, List.all_eq_true] at hx hy
          simp only [toPy, PyData.eqv, eqD]
          exact eqvs_toPy xs ys hx hy
theorem eqvs_toPy : ∀ {n m : Nat} (xs ys : List D), (∀ x ∈ xs, flatN n x = true) → (∀ y ∈ ys, flatN m y = true) → PyData.eqvAll (toPys xs) (toPys ys) = eqDs xs ys
  | _, _, [], [], _, _ => by simp [toPys, PyData.eqvAll, eqDs]
  | _, _, [], _ :: _, _, _ => by simp [toPys, PyData.eqvAll, eqDs]
  | _, _, _ :: _, [], _, _ => by simp [toPys, PyData.eqvAll, eqDs]
  | n, m, x :: xs, y :: ys, hx, hy => by
    simp only [toPys, PyData.eqvAll, eqDs]
    rw [eqv_toPy x y (hx x (by simp)) (hy y (by simp)), eqvs_toPy xs ys (fun z h => hx z (by simp [h])) (fun z h => hy z (by simp [h]))]
end
theorem depths_le {n : Nat} : ∀ {xs : List D}, (∀ x ∈ xs, (toPy x).depth ≤ n) → PyData.depthAll (toPys xs) ≤ n
  | [], _ => by simp [toPys, PyData.depthAll]
  | x :: xs, h => by
    simp only [toPys, PyData.depthAll]
    have h1 := h x (by simp)
    have h2 := depths_le (xs := xs) fun z hz => h z (by simp [hz])
    omega
theorem depth_le : ∀ {n : Nat} {x : D}, flatN n x = true → (toPy x).depth ≤ n := by
  intro n
  induction n with
  | zero => intro x h; cases x <;> simp [flatN] at h <;> simp [toPy, PyData.depth]
  | succ n ih =>
    intro x h
    cases x <;> simp only [flatN, List.all_eq_true] at h <;> simp only [toPy, PyData.depth] <;> first | omega | skip
    case tup xs => have := depths_le (xs := xs) fun z hz => ih (h z hz); omega
    case lst xs => have := depths_le (xs := xs) fun z hz => ih (h z hz); omega
    all_goals cases h
section
variable {K : PySem.W.Frag} {F H : Hp} {Q : VK}
mutual
theorem RelD.dp (e : Le F H) : ∀ {n : Nat} (x : D) {v : V}, RelD K F x v → flatN n x = true → Dp K H v (toPy x) ∧ PyData.canLay0 (toPy x) = true
  | n, .non, v, h, _ => by unfold RelD at h; subst h; simp only [toPy]; exact ⟨.non, by simp [PyData.canLay0]⟩
  | n, .bl b, v, h, _ => by unfold RelD at h; subst h; simp only [toPy]; exact ⟨.bl b, by simp [PyData.canLay0]⟩
  | n, .int i, v, h, _ => by unfold RelD at h; subst h; simp only [toPy]; exact ⟨.int i, by simp [PyData.canLay0]⟩
  | n, .str x, v, h, _ => by
    unfold RelD at h; obtain ⟨rfl, h1, h2⟩ := h
    simp only [toPy]
    refine ⟨.str _, ?_⟩
    simp only [PyData.canLay0, PyData.strOk, txt]
    simpa using h2
  | n, .tup xs, v, h, q => by
    unfold RelD at h
    obtain ⟨a, vs, rfl, h1, h2, h3⟩ := h
    cases n with
    | zero => simp [flatN] at q
    | succ n =>
      simp only [flatN, List.all_eq_true] at q
      obtain ⟨r1, r2⟩ := RelDs.dp e xs h2 q
      simp only [toPy]
      exact ⟨.tup (e.sqt h1) r1, by simpa [PyData.canLay0] using r2⟩
  | n, .lst xs, v, h, q => by
    unfold RelD at h
    obtain ⟨a, vs, rfl, h1, h2, h3⟩ := h
    cases n with
    | zero => simp [flatN] at q
    | succ n =>
      simp only [flatN, List.all_eq_true] at q
      obtain ⟨r1, r2⟩ := RelDs.dp e xs h2 q
      simp only [toPy]
      exact ⟨.lst (e.sql h1) r1, by simpa [PyData.canLay0] using r2⟩
  | _, .dct _, _, h, q => by simp [flatN] at q
  | _, .ins _ _, _, h, _ => by unfold RelD at h; exact h.elim
theorem RelDs.dp (e : Le F H) : ∀ {n : Nat} (xs : List D) {vs : List V}, RelDs K F xs vs → (∀ x ∈ xs, flatN n x = true) → DpAll K H vs (toPys xs) ∧ PyData.canLayAll0 (toPys xs) = true
  | _, [], [], _, _ => by simp only [toPys]; exact ⟨.nil, by simp [PyData.canLayAll0]⟩
  | n, x :: xs, v :: vs, h, q => by
    unfold RelDs at h
    obtain ⟨r1, r2⟩ := RelD.dp e x h.1 (q x (by simp))
    obtain ⟨r3, r4⟩ := RelDs.dp e xs h.2 fun z hz => q z (by simp [hz])
    simp only [toPys]
    exact ⟨.cons r1 r3, by simp [PyData.canLayAll0, r2, r4]⟩
  | _, [], _ :: _, h, _ => by unfold RelDs at h; exact h.elim
  | _, _ :: _, [], h, _ => by unfold RelDs at h; exact h.elim
end
theorem RelT.dp {n : Nat} {x : D} {v : V} (hn : n ≤ 64) (e : Le F H) (h : RelT K F H x v) (q : flatN n x = true) : Dp K H v (toPy x) ∧ SeqAt.shaped (toPy x) = true := by
  have := RelD.dp (F := H) (.refl H) x (h.all e (fun kvs z => by subst z; simp [flatN] at q)) q
  refine ⟨this.1, ?_⟩
  unfold SeqAt.shaped
  have d := depth_le q
  simp [this.2]
  omega
end
mutual
theorem alike_toPy : ∀ (x y : D), alikeD x y = true → PySem.W.alike (toPy x) (toPy y) = true
  | x, y, h => by
    cases x <;> cases y <;> simp only [alikeD] at h <;> first | exact absurd h Bool.false_ne_true | (simp only [toPy, PySem.W.alike]; done) | skip
    case tup.tup xs ys => simp only [toPy, PySem.W.alike]; exact alikes_toPy xs ys h
    case lst.lst xs ys => simp only [toPy, PySem.W.alike]; exact alikes_toPy xs ys h
theorem alikes_toPy : ∀ (xs ys : List D), alikeDs xs ys = true → PySem.W.alikeAll (toPys xs) (toPys ys) = true
  | [], _, _ => by simp only [toPys, PySem.W.alikeAll]
  | _ :: _, [], _ => by simp only [toPys, PySem.W.alikeAll]
  | x :: xs, y :: ys, h => by
    simp only [alikeDs, Bool.and_eq_true] at h
    simp only [toPys, PySem.W.alikeAll, Bool.and_eq_true]
    exact ⟨alike_toPy x y h.1, alikes_toPy xs ys h.2⟩
end
mutual
theorem lt_toPy : ∀ {n m : Nat} (x y : D), flatN n x = true → flatN m y = true → alikeD x y = true → PySem.W.dataLt (toPy x) (toPy y) = ltB x y
  | n, m, x, y, hx, hy, h => by
    cases x <;> cases y <;> simp only [alikeD] at h <;> first | exact absurd h Bool.false_ne_true | skip
    case non.non => (simp only [toPy, ltB]; exact lex_irrefl _)
    case bl.bl a b =>
      simp only [toPy, ltB]
      refine (PySem.W.dataLt_bool a b).trans ?_
      cases a <;> cases b <;> rfl
    case int.int i j => simp only [toPy, ltB]; exact PySem.W.dataLt_int i j
    case str.str a b => simp only [toPy, ltB]; exact PySem.W.dataLt_str _ _
    case tup.tup xs ys =>
      cases n with
      | zero => simp [flatN] at hx
      | succ n =>
        cases m with
        | zero => simp [flatN] at hy
        | succ m =>
          simp only [flatN, List.all_eq_true] at hx hy
          simp only [toPy, ltB]
          exact (PySem.W.dataLt_tuple _ _).trans (lts_toPy xs ys hx hy h)
    case lst.lst xs ys =>
      cases n with
      | zero => simp [flatN] at hx
      | succ n =>
        cases m with
        | zero => simp [flatN] at hy
        | succ m =>
          simp only [flatN, List.all_eq_true] at hx hy
          simp only [toPy, ltB]
          exact (PySem.W.dataLt_list _ _).trans (lts_toPy xs ys hx hy h)
theorem lts_toPy : ∀ {n m : Nat} (xs ys : List D), (∀ x ∈ xs, flatN n x = true) → (∀ y ∈ ys, flatN m y = true) → alikeDs xs ys = true →
    PyProof.Rows.lexLt itemOrd (PySem.W.keyToksAll (toPys xs)) (PySem.W.keyToksAll (toPys ys)) = ltBs xs ys
  | _, _, [], [], _, _, _ => by simp only [toPys, ltBs]; exact lex_irrefl _
  | _, _, [], y :: ys, _, _, _ => by
    simp only [toPys, ltBs, PySem.W.toks_all_cons]
    simp only [PySem.W.keyToksAll]
    rw [lex_diff (O := itemOrd) (by simp)]
    rfl
  | _, _, x :: xs, [], _, _, _ => by
    simp only [toPys, ltBs, PySem.W.toks_all_cons]
    simp only [PySem.W.keyToksAll]
    rw [lex_diff (O := itemOrd) (by simp)]
    rfl
  | n, m, x :: xs, y :: ys, hx, hy, h => by
    simp only [alikeDs, Bool.and_eq_true] at h
    simp only [toPys, ltBs]
    have a := alike_toPy x y h.1
    have e := eqv_toPy x y (hx x (by simp)) (hy y (by simp))
    cases q : eqD x y with
    | true =>
      rw [q] at e
      rw [PySem.W.dataLt_all_yes a e, lts_toPy xs ys (fun z h => hx z (by simp [h])) (fun z h => hy z (by simp [h])) h.2]
      simp
    | false =>
      rw [q] at e
      rw [PySem.W.dataLt_all_no a e, lt_toPy x y (hx x (by simp)) (hy y (by simp)) h.1]
      simp
end
end Ip
end

section
set_option linter.all false
set_option autoImplicit false
set_option maxHeartbeats 1000000
namespace Ip
open PySem PySem.Spec PyProof.Rows L2
variable [Tb]

section
variable {X : Cx}
/-- an order's question of data that are alike -/
def rOrd (K : PySem.W.Frag) (g : PyData → PyData → Bool) : R2 := fun x y H Q => ∃ d e, Dp K H x d ∧ Dp K H y e ∧ PySem.W.alike d e = true ∧ d ≠ .none ∧ d.depth ≤ 64 ∧ Q (.bl (g d e)) H
theorem op_ltO (hu : X.A.units + 64 < cLine) : OpR X (compareOp .Lt) (rOrd X.K PySem.W.dataLt) := by
  intro pins s σ H x y v u Q I rx ry h
  obtain ⟨d, e, hd, he, ha, hn, hz, q⟩ := h
  obtain ⟨as, r1⟩ := Dp.reads I d x v hd rx
  obtain ⟨bs, r2⟩ := Dp.reads I e y u he ry
  exact PySem.W.lt_data r1 r2 ha hn (by omega) ⟨.bl _, H, I, rfl, q⟩
theorem op_gtO (hu : X.A.units + 64 < cLine) : OpR X (compareOp .Gt) (rOrd X.K fun d e => PySem.W.dataLt e d) := by
  intro pins s σ H x y v u Q I rx ry h
  obtain ⟨d, e, hd, he, ha, hn, hz, q⟩ := h
  obtain ⟨as, r1⟩ := Dp.reads I d x v hd rx
  obtain ⟨bs, r2⟩ := Dp.reads I e y u he ry
  exact PySem.W.gt_data r1 r2 ha hn (by omega) ⟨.bl _, H, I, rfl, q⟩
theorem op_leO (hu : X.A.units + 64 < cLine) : OpR X (compareOp .LtE) (rOrd X.K fun d e => !PySem.W.dataLt e d) := by
  intro pins s σ H x y v u Q I rx ry h
  obtain ⟨d, e, hd, he, ha, hn, hz, q⟩ := h
  obtain ⟨as, r1⟩ := Dp.reads I d x v hd rx
  obtain ⟨bs, r2⟩ := Dp.reads I e y u he ry
  exact PySem.W.le_data r1 r2 ha hn (by omega) ⟨.bl _, H, I, rfl, q⟩
theorem op_geO (hu : X.A.units + 64 < cLine) : OpR X (compareOp .GtE) (rOrd X.K fun d e => !PySem.W.dataLt d e) := by
  intro pins s σ H x y v u Q I rx ry h
  obtain ⟨d, e, hd, he, ha, hn, hz, q⟩ := h
  obtain ⟨as, r1⟩ := Dp.reads I d x v hd rx
  obtain ⟨bs, r2⟩ := Dp.reads I e y u he ry
  exact PySem.W.ge_data r1 r2 ha hn (by omega) ⟨.bl _, H, I, rfl, q⟩
def rInT (K : PySem.W.Frag) : R2 := fun x y H Q => ∃ d ds, Dp K H x d ∧ Dp K H y (.tuple ds) ∧ SeqAt.shaped d = true ∧ SeqAt.shaped (.tuple ds) = true ∧ Q (.bl (ds.any fun z => PyData.eqv z d)) H
def rNotInT (K : PySem.W.Frag) : R2 := fun x y H Q => ∃ d ds, Dp K H x d ∧ Dp K H y (.tuple ds) ∧ SeqAt.shaped d = true ∧ SeqAt.shaped (.tuple ds) = true ∧ Q (.bl (!ds.any fun z => PyData.eqv z d)) H
theorem op_inT (hu : X.A.units + 65 < cLine) : OpR X (compareOp .In) (rInT X.K) := by
  intro pins s σ H x y v u Q I rx ry h
  obtain ⟨d, ds, hd, he, sd, se, q⟩ := h
  obtain ⟨as, r1⟩ := Dp.reads I d x v hd rx
  obtain ⟨bs, r2⟩ := Dp.reads I (.tuple ds) y u he ry
  exact SeqAt.in_tuple_reads r2 r1 (SeqAt.canLay_of_shaped se) (SeqAt.canLay_of_shaped sd) (room_in_shaped sd hu) ⟨.bl _, H, I, rfl, q⟩
theorem op_notInT (hu : X.A.units + 65 < cLine) : OpR X (compareOp .NotIn) (rNotInT X.K) := by
  intro pins s σ H x y v u Q I rx ry h
  obtain ⟨d, ds, hd, he, sd, se, q⟩ := h
  obtain ⟨as, r1⟩ := Dp.reads I d x v hd rx
  obtain ⟨bs, r2⟩ := Dp.reads I (.tuple ds) y u he ry
  exact SeqAt.notIn_tuple_reads r2 r1 (SeqAt.canLay_of_shaped se) (SeqAt.canLay_of_shaped sd) (room_in_shaped sd hu) ⟨.bl _, H, I, rfl, q⟩
end
/-- a key in a dict -/
def rInK : R2 := fun x y H Q => ∃ a o, y = .ref a ∧ DGet H a x o ∧ Q (.bl o.isSome) H
def rNotInK : R2 := fun x y H Q => ∃ a o, y = .ref a ∧ DGet H a x o ∧ Q (.bl (!o.isSome)) H
theorem op_inK {X : Cx} (hu : X.A.units + 65 < cLine) : OpR X (compareOp .In) rInK := by
  intro pins s σ H x y xv yv Q I rx ry h
  obtain ⟨a, o, rfl, g, q⟩ := h
  cases (show yv = Value.ref a from ry)
  exact d_in (by omega) I g rx fun s' I' => ⟨.bl o.isSome, H, I', rfl, q⟩
theorem op_notInK {X : Cx} (hu : X.A.units + 65 < cLine) : OpR X (compareOp .NotIn) rNotInK := by
  intro pins s σ H x y xv yv Q I rx ry h
  obtain ⟨a, o, rfl, g, q⟩ := h
  cases (show yv = Value.ref a from ry)
  exact d_notIn (by omega) I g rx fun s' I' => ⟨.bl (!o.isSome), H, I', rfl, q⟩
def cmpr : COp → CmpOp
  | .eq => .Eq | .ne => .NotEq | .lt => .Lt | .le => .LtE | .gt => .Gt | .ge => .GtE | .isN => .Is | .notN => .IsNot | .isin => .In | .notin => .NotIn
def rCmp (K : PySem.W.Frag) : COp → R2
  | .eq => rEqD K
  | .ne => rNeD K
  | .lt => rOrd K PySem.W.dataLt
  | .gt => rOrd K fun d e => PySem.W.dataLt e d
  | .le => rOrd K fun d e => !PySem.W.dataLt e d
  | .ge => rOrd K fun d e => !PySem.W.dataLt d e
  | .isN => fun x y H Q => y = .non ∧ Q (.bl (decide (x = .non))) H
  | .notN => fun x y H Q => y = .non ∧ Q (.bl (!decide (x = .non))) H
  | .isin => fun x y H Q => ((rInD K x y H Q ∨ rInT K x y H Q) ∨ ∃ (c : Nat) (z : Str), x = .str ⟨#[c]⟩ ∧ y = .str z ∧ Q (.bl (decide (c ∈ z.cps.toList))) H) ∨ rInK x y H Q
  | .notin => fun x y H Q => ((rNotInD K x y H Q ∨ rNotInT K x y H Q) ∨ ∃ (c : Nat) (z : Str), x = .str ⟨#[c]⟩ ∧ y = .str z ∧ Q (.bl (!decide (c ∈ z.cps.toList))) H) ∨ rNotInK x y H Q
theorem cmp_op {X : Cx} (hu : X.A.units + 65 < cLine) : ∀ op : COp, OpR X (compareOp (cmpr op)) (rCmp X.K op)
  | .eq => op_eqD (by omega)
  | .ne => op_neD (by omega)
  | .lt => op_ltO (by omega)
  | .gt => op_gtO (by omega)
  | .le => op_leO (by omega)
  | .ge => op_geO (by omega)
  | .isN => op_isN
  | .notN => op_notN
  | .isin => OpR.or2 (OpR.or2 (OpR.or2 (op_inD hu) (op_inT hu)) op_in_sign) (op_inK hu)
  | .notin => OpR.or2 (OpR.or2 (OpR.or2 (op_notInD hu) (op_notInT hu)) op_notIn_sign) (op_notInK hu)
section
variable {K : PySem.W.Frag} {F H : Hp} {Q : VK} {x y : D} {v u : V}
theorem eq_okD (e : Le F H) (hx : RelT K F H x v) (hy : RelT K F H y u) (h : (flatN 8 x && flatN 8 y) = true) (q : Q (.bl (eqD x y)) H) : rEqD K v u H Q := by
  simp only [Bool.and_eq_true] at h
  obtain ⟨d1, s1⟩ := hx.dp (by decide) e h.1
  obtain ⟨d2, s2⟩ := hy.dp (by decide) e h.2
  exact ⟨_, _, d1, d2, s1, s2, by rw [eqv_toPy x y h.1 h.2]; exact q⟩
theorem ne_okD (e : Le F H) (hx : RelT K F H x v) (hy : RelT K F H y u) (h : (flatN 8 x && flatN 8 y) = true) (q : Q (.bl (!eqD x y)) H) : rNeD K v u H Q := by
  simp only [Bool.and_eq_true] at h
  obtain ⟨d1, s1⟩ := hx.dp (by decide) e h.1
  obtain ⟨d2, s2⟩ := hy.dp (by decide) e h.2
  exact ⟨_, _, d1, d2, s1, s2, by rw [eqv_toPy x y h.1 h.2]; exact q⟩
mutual
theorem alikeD_symm : ∀ (x y : D), alikeD x y = alikeD y x
  | x, y => by
    cases x <;> cases y <;> simp only [alikeD]
    case tup.tup xs ys => exact alikeDs_symm xs ys
    case lst.lst xs ys => exact alikeDs_symm xs ys
theorem alikeDs_symm : ∀ (xs ys : List D), alikeDs xs ys = alikeDs ys xs
  | [], [] => rfl
  | [], _ :: _ => by simp [alikeDs]
  | _ :: _, [] => by simp [alikeDs]
  | x :: xs, y :: ys => by simp only [alikeDs]; rw [alikeD_symm x y, alikeDs_symm xs ys]
end
theorem ord_okD {g : PyData → PyData → Bool} {b : Bool} (e : Le F H) (hx : RelT K F H x v) (hy : RelT K F H y u) (h : okLt x y = true)
    (hg : PySem.W.dataLt (toPy x) (toPy y) = ltB x y → PySem.W.dataLt (toPy y) (toPy x) = ltB y x → g (toPy x) (toPy y) = b) (q : Q (.bl b) H) : rOrd K g v u H Q := by
  simp only [okLt, Bool.and_eq_true] at h
  obtain ⟨⟨⟨h1, h2⟩, h3⟩, h4⟩ := h
  obtain ⟨d1, s1⟩ := hx.dp (by decide) e h1
  obtain ⟨d2, s2⟩ := hy.dp (by decide) e h2
  refine ⟨_, _, d1, d2, alike_toPy x y h3, fun z => ?_, by have := depth_le h1; omega, ?_⟩
  · cases x <;> simp [toPy, flatN] at z h4 h1
  · rw [hg (lt_toPy x y h1 h2 h3) (lt_toPy y x h2 h1 (by rw [alikeD_symm]; exact h3))]
    exact q
theorem RelT.isNon (h : RelT K F H x v) : decide (v = .non) = isNonD x := by
  cases x with
  | non => have := h.non; subst this; rfl
  | bl b => have := h.bl; subst this; rfl
  | int i => have := h.int; subst this; rfl
  | str s => have := h.str.1; subst this; rfl
  | tup xs => obtain ⟨a, vs, rfl, _⟩ := h.tup; rfl
  | lst xs => obtain ⟨a, vs, rfl, _⟩ := h; rfl
  | dct _ => obtain ⟨a, ps, rfl, _⟩ := h; rfl
  | ins _ _ => have h : RelD K F _ _ := h; unfold RelD at h; exact h.elim
/-- what a dict holds at a key -/
theorem dget_ok {kvs : List (D × D)} (hx : RelT K F H x v) (hy : RelT K F H (.dct kvs) u) (q : isKey x = true) : ∃ a o, u = .ref a ∧ DGet H a v o ∧ o.isSome = (lkD kvs x).isSome ∧ ∀ z, lkD kvs x = some z → ∃ w, o = some w ∧ RelD K F z w := by
  obtain ⟨a, ps, rfl, h1, h2⟩ := hy
  have hx : RelD K F x v := by cases x <;> simp [isKey] at q <;> exact hx
  obtain ⟨j, rfl, hk⟩ := key_of_rel hx q
  have hv := RelKs.val hk h2
  refine ⟨a, valV ps j, rfl, .inl ⟨ps, j, h1, rfl, rfl⟩, ?_, fun z hz => ?_⟩
  · cases hq : lkD kvs x with
    | none => rw [hq] at hv; rw [hv]; rfl
    | some z => rw [hq] at hv; obtain ⟨w, hv, _⟩ := hv; rw [hv]; rfl
  · rw [hz] at hv
    exact hv
theorem any_toPy {ys : List D} (h1 : flatN 8 x = true) (h2 : ∀ y ∈ ys, flatN 8 y = true) : ((toPys ys).any fun z => PyData.eqv z (toPy x)) = ys.any fun y => eqD y x := by
  rw [toPys_map, List.any_map]
  induction ys with
  | nil => rfl
  | cons y ys ih =>
    simp only [List.any_cons, Function.comp]
    rw [eqv_toPy y x (h2 y (by simp)) h1]
    have := ih fun z hz => h2 z (by simp [hz])
    exact congrArg _ this
theorem in_lst {ys : List D} {g : Bool → Bool} (e : Le F H) (hx : RelT K F H x v) (hy : RelT K F H (.lst ys) u) (h : (flatN 8 x && ys.all (flatN 8)) = true) (q : Q (.bl (g (ys.any fun y => eqD y x))) H) :
    ∃ d ds, Dp K H v d ∧ Dp K H u (.list ds) ∧ SeqAt.shaped d = true ∧ SeqAt.shaped (.list ds) = true ∧ Q (.bl (g (ds.any fun z => PyData.eqv z d))) H := by
  simp only [Bool.and_eq_true, List.all_eq_true] at h
  obtain ⟨d1, s1⟩ := hx.dp (by decide) e h.1
  obtain ⟨d2, s2⟩ := hy.dp (n := 9) (by decide) e (by simp only [flatN, List.all_eq_true]; exact h.2)
  simp only [toPy] at d2 s2
  exact ⟨_, _, d1, d2, s1, s2, by rw [any_toPy h.1 h.2]; exact q⟩
theorem in_tup {ys : List D} {g : Bool → Bool} (e : Le F H) (hx : RelT K F H x v) (hy : RelT K F H (.tup ys) u) (h : (flatN 8 x && ys.all (flatN 8)) = true) (q : Q (.bl (g (ys.any fun y => eqD y x))) H) :
    ∃ d ds, Dp K H v d ∧ Dp K H u (.tuple ds) ∧ SeqAt.shaped d = true ∧ SeqAt.shaped (.tuple ds) = true ∧ Q (.bl (g (ds.any fun z => PyData.eqv z d))) H := by
  simp only [Bool.and_eq_true, List.all_eq_true] at h
  obtain ⟨d1, s1⟩ := hx.dp (by decide) e h.1
  obtain ⟨d2, s2⟩ := hy.dp (n := 9) (by decide) e (by simp only [flatN, List.all_eq_true]; exact h.2)
  simp only [toPy] at d2 s2
  exact ⟨_, _, d1, d2, s1, s2, by rw [any_toPy h.1 h.2]; exact q⟩
theorem cop_ok {op : COp} {b : Bool} (h : cop op x y = some b) (hx : RelT K F H x v) (hy : RelT K F H y u) (e : Le F H) (q : Q (.bl b) H) : rCmp K op v u H Q := by
  unfold cop at h
  split at h
  case h_1 i j => cases h; exact eq_okD e hx hy (by simp [flatN]) (by simpa [eqD] using q)
  case h_2 i j => cases h; exact ne_okD e hx hy (by simp [flatN]) (by simpa [eqD] using q)
  case h_3 i j => cases h; exact ord_okD e hx hy (by simp [okLt, flatN, alikeD]) (fun a _ => a) (by simpa [ltB] using q)
  case h_4 i j => cases h; exact ord_okD e hx hy (by simp [okLt, flatN, alikeD]) (fun _ a => a) (by simpa [ltB] using q)
  case h_5 i j => cases h; exact ord_okD (b := decide (i ≤ j)) e hx hy (by simp [okLt, flatN, alikeD]) (fun _ a => by rw [a]; simp only [ltB]; by_cases z : i ≤ j <;> simp [z] <;> omega) q
  case h_6 i j => cases h; exact ord_okD (b := decide (j ≤ i)) e hx hy (by simp [okLt, flatN, alikeD]) (fun a _ => by rw [a]; simp only [ltB]; by_cases z : j ≤ i <;> simp [z] <;> omega) q
  case h_7 =>
    split at h
    case isFalse => cases h
    case isTrue hl => cases h; exact eq_okD e hx hy hl q
  case h_8 =>
    split at h
    case isFalse => cases h
    case isTrue hl => cases h; exact ne_okD e hx hy hl q
  case h_9 =>
    split at h
    case isFalse => cases h
    case isTrue hl => cases h; exact ord_okD e hx hy hl (fun a _ => a) q
  case h_10 =>
    split at h
    case isFalse => cases h
    case isTrue hl => cases h; exact ord_okD e hx hy hl (fun _ a => a) q
  case h_11 =>
    split at h
    case isFalse => cases h
    case isTrue hl => cases h; exact ord_okD e hx hy hl (fun _ a => by rw [a]) q
  case h_12 =>
    split at h
    case isFalse => cases h
    case isTrue hl => cases h; exact ord_okD e hx hy hl (fun a _ => by rw [a]) q
  case h_13 x =>
    cases h
    exact ⟨hy.non, by rw [hx.isNon]; exact q⟩
  case h_14 x =>
    cases h
    exact ⟨hy.non, by rw [hx.isNon]; exact q⟩
  case h_15 c z =>
    cases h
    obtain ⟨rfl, _⟩ := hx.str
    obtain ⟨rfl, _⟩ := hy.str
    exact .inl (.inr ⟨c, _, rfl, rfl, by simpa [txt] using q⟩)
  case h_16 c z =>
    cases h
    obtain ⟨rfl, _⟩ := hx.str
    obtain ⟨rfl, _⟩ := hy.str
    exact .inl (.inr ⟨c, _, rfl, rfl, by simpa [txt] using q⟩)
  case h_17 =>
    split at h
    case isFalse => cases h
    case isTrue hl => cases h; exact .inl (.inl (.inl (in_lst (g := id) e hx hy hl q)))
  case h_18 =>
    split at h
    case isFalse => cases h
    case isTrue hl => cases h; exact .inl (.inl (.inr (in_tup (g := id) e hx hy hl q)))
  case h_19 =>
    split at h
    case isFalse => cases h
    case isTrue hl =>
      cases h
      obtain ⟨a, o, rfl, g, e1, _⟩ := dget_ok hx hy hl
      exact .inr ⟨a, o, rfl, g, by rw [e1]; exact q⟩
  case h_20 =>
    split at h
    case isFalse => cases h
    case isTrue hl => cases h; exact .inl (.inl (.inl (in_lst (g := not) e hx hy hl q)))
  case h_21 =>
    split at h
    case isFalse => cases h
    case isTrue hl => cases h; exact .inl (.inl (.inr (in_tup (g := not) e hx hy hl q)))
  case h_22 =>
    split at h
    case isFalse => cases h
    case isTrue hl =>
      cases h
      obtain ⟨a, o, rfl, g, e1, _⟩ := dget_ok hx hy hl
      exact .inr ⟨a, o, rfl, g, by rw [e1]; exact q⟩
  case h_23 => cases h
end
end Ip
end

section
set_option linter.all false
set_option autoImplicit false
set_option maxHeartbeats 1000000
namespace Ip
open PySem PySem.Spec PyProof.Rows L2
variable [Tb]

/-- an exception as data, as it lies -/
def RelX (K : PySem.W.Frag) (w : Wld) (x : D) (cls : Value) (d : Option Addr) : Prop :=
  ∃ c C f y dd v, x = .ins c [(0, y)] ∧ Tb.X[c]? = some (C, f) ∧ cls = .ref C ∧ d = some dd ∧ w.H dd = some (.xd [(f, v)]) ∧ RelD K w.F y v
def Exd (K : PySem.W.Frag) (Wx : L2.WX) (σ : L2.St) (w0 : Wld) (x : D) (e : Env) : Prop :=
  ∀ w' cls d, Ok K e σ w' → Go w0 w' [] → RelX K w' x cls d → Wx cls d σ w'.H
/-- what is wanted of a result -/
def PR {α : Type} (K : PySem.W.Frag) (Wx : L2.WX) (σ : L2.St) (w0 : Wld) (r : R α) (k : α → Env → Prop) : Prop := match r with
  | .ok a e => k a e
  | .exc x e => Exd K Wx σ w0 x e
  | .no => False
section
variable {K : PySem.W.Frag} {Wx : L2.WX} {σ : L2.St} {w0 w1 : Wld} {α β : Type}
theorem PR.bind {r : R α} {f : α → Env → R β} {k : β → Env → Prop} (h : PR K Wx σ w0 (r.bind f) k) : PR K Wx σ w0 r fun a e => PR K Wx σ w0 (f a e) k := by
  cases r <;> exact h
theorem PR.mono {r : R α} {k k' : α → Env → Prop} (h : PR K Wx σ w0 r k) (m : ∀ a e, k a e → k' a e) : PR K Wx σ w0 r k' := by
  cases r
  · exact m _ _ h
  · exact h
  · exact h
theorem Exd.go {x : D} {e : Env} {f : List Addr} (h : Exd K Wx σ w0 x e) (g : Go w0 w1 f) : Exd K Wx σ w1 x e := fun w' cls d ok go rx =>
  h w' cls d ok ((g.trans go).sub (by simp)) rx
theorem PR.go {r : R α} {k : α → Env → Prop} {f : List Addr} (h : PR K Wx σ w0 r k) (g : Go w0 w1 f) : PR K Wx σ w1 r k := by
  cases r
  · exact h
  · exact Exd.go h g
  · exact h
end
/-- a value has come -/
def Got (K : PySem.W.Frag) (σ : L2.St) (w : Wld) (Q : VK) (x : W) (e' : Env) : Prop :=
  ∀ w' v f, Ok K e' σ w' → RelW K σ w' x v f → Sep w' f → Go w w' f → Q v w'.H
/-- an expression's reading by what the interpreter says -/
def tI (K : PySem.W.Frag) (Wx : L2.WX) (m : Env → R W) : TE := fun σ H Q => ∃ e w, w.H = H ∧ Ok K e σ w ∧ PR K Wx σ w (m e) (Got K σ w Q)
section
variable {K : PySem.W.Frag} {Wx : L2.WX} {σ : L2.St} {w0 w1 : Wld} {e : Env} {m : Env → R W} {g : List Addr} {Q : VK}
/-- a part runs, g waiting -/
theorem tI_run {α : Type} {f : W → Env → R α} {k : α → Env → Prop} (ok : Ok K e σ w1) (go : Go w0 w1 g) (sp : Sep w1 g) (h : PR K Wx σ w0 ((m e).bind f) k)
    (hQ : ∀ x e' w' v fx, Ok K e' σ w' → RelW K σ w' x v fx → Sep w' (g ++ fx) → Go w1 w' fx → Go w0 w' (g ++ fx) → PR K Wx σ w0 (f x e') k → Q v w'.H) : tI K Wx m σ w1.H Q :=
  ⟨e, w1, rfl, ok, (h.bind.go go).mono fun x e' hk w' v fx ok' rx sx g' => hQ x e' w' v fx ok' rx (sp.go g' sx) g' (go.trans g') hk⟩
theorem tI_of {σ : L2.St} {H : Hp} (h : tI K Wx m σ H Q) : ∃ e w, w.H = H ∧ Ok K e σ w ∧ PR K Wx σ w ((m e).bind fun x e => .ok x e) (Got K σ w Q) := by
  obtain ⟨e, w, rfl, ok, h⟩ := h
  refine ⟨e, w, rfl, ok, ?_⟩
  cases q : m e <;> rw [q] at h <;> exact h
/-- an operation's value: what is wanted of it -/
theorem Got.fin {z : SV} {e' : Env} (h : Got K σ w0 Q (.v z) e') (ok : Ok K e' σ w1) (go : Go w0 w1 g) (hz : z ≠ .un) : Fin K w1.F w1.H z Q := by
  have go' : Go w0 w1 [] := go.sub (by simp)
  refine ⟨ok.le, fun x v e r => ?_, fun xs vs p e r l np => ?_, fun xs vs p e r l np => ?_⟩
  · subst e; exact h w1 v [] ok ⟨⟨r, rfl⟩, hz⟩ .nil go'
  · subst e
    have rd : RelD K (upd w1.F p (.tup vs)) (.tup xs) (.ref p) := by
      unfold RelD
      exact ⟨p, vs, rfl, .of upd_same, r.mono (upd_le (ok.le.none np)), l⟩
    exact h ⟨upd w1.F p (.tup vs), upd w1.H p (.tup vs), w1.fs⟩ (.ref p) [] (ok.newF np) ⟨⟨rd, rfl⟩, hz⟩ .nil (go'.newF np ok.le)
  · subst e
    exact h ⟨w1.F, upd w1.H p (.lst vs), w1.fs⟩ (.ref p) [p] (ok.newH np) ⟨⟨p, vs, rfl, upd_same, r, l, rfl⟩, hz⟩ (Sep.nil.newH ok np) (go'.newH np)
end
theorem PE.imp {X : Cx} {e : Expr} {t t' : TE} (h : PE X e t) (k : ∀ σ H Q, t' σ H Q → t σ H Q) : PE X e t' := ⟨fun pins s σ H Q I q => h.run pins s σ H Q I (k σ H Q q)⟩
theorem bop_un {op : BOp} {x y : D} {z : SV} (e : bop op x y = some z) : z ≠ .un := by
  rintro rfl
  unfold bop at e
  split at e <;> first | cases e | (split at e <;> cases e)
section
variable {X : Cx} {Wx : L2.WX} {ma mb mc : Env → R W} {a b c : Expr} {pos : Pos}
theorem I_bin {op : BOp} (ha : PE X a (tI X.K Wx ma)) (hb : PE X b (tI X.K Wx mb)) :
    PE X (.BinOp a (oper op) b pos) (tI X.K Wx fun e => (ma e).bind fun x e => (mb e).bind fun y e => match see e x, see e y with
      | some x, some y => pure1 e (bop op x y)
      | _, _ => .no) := by
  refine PE.imp (pe_op (bin_op op) ha hb) fun σ H Q ⟨e, w, hw, ok, h⟩ => ?_
  subst hw
  refine tI_run ok .refl .nil h fun x e1 w1 vx fx ok1 rx sx g1 go1 h1 => ?_
  refine tI_run ok1 go1 sx h1 fun y e2 w2 vy fy ok2 ry sy g2 go2 h2 => ?_
  have rx2 := rx.go sx g2
  cases qx : see e2 x with
  | none => rw [qx] at h2; exact h2.elim
  | some x' =>
    cases qy : see e2 y with
    | none => rw [qx, qy] at h2; exact h2.elim
    | some y' =>
      rw [qx, qy] at h2
      cases qz : bop op x' y' with
      | none => simp only [qz, pure1] at h2; exact h2.elim
      | some z =>
        simp only [qz, pure1] at h2
        exact bop_ok qz (see_ok ok2 rx2 qx) (see_ok ok2 ry qy) (Got.fin h2 ok2 go2 (bop_un qz))
def mCmp (op : COp) (ma mb : Env → R W) : Env → R W := fun e => (ma e).bind fun x e => (mb e).bind fun y e => match see e x, see e y with
  | some x, some y => match cop op x y with
    | some c => .ok (.v (.d (.bl c))) e
    | none => .no
  | _, _ => .no
theorem imp_cmp {op : COp} {σ : L2.St} {H : Hp} {Q : VK} (h : tI X.K Wx (mCmp op ma mb) σ H Q) : tOp (rCmp X.K op) (tI X.K Wx ma) (tI X.K Wx mb) σ H Q := by
  obtain ⟨e, w, hw, ok, h⟩ := h
  subst hw
  unfold mCmp at h
  refine tI_run ok .refl .nil h fun x e1 w1 vx fx ok1 rx sx g1 go1 h1 => ?_
  refine tI_run ok1 go1 sx h1 fun y e2 w2 vy fy ok2 ry sy g2 go2 h2 => ?_
  have rx2 := rx.go sx g2
  cases qx : see e2 x with
  | none => rw [qx] at h2; exact h2.elim
  | some x' =>
    cases qy : see e2 y with
    | none => rw [qx, qy] at h2; exact h2.elim
    | some y' =>
      rw [qx, qy] at h2
      cases qz : cop op x' y' with
      | none => simp only [qz] at h2; exact h2.elim
      | some z =>
        simp only [qz] at h2
        exact cop_ok qz (see_ok ok2 rx2 qx) (see_ok ok2 ry qy) ok2.le (Got.fin h2 ok2 go2 (by simp)).bl
theorem I_cmp {op : COp} (hu : X.A.units + 65 < cLine) (ha : PE X a (tI X.K Wx ma)) (hb : PE X b (tI X.K Wx mb)) (hm : behindInMarks (cmpr op) b = false) :
    PE X (.Compare a [cmpr op] [b] pos) (tI X.K Wx (mCmp op ma mb)) := PE.imp (pe_cmpR (cmp_op hu op) ha hb hm) fun σ H Q h => imp_cmp h
def mCmp2 (op op' : COp) (ma mb mc : Env → R W) : Env → R W := fun e => (ma e).bind fun x e => (mb e).bind fun y e => match see e x, see e y with
  | some x, some y' => match cop op x y' with
    | some true => (mc e).bind fun z e => match see e y, see e z with
      | some y, some z => match cop op' y z with
        | some c => .ok (.v (.d (.bl c))) e
        | none => .no
      | _, _ => .no
    | some false => .ok (.v (.d (.bl false))) e
    | none => .no
  | _, _ => .no
theorem imp_cmp2 {op op' : COp} {σ : L2.St} {H : Hp} {Q : VK} (h : tI X.K Wx (mCmp2 op op' ma mb mc) σ H Q) : tChain (rCmp X.K op) (rCmp X.K op') (tI X.K Wx ma) (tI X.K Wx mb) (tI X.K Wx mc) σ H Q := by
  obtain ⟨e, w, hw, ok, h⟩ := h
  subst hw
  unfold mCmp2 at h
  refine tI_run ok .refl .nil h fun x e1 w1 vx fx ok1 rx sx g1 go1 h1 => ?_
  refine tI_run ok1 go1 sx h1 fun y e2 w2 vy fy ok2 ry sy g2 go2 h2 => ?_
  have rx2 := rx.go sx g2
  cases qx : see e2 x with
  | none => rw [qx] at h2; exact h2.elim
  | some x' =>
    cases qy : see e2 y with
    | none => rw [qx, qy] at h2; exact h2.elim
    | some y' =>
      rw [qx, qy] at h2
      cases qz : cop op x' y' with
      | none => simp only [qz] at h2; exact h2.elim
      | some z =>
        simp only [qz] at h2
        refine cop_ok qz (see_ok ok2 rx2 qx) (see_ok ok2 ry qy) ok2.le ⟨z, rfl, ?_⟩
        cases z with
        | false =>
          rw [if_neg (by simp)]
          exact (Got.fin h2 ok2 go2 (by simp)).bl
        | true =>
          rw [if_pos rfl]
          refine tI_run ok2 go2 sy h2 fun z e3 w3 vz fz ok3 rz sz g3 go3 h3 => ?_
          have ry3 := ry.go sy.right g3
          cases qy3 : see e3 y with
          | none => rw [qy3] at h3; exact h3.elim
          | some y3 =>
            cases qz3 : see e3 z with
            | none => rw [qy3, qz3] at h3; exact h3.elim
            | some z3 =>
              rw [qy3, qz3] at h3
              cases qq : cop op' y3 z3 with
              | none => simp only [qq] at h3; exact h3.elim
              | some b3 =>
                simp only [qq] at h3
                exact cop_ok qq (see_ok ok3 ry3 qy3) (see_ok ok3 rz qz3) ok3.le (Got.fin h3 ok3 go3 (by simp)).bl
theorem I_cmp2 {op op' : COp} (hu : X.A.units + 65 < cLine) (ha : PE X a (tI X.K Wx ma)) (hb : PE X b (tI X.K Wx mb)) (hc : PE X c (tI X.K Wx mc)) (hm : lastMarks [cmpr op, cmpr op'] [b, c] = false) :
    PE X (.Compare a [cmpr op, cmpr op'] [b, c] pos) (tI X.K Wx (mCmp2 op op' ma mb mc)) := PE.imp (pe_chain (cmp_op hu op) (cmp_op hu op') ha hb hc hm) fun σ H Q h => imp_cmp2 h
theorem I_neg (ha : PE X a (tI X.K Wx ma)) : PE X (.UnaryOp .USub a pos) (tI X.K Wx fun e => (ma e).bind fun x e => match see e x with
    | some (.int i) => .ok (.v (.d (.int (-i)))) e
    | _ => .no) := by
  refine PE.imp (pe_un un_neg ha) fun σ H Q ⟨e, w, hw, ok, h⟩ => ?_
  subst hw
  refine tI_run ok .refl .nil h fun x e1 w1 vx fx ok1 rx sx g1 go1 h1 => ?_
  split at h1
  · rename_i i q
    exact ⟨i, (see_ok ok1 rx q).int, (Got.fin h1 ok1 go1 (by simp)).int⟩
  · exact h1.elim
theorem tru_okD {K : PySem.W.Frag} {F H : Hp} {x : D} {v : V} {b : Bool} (le : Le F H) (h : RelT K F H x v) (q : truD x = some b) : TruV K v H b := by
  cases x with
  | non => rw [h.non]; cases (show some false = some b from q); exact (rfl : false = false)
  | bl c => rw [h.bl]; cases (show some c = some b from q); exact (show TruV K (.bl _) H _ from rfl)
  | int i =>
    rw [h.int]
    cases (show some (decide (i ≠ 0)) = some b from q)
    show decide (i ≠ 0) = (i != 0)
    by_cases e : i = 0 <;> simp [e]
  | str x =>
    obtain ⟨rfl, h1, _⟩ := h.str
    cases (show some (!x.isEmpty) = some b from q)
    refine ⟨by rw [txt_len]; exact h1, ?_⟩
    rw [txt_len]
    cases x <;> simp
    omega
  | tup xs =>
    obtain ⟨a, vs, rfl, h1, h2, h3⟩ := h.tup
    cases (show some (!xs.isEmpty) = some b from q)
    refine .inr (.inl ⟨vs, le.sqt h1, ?_⟩)
    have := h2.len
    cases xs <;> cases vs <;> simp at this <;> rfl
  | lst xs =>
    obtain ⟨a, vs, rfl, h1, h2, h3⟩ := h
    cases (show some (!xs.isEmpty) = some b from q)
    refine .inl ⟨vs, h1, ?_⟩
    have := h2.len
    cases xs <;> cases vs <;> simp at this <;> rfl
  | dct _ => cases q
  | ins _ _ => have h : RelD K F _ _ := h; unfold RelD at h; exact h.elim
theorem tru_see {K : PySem.W.Frag} {e : Env} {σ : L2.St} {w : Wld} {x : W} {v : V} {f : List Addr} {b : Bool} (ok : Ok K e σ w) (h : RelW K σ w x v f) (q : (see e x).bind truD = some b) : TruV K v w.H b := by
  cases qx : see e x with
  | none => rw [qx] at q; cases q
  | some y =>
    rw [qx] at q
    exact tru_okD ok.le (see_ok ok h qx) q
theorem I_not (ha : PE X a (tI X.K Wx ma)) : PE X (.UnaryOp .Not a pos) (tI X.K Wx fun e => (ma e).bind fun x e => match (see e x).bind truD with
    | some b => .ok (.v (.d (.bl (!b)))) e
    | none => .no) := by
  refine PE.imp (pe_notT ha) fun σ H Q ⟨e, w, hw, ok, h⟩ => ?_
  subst hw
  refine tI_run ok .refl .nil h fun x e1 w1 vx fx ok1 rx sx g1 go1 h1 => ?_
  split at h1
  · rename_i b q
    exact ⟨b, tru_see ok1 rx q, (Got.fin h1 ok1 go1 (by simp)).bl⟩
  · exact h1.elim
theorem Got.here {K : PySem.W.Frag} {σ : L2.St} {w0 w1 : Wld} {Q : VK} {x : W} {e : Env} {v : V} {f : List Addr} (h : Got K σ w0 Q x e) (ok : Ok K e σ w1) (r : RelW K σ w1 x v f) (s : Sep w1 f) (go : Go w0 w1 f) : Q v w1.H := h w1 v f ok r s go
/-- a part at the end -/
theorem tI_end {K : PySem.W.Frag} {Wx : L2.WX} {σ : L2.St} {w0 w1 : Wld} {e : Env} {m : Env → R W} {f : List Addr} {Q : VK} (ok : Ok K e σ w1) (go : Go w0 w1 f) (h : PR K Wx σ w0 (m e) (Got K σ w0 Q)) : tI K Wx m σ w1.H Q :=
  ⟨e, w1, rfl, ok, (h.go go).mono fun x e' hk w' v fx ok' rx sx g' => hk w' v fx ok' rx sx ((go.trans g').sub (by simp +contextual))⟩
theorem I_and {rest : List Expr} (ha : PE X a (tI X.K Wx ma)) (hb : PE X (.BoolOp .And (b :: rest) pos) (tI X.K Wx mb)) : PE X (.BoolOp .And (a :: b :: rest) pos) (tI X.K Wx fun e => (ma e).bind fun x e => match (see e x).bind truD with
    | some true => mb e
    | some false => .ok x e
    | none => .no) := by
  refine PE.imp (pe_andT ha hb) fun σ H Q ⟨e, w, hw, ok, h⟩ => ?_
  subst hw
  refine tI_run ok .refl .nil h fun x e1 w1 vx fx ok1 rx sx g1 go1 h1 => ?_
  split at h1
  · rename_i q
    exact ⟨true, tru_see ok1 rx q, by rw [if_pos rfl]; exact tI_end ok1 g1 h1⟩
  · rename_i q
    exact ⟨false, tru_see ok1 rx q, by rw [if_neg (by simp)]; exact Got.here h1 ok1 rx sx g1⟩
  · exact h1.elim
theorem I_or {rest : List Expr} (ha : PE X a (tI X.K Wx ma)) (hb : PE X (.BoolOp .Or (b :: rest) pos) (tI X.K Wx mb)) : PE X (.BoolOp .Or (a :: b :: rest) pos) (tI X.K Wx fun e => (ma e).bind fun x e => match (see e x).bind truD with
    | some true => .ok x e
    | some false => mb e
    | none => .no) := by
  refine PE.imp (pe_orT ha hb) fun σ H Q ⟨e, w, hw, ok, h⟩ => ?_
  subst hw
  refine tI_run ok .refl .nil h fun x e1 w1 vx fx ok1 rx sx g1 go1 h1 => ?_
  split at h1
  · rename_i q
    exact ⟨true, tru_see ok1 rx q, by rw [if_pos rfl]; exact Got.here h1 ok1 rx sx g1⟩
  · rename_i q
    exact ⟨false, tru_see ok1 rx q, by rw [if_neg (by simp)]; exact tI_end ok1 g1 h1⟩
  · exact h1.elim
end
end Ip
end

section
set_option linter.all false
set_option autoImplicit false
set_option maxHeartbeats 1000000
namespace Ip
open PySem PySem.Spec PyProof.Rows L2
variable [Tb]

/-! ### lists of values -/
def RelWs (K : PySem.W.Frag) (σ : L2.St) (w : Wld) : List W → List V → List Addr → Prop
  | [], [], f => f = []
  | x :: xs, v :: vs, f => ∃ g h, f = g ++ h ∧ RelW K σ w x v g ∧ RelWs K σ w xs vs h
  | _, _, _ => False
def Gots (K : PySem.W.Frag) (σ : L2.St) (w : Wld) (Q : List V → Hp → Prop) (x : List W) (e' : Env) : Prop :=
  ∀ w' v f, Ok K e' σ w' → RelWs K σ w' x v f → Sep w' f → Go w w' f → Q v w'.H
def tIs (K : PySem.W.Frag) (Wx : L2.WX) (m : Env → R (List W)) : TA := fun σ H Q => ∃ e w, w.H = H ∧ Ok K e σ w ∧ PR K Wx σ w (m e) (Gots K σ w Q)
section
variable {K : PySem.W.Frag} {Wx : L2.WX} {σ : L2.St} {w w' w0 w1 : Wld} {e e' : Env} {g f : List Addr}
theorem RelWs.ext : ∀ {xs : List W} {vs : List V} {f : List Addr}, RelWs K σ w xs vs f → Le w.F w'.F → (∀ b ∈ f, ∀ o, w.H b = some o → w'.H b = some o) → RelWs K σ w' xs vs f
  | [], [], _, h, _, _ => h
  | x :: xs, v :: vs, _, ⟨g, h, e, r, s⟩, q, k => ⟨g, h, e, r.ext q fun b hb => k b (by subst e; simp [hb]), RelWs.ext s q fun b hb => k b (by subst e; simp [hb])⟩
  | [], _ :: _, _, h, _, _ => h.elim
  | _ :: _, [], _, h, _, _ => h.elim
theorem RelWs.go {xs : List W} {vs : List V} {f : List Addr} (h : RelWs K σ w xs vs f) (s : Sep w f) (q : Go w w' g) : RelWs K σ w' xs vs f := h.ext q.le fun b hb o ho => q.keep b o ho (s.nt hb ho) (s.dis b hb)
theorem RelWs.len : ∀ {xs : List W} {vs : List V} {f : List Addr}, RelWs K σ w xs vs f → xs.length = vs.length
  | [], [], _, _ => rfl
  | _ :: xs, _ :: vs, _, ⟨_, _, _, _, s⟩ => congrArg (· + 1) (RelWs.len s)
  | [], _ :: _, _, h => h.elim
  | _ :: _, [], _, h => h.elim
theorem tIs_run {α : Type} {m : Env → R (List W)} {fk : List W → Env → R α} {k : α → Env → Prop} {Q : List V → Hp → Prop} (ok : Ok K e σ w1) (go : Go w0 w1 g) (sp : Sep w1 g) (h : PR K Wx σ w0 ((m e).bind fk) k)
    (hQ : ∀ x e' w' v fx, Ok K e' σ w' → RelWs K σ w' x v fx → Sep w' (g ++ fx) → Go w1 w' fx → Go w0 w' (g ++ fx) → PR K Wx σ w0 (fk x e') k → Q v w'.H) : tIs K Wx m σ w1.H Q :=
  ⟨e, w1, rfl, ok, (h.bind.go go).mono fun x e' hk w' v fx ok' rx sx g' => hQ x e' w' v fx ok' rx (sp.go g' sx) g' (go.trans g') hk⟩
/-- all are kept as data -/
theorem takeAll_ok : ∀ {xs : List W} {vs : List V} {f : List Addr} {ys : List D} {e e' : Env} {w : Wld}, Ok K e σ w → RelWs K σ w xs vs f → Go w0 w (f ++ g) → Sep w (f ++ g) → takeAll xs e = some (ys, e') →
    ∃ w', w'.H = w.H ∧ Ok K e' σ w' ∧ RelDs K w'.F ys vs ∧ Go w0 w' g ∧ Sep w' g ∧ Le w.F w'.F
  | [], [], f, ys, e, e', w, ok, h, go, sp, q => by
    have h : f = [] := h
    subst h
    simp [takeAll] at q
    obtain ⟨rfl, rfl⟩ := q
    exact ⟨w, rfl, ok, by simp [RelDs], go, sp, .refl _⟩
  | x :: xs, v :: vs, f, ys, e, e', w, ok, ⟨g1, g2, ef, r, s⟩, go, sp, q => by
    subst ef
    unfold takeAll at q
    cases q1 : Ip.take e x with
    | none => rw [q1] at q; cases q
    | some p =>
      obtain ⟨y, e1⟩ := p
      rw [q1] at q
      dsimp only at q
      cases q2 : takeAll xs e1 with
      | none => rw [q2] at q; cases q
      | some p2 =>
        obtain ⟨zs, e2⟩ := p2
        rw [q2] at q
        cases q
        rw [List.append_assoc] at go sp
        obtain ⟨w1, h1, ok1, rd, go1, sp1, le1⟩ := take_ok ok r go sp q1
        have s1 : RelWs K σ w1 xs vs g2 := s.ext le1 fun b _ o z => by rw [h1]; exact z
        obtain ⟨w2, h2, ok2, rd2, go2, sp2, le2⟩ := takeAll_ok ok1 s1 go1 sp1 q2
        refine ⟨w2, h2.trans h1, ok2, ?_, go2, sp2, le1.trans le2⟩
        unfold RelDs
        exact ⟨rd.mono le2, rd2⟩
  | [], _ :: _, _, _, _, _, _, _, h, _, _, _ => h.elim
  | _ :: _, [], _, _, _, _, _, _, h, _, _, _ => h.elim
theorem seeAll_ok : ∀ {xs : List W} {vs : List V} {f : List Addr} {ys : List D}, Ok K e σ w → RelWs K σ w xs vs f → seeAll e xs = some ys → Paired (RelT K w.F w.H) ys vs
  | [], [], _, ys, _, _, q => by simp [seeAll] at q; subst q; exact .nil
  | x :: xs, v :: vs, _, ys, ok, ⟨_, _, _, r, s⟩, q => by
    unfold seeAll at q
    cases q1 : see e x with
    | none => rw [q1] at q; cases q
    | some y =>
      rw [q1] at q
      cases q2 : seeAll e xs with
      | none => rw [q2] at q; cases q
      | some zs =>
        rw [q2] at q
        cases q
        exact .cons (see_ok ok r q1) (seeAll_ok ok s q2)
  | [], _ :: _, _, _, _, h, _ => h.elim
  | _ :: _, [], _, _, _, h, _ => h.elim
end
def plainArg : Expr → Bool
  | .Starred _ _ => false
  | _ => true
theorem star_plain {a : Expr} {es : List Expr} {env : PySem.Env} (h : plainArg a = true) : starEach (a :: es) env = (false, eval a env) :: starEach es env := by
  cases a <;> first | rfl | cases h
section
variable {X : Cx} {Wx : L2.WX} {ma mb : Env → R W} {ms : Env → R (List W)} {a b : Expr} {es : List Expr} {pos : Pos}
theorem I_nil : PA X [] (tIs X.K Wx fun e => .ok [] e) := ⟨fun pos pins s σ H Q I ⟨e, w, hw, ok, h⟩ => by
  subst hw
  exact pa_nil.run pos pins s σ w.H Q I (h w [] [] ok rfl .nil .refl)⟩
theorem PA.imp {t t' : TA} (h : PA X es t) (k : ∀ σ H Q, t' σ H Q → t σ H Q) : PA X es t' := ⟨fun pos pins s σ H Q I q => h.run pos pins s σ H Q I (k σ H Q q)⟩
theorem I_cons (ha : PE X a (tI X.K Wx ma)) (hs : PA X es (tIs X.K Wx ms)) (hp : plainArg a = true) : PA X (a :: es) (tIs X.K Wx fun e => (ma e).bind fun w e => (ms e).bind fun ws e => .ok (w :: ws) e) := by
  refine PA.imp (pa_cons ha hs (star_plain hp)) fun σ H Q ⟨e, w, hw, ok, h⟩ => ?_
  subst hw
  refine tI_run ok .refl .nil h fun x e1 w1 vx fx ok1 rx sx g1 go1 h1 => ?_
  refine tIs_run ok1 go1 sx h1 fun xs e2 w2 vs fs ok2 rs ss g2 go2 h2 => ?_
  exact h2 w2 (vx :: vs) (fx ++ fs) ok2 ⟨fx, fs, rfl, rx.go sx g2, rs⟩ ss go2
theorem I_tup {x1} (h : PA X es (tIs X.K Wx ms)) (hl : es.length ≤ 1000000) (hm : ∀ e xs e', ms e = .ok xs e' → xs.length = es.length) : PE X (.Tuple es x1 pos) (tI X.K Wx fun e => (ms e).bind fun ws e => match takeAll ws e with
    | some (xs, e1) => .ok (.v (.d (.tup xs))) e1
    | none => .no) := by
  refine PE.imp (pe_tup h) fun σ H Q ⟨e, w, hw, ok, h⟩ => ?_
  subst hw
  refine ⟨e, w, rfl, ok, ?_⟩
  dsimp only at h
  cases qm : ms e with
  | no => rw [qm] at h; exact h
  | exc x e1 => rw [qm] at h; exact h
  | ok xs e1 =>
    rw [qm] at h
    intro w1 vs fs ok1 rs ss go1
    have hlen : vs.length ≤ sizeLine := by rw [← rs.len, hm e xs e1 qm]; exact line1m hl
    refine ⟨hlen, fun p np => ?_⟩
    have h : PR X.K Wx σ w (match takeAll xs e1 with
      | some (xs, e1) => .ok (.v (.d (.tup xs))) e1
      | none => .no) (Got X.K σ w Q) := h
    cases q : takeAll xs e1 with
    | none => rw [q] at h; exact h.elim
    | some r =>
      obtain ⟨ys, e2⟩ := r
      rw [q] at h
      obtain ⟨w2, h2, ok2, rd, go2, sp2, le2⟩ := takeAll_ok (g := []) ok1 rs (by simpa using go1) (by simpa using ss) q
      have := (Got.fin h ok2 go2 (by simp)).tup ys vs p rfl rd (by rw [rd.len]; exact hlen) (by rw [h2]; exact np)
      rw [h2] at this
      exact this
theorem I_lst (h : PA X es (tIs X.K Wx ms)) (hl : es.length ≤ 1000000) (hm : ∀ e xs e', ms e = .ok xs e' → xs.length = es.length) : PE X (.List es pos) (tI X.K Wx fun e => (ms e).bind fun ws e => match takeAll ws e with
    | some (xs, e1) => .ok (.v (.lst xs)) e1
    | none => .no) := by
  refine PE.imp (pe_lst h) fun σ H Q ⟨e, w, hw, ok, h⟩ => ?_
  subst hw
  refine ⟨e, w, rfl, ok, ?_⟩
  dsimp only at h
  cases qm : ms e with
  | no => rw [qm] at h; exact h
  | exc x e1 => rw [qm] at h; exact h
  | ok xs e1 =>
    rw [qm] at h
    intro w1 vs fs ok1 rs ss go1
    have hlen : vs.length ≤ sizeLine := by rw [← rs.len, hm e xs e1 qm]; exact line1m hl
    refine ⟨hlen, fun p np => ?_⟩
    have h : PR X.K Wx σ w (match takeAll xs e1 with
      | some (xs, e1) => .ok (.v (.lst xs)) e1
      | none => .no) (Got X.K σ w Q) := h
    cases q : takeAll xs e1 with
    | none => rw [q] at h; exact h.elim
    | some r =>
      obtain ⟨ys, e2⟩ := r
      rw [q] at h
      obtain ⟨w2, h2, ok2, rd, go2, sp2, le2⟩ := takeAll_ok (g := []) ok1 rs (by simpa using go1) (by simpa using ss) q
      have := (Got.fin h ok2 go2 (by simp)).lst ys vs p rfl rd (by rw [rd.len]; exact hlen) (by rw [h2]; exact np)
      rw [h2] at this
      exact this
theorem I_var {i : Nat} {x : Str} (hN : X.N[i]? = some x) (hv : Vis X.env.scope x) (hd : (x == ("__debug__" : Str)) = false) (hcd : (x == ("__classdict__" : Str)) = false) : PE X (.Name x pos) (tI X.K Wx fun e => match e[i]? with
    | some .un => .no
    | some (.d x) => .ok (.v (.d x)) e
    | some _ => .ok (.r i none) e
    | none => .no) := by
  refine PE.imp (pe_var hN hv hd hcd) fun σ H Q ⟨e, w, hw, ok, h⟩ => ?_
  subst hw
  dsimp only at h
  cases q : e[i]? with
  | none => rw [q] at h; exact h.elim
  | some s =>
    rw [q] at h
    obtain ⟨o, f, h1, h2, h3⟩ := ok.rel.get q
    cases s with
    | un => exact h.elim
    | d y =>
      cases o with
      | none => exact h3.elim
      | some v =>
        obtain ⟨h3, rfl⟩ := h3
        exact ⟨v, h1, h w v [] ok ⟨⟨h3, rfl⟩, by simp⟩ .nil .refl⟩
    | lst xs =>
      cases o with
      | none => exact h3.elim
      | some v => exact ⟨v, h1, h w v [] ok ⟨h1, rfl⟩ .nil .refl⟩
    | dct kvs =>
      cases o with
      | none => exact h3.elim
      | some v => exact ⟨v, h1, h w v [] ok ⟨h1, rfl⟩ .nil .refl⟩
    | ins _ _ =>
      cases o with
      | none => exact h3.elim
      | some v => exact h3.elim
theorem I_cst {c : Const} {k : Nat} {x : D} {v : V} (h : PE X (.Constant c k pos) (tC v)) (r : ∀ F, RelD X.K F x v) : PE X (.Constant c k pos) (tI X.K Wx fun e => .ok (.v (.d x)) e) :=
  PE.imp h fun σ H Q ⟨e, w, hw, ok, h⟩ => by
    subst hw
    exact h w v [] ok ⟨⟨r _, rfl⟩, by simp⟩ .nil .refl
theorem I_frz (ha : PE X a (tI X.K Wx ma)) : PE X a (tI X.K Wx fun e => (ma e).bind fun w e => match Ip.take e w with
    | some (x, e1) => .ok (.v (.d x)) e1
    | none => .no) := by
  refine PE.imp ha fun σ H Q ⟨e, w, hw, ok, h⟩ => ?_
  subst hw
  refine tI_run ok .refl .nil h fun x e1 w1 vx fx ok1 rx sx g1 go1 h1 => ?_
  cases q : Ip.take e1 x with
  | none => rw [q] at h1; exact h1.elim
  | some r =>
    obtain ⟨y, e2⟩ := r
    rw [q] at h1
    obtain ⟨w2, h2, ok2, rd, go2, sp2, le2⟩ := take_ok (g := []) ok1 rx (by simpa using go1) (by simpa using sx) q
    have := (Got.fin h1 ok2 go2 (by simp)).val _ _ rfl rd
    rw [h2] at this
    exact this
end
end Ip
end

section
set_option linter.all false
set_option autoImplicit false
set_option maxHeartbeats 1000000
namespace Ip
open PySem PySem.Spec PyProof.Rows L2
variable [Tb]
/-! ### x[::-1] -/
section
variable {prog : Program} {w : World} {A : Around} {E : Value → Shared → Prop} {s : Shared}
/-- the parts of [::-1] -/
theorem applied_rev {sl : Addr} {vs : Value} {n : Nat} {Q : Int × Int × Nat → Shared → Prop} (hs : s.heap.IsSliceOf sl .none .none vs) (ps : IsPart vs (some (-1))) (q : Q ((n : Int) - 1, -1, n) s) : wpAny (model prog w) A (Builtin.Slice.sliceApplied (.ref sl) (pure (n : Int))) Q E s := by
  obtain ⟨ob, got, cl, dat⟩ := id hs
  unfold Builtin.Slice.sliceApplied Builtin.Slice.sliceFields
  refine wpAny_bind (wpAny_bind (wpAny_field got dat (x := .none) rfl (wpAny_bind (wpAny_field got dat (x := .none) rfl (wpAny_bind (wpAny_field got dat (x := vs) rfl (wpAny_pure ?_)))))))
  refine wpAny_bind (HT.slicePart_ ps ?_)
  show wpAny _ _ (if ((-1 : Int) == 0) = true then _ else _) _ _ s
  rw [if_neg (by decide)]
  refine wpAny_bind (slicePart_none (wpAny_bind (slicePart_none (wpAny_bind (wpAny_pure ?_)))))
  have e1 : Builtin.Slice.sliceAdjust none none (-1) (n : Int) = ((n : Int) - 1, -1) := by
    unfold Builtin.Slice.sliceAdjust
    simp
  have e2 : Builtin.Slice.slicePlaces ((n : Int) - 1) (-1) (-1) = n := by
    unfold Builtin.Slice.slicePlaces
    simp
    omega
  show wpAny _ _ (match Builtin.Slice.sliceAdjust none none (-1) (n : Int) with | (lo, hi) => pure (lo, (-1 : Int), Builtin.Slice.slicePlaces lo hi (-1))) _ _ s
  rw [e1]
  show wpAny _ _ (pure ((n : Int) - 1, (-1 : Int), Builtin.Slice.slicePlaces ((n : Int) - 1) (-1) (-1))) _ _ s
  rw [e2]
  exact wpAny_pure q
theorem filterMap_cong {α β : Type} {f g : α → Option β} : ∀ {l : List α}, (∀ x ∈ l, f x = g x) → l.filterMap f = l.filterMap g
  | [], _ => rfl
  | x :: l, h => by
    have h1 := h x (by simp)
    have h2 := filterMap_cong (l := l) (f := f) (g := g) fun y hy => h y (by simp [hy])
    simp only [List.filterMap_cons, h1, h2]
theorem pick_rev (xs : Array Value) : ((List.range xs.size).filterMap fun (m : Nat) => xs[(((xs.size : Nat) : Int) - 1 + (m : Int) * -1).toNat]?) = xs.toList.reverse := by
  apply List.ext_getElem?
  intro i
  have e : ((List.range xs.size).filterMap fun (m : Nat) => xs[(((xs.size : Nat) : Int) - 1 + (m : Int) * -1).toNat]?) = (List.range xs.size).map fun (m : Nat) => (xs[xs.size - 1 - m]?).getD .none := by
    rw [← List.filterMap_eq_map]
    apply filterMap_cong
    intro m hm
    have hm := List.mem_range.mp hm
    have : (((xs.size : Nat) : Int) - 1 + (m : Int) * -1).toNat = xs.size - 1 - m := by omega
    rw [this]
    have h2 : xs.size - 1 - m < xs.size := by omega
    simp [h2]
  rw [e, List.getElem?_map]
  by_cases hi : i < xs.size
  · have h2 : xs.size - 1 - i < xs.size := by omega
    simp [hi, h2, List.getElem?_reverse]
  · simp [hi]
theorem item_rev {tp sl : Addr} {its : Array Value} {vs : Value} {Q : Value → Shared → Prop} (ht : IsTup s.heap tp its) (hs : s.heap.IsSliceOf sl .none .none vs) (ps : IsPart vs (some (-1)))
    (q : Q (.ref s.heap.objs.size) { s with heap := s.heap.push { cls := .type "tuple", data := .seq its.toList.reverse.toArray } }) (big : its.size ≤ sizeLine) : wpAny (model prog w) A (getItem (.ref tp) (.ref sl)) Q E s := by
  have hsz : sizeOk (.seq its.toList.reverse.toArray) := by
    show its.toList.reverse.toArray.size ≤ sizeLine
    simpa using big
  obtain ⟨ob, got, cl, dat⟩ := id hs
  have tys : s.TypeIs (.ref sl) "slice" := ⟨ob, got, cl⟩
  unfold getItem
  try with_reducible refine wpAny_holding ?_
  first | refine wpAny_bind (wpAny_pure ?_) | skip
  refine wpAny_bind (wpAny_sequenceKey ht.typeIs (by decide) (wpAny_bind (wpAny_callSpecial?_slot (name := Str.ofString "__getitem__") ht.typeIs PyProof.Rows.slot_tuple_getitem (wpAny_call_entry PyProof.Rows.slot_tuple_getitem ht.typeIs entry_tuple_getitem ?_ (args_tuple_getitem _ _)))))
  show wpAny _ _ (Builtin.Tuple.tupleItemsOf (.ref tp) >>= _) _ _ s
  refine wpAny_bind (tupleItemsOf_ ht (wpAny_bind (wpAny_typeOf tys ?_)))
  rw [if_pos (by decide)]
  refine wpAny_bind (applied_rev hs ps ?_)
  have hno : ¬ (((its.size : Int) - 1 == 0 && (-1 : Int) == 1 && its.size == its.size) = true) := by
    rw [show ((-1 : Int) == 1) = false from rfl]
    simp
  show wpAny _ _ (if ((its.size : Int) - 1 == 0 && (-1 : Int) == 1 && its.size == its.size) = true then _ else _) _ _ s
  rw [if_neg hno, pick_rev]
  first
    | exact wpAny_bind (m := Builtin.Tuple.tupleExact _) (wpAny_newObj_type (wpAny_pure ⟨_, rfl, wpAny_pure q⟩) hsz)
    | exact wpAny_bind (m := Builtin.Tuple.tupleExact _) (wpAny_newObj_type (wpAny_bind (wpAny_pure (wpAny_pure ⟨_, rfl, wpAny_pure q⟩))) hsz)
    | exact wpAny_bind (wpAny_bind (m := Builtin.Tuple.tupleExact _) (wpAny_newObj_type (wpAny_pure (wpAny_pure ⟨_, rfl, wpAny_pure q⟩)) hsz))
    | exact wpAny_bind (wpAny_bind (m := Builtin.Tuple.tupleExact _) (wpAny_newObj_type (wpAny_pure ⟨_, rfl, wpAny_pure q⟩) hsz))
end
/-- x[::-1], x a list or a tuple with something in it -/
def tRevA (K : PySem.W.Frag) (te : TE) : TE := fun σ H Q => te σ H fun x H1 => ∃ a xs, x = .ref a ∧ ((SqL K H1 a xs ∧ ∀ p, H1 p = none → Q (.ref p) (upd H1 p (.lst xs.reverse))) ∨ (SqT K H1 a xs ∧ ∀ p, H1 p = none → Q (.ref p) (upd H1 p (.tup xs.reverse))))
theorem pe_revA {X : Cx} {e : Expr} {te : TE} {k : Nat} {p1 p2 p3 pos : Pos} (he : PE X e te) : PE X (.Subscript e (.Slice none none (some (.UnaryOp .USub (.Constant (.int 1) k p1) p2)) p3) pos) (tRevA X.K te) := by
  refine ⟨fun pins s σ H Q I h => Subscript_ (thn (he.run pins s σ H _ I h) fun v s1 ⟨x, H1, I1, r1, q1⟩ => ?_)⟩
  obtain ⟨a, xs, rfl, q⟩ := q1
  cases (show v = Value.ref a from r1)
  have hst : PO X (some (.UnaryOp .USub (.Constant (.int 1) k p1) p2)) (tPart (tUn (rU fun i => .int (-i)) (tC (.int 1)))) := po_some (pe_un un_neg pe_int)
  refine wpAny_Slice (thn (po_none.run pins s1 σ H1 (fun o J => o = none ∧ J = H1) I1 ⟨rfl, rfl⟩) fun vl s2 ⟨l, H2, I2, pl, el, e2⟩ => thn (po_none.run pins s2 σ H2 (fun o J => o = none ∧ J = H2) I2 ⟨rfl, rfl⟩) fun vu s3 ⟨u, H3, I3, pu, eu, e3⟩ => thn (hst.run pins s3 σ H3 (fun o J => o = some (-1) ∧ J = H3) I3 ⟨1, rfl, -1, rfl, rfl, rfl⟩) fun vs s4 ⟨o, H4, I4, ps, eo, e4⟩ => ?_)
  subst el e2 eu e3 eo e4
  cases pl
  cases pu
  have I5 : Inv X pins σ H4 { s4 with heap := s4.heap.push { cls := .type "slice", data := .fields #[.none, .none, vs] } } := I4.kept (t' := s4.toks) fun b ob q => Heap.get?_push_of_some _ q
  show wpAny (model X.prog X.w) X.A (subscriptTail e (.Slice none none (some (.UnaryOp .USub (.Constant (.int 1) k p1) p2)) p3) (.ref a) (.ref s4.heap.objs.size)) (EP X pins σ Q) X.xe _
  rcases q with ⟨hx, q⟩ | ⟨hx, q⟩
  · obtain ⟨its, r, ht, hz⟩ := I5.list hx
    have hlen := r.length
    refine tail_any (ops := [.ref a, .ref s4.heap.objs.size]) ht.isList.typeIs (PySem.slot_list_getitem.lookup) (wpAny_getItem_list_slice ht.isList (Heap.IsSliceOf.new _ .none .none vs) .none .none ps (by decide) ?_ (by rw [List.size_toArray]; omega)) (by with_unfolding_all rfl)
    rw [PySem.W.krv_pick]
    exact ⟨.ref _, _, I5.laid (t' := s4.toks) (o := .lst xs.reverse) (fun b ob q => Heap.get?_push_of_some _ q) (Nat.le_refl _) ⟨by rw [List.length_reverse]; exact hz, _, 0, r.reverse, Heap.get?_push_size _ rfl⟩, rfl, q _ (I5.hok.fresh (Nat.le_refl _))⟩
  · obtain ⟨its, r, ht, hz⟩ := I5.tuple hx
    have hlen := r.length
    refine tail_any (ops := [.ref a, .ref s4.heap.objs.size]) ht.typeIs (PyProof.Rows.slot_tuple_getitem.lookup) (item_rev ht (Heap.IsSliceOf.new _ .none .none vs) ps ?_ (by rw [List.size_toArray]; omega)) (by with_unfolding_all rfl)
    exact ⟨.ref _, _, I5.laid (t' := s4.toks) (o := .tup xs.reverse) (fun b ob q => Heap.get?_push_of_some _ q) (Nat.le_refl _) ⟨by rw [List.length_reverse]; exact hz, _, r.reverse, IsTup.new _ _⟩, rfl, q _ (I5.hok.fresh (Nat.le_refl _))⟩

section
variable {K : PySem.W.Frag} {F H : Hp} {Q : VK}
theorem ix_eq (n : Nat) (i : Int) : ix n i = ixN n i := rfl
theorem atI_of {α : Type} {xs : List α} {i : Int} {j : Nat} {x : α} (h : ix xs.length i = some j) (e : xs[j]? = some x) : atI xs i = some x := by
  unfold atI
  rw [← ix_eq, h]
  exact e
/-- a[b], a dict too -/
def rIxA (K : PySem.W.Frag) : R2 := fun x y H Q => rIx K x y H Q ∨ ∃ a w, x = .ref a ∧ DGet H a y (some w) ∧ Q w H
theorem ix_A {X : Cx} (hu : X.A.units + 65 < cLine) : IxR X (rIxA X.K) := by
  refine IxR.or ix_seq ?_
  intro ea eb pins s σ H x y xv yv Q I rx ry q hs
  obtain ⟨a, w, rfl, g, q⟩ := q
  cases (show xv = Value.ref a from rx)
  exact tail_any (dict_typeIs I g) PySem.F.slot_dict_getitem.lookup (d_getItem (by omega) I g ry fun w' s' I' rw' => ⟨w, H, I', rw', q⟩) hs
theorem idx_ok {x y z : D} {v u : V} (h : idxD x y = some z) (hx : RelT K F H x v) (hy : RelT K F H y u) (f : Fin K F H (.d z) Q) : rIxA K v u H Q := by
  unfold idxD at h
  split at h
  case h_1 xs i =>
    obtain ⟨a, vs, rfl, h1, h2, h3⟩ := hx
    cases hj : ix xs.length i with
    | none => rw [hj] at h; cases h
    | some j =>
      rw [hj] at h
      obtain ⟨w, hw, rw'⟩ := h2.get h
      exact .inl (.inl ⟨a, vs, i, w, rfl, hy.int, h1, atI_of (by rw [← h2.len]; exact hj) hw, f.val _ _ rfl rw'⟩)
  case h_2 xs i =>
    obtain ⟨a, vs, rfl, h1, h2, h3⟩ := hx.tup
    cases hj : ix xs.length i with
    | none => rw [hj] at h; cases h
    | some j =>
      rw [hj] at h
      obtain ⟨w, hw, rw'⟩ := h2.get h
      exact .inl (.inr (.inl ⟨a, vs, i, w, rfl, hy.int, f.le.sqt h1, atI_of (by rw [← h2.len]; exact hj) hw, f.val _ _ rfl rw'⟩))
  case h_3 xs i =>
    obtain ⟨rfl, h1, h2⟩ := hx.str
    cases hj : ix xs.length i with
    | none => rw [hj] at h; cases h
    | some j =>
      rw [hj] at h
      cases hc : xs[j]? with
      | none => simp [hc] at h
      | some c =>
        simp [hc] at h
        subst h
        refine .inl (.inr (.inr ⟨txt xs, i, c, rfl, hy.int, by rw [txt_len]; exact h1, atI_of (by simpa [txt] using hj) (by simpa [txt] using hc), ?_⟩))
        have := f.str (x := [c]) ⟨by rw [sizeLine_eq]; simp, fun d hd => by
          have : d = c := by simpa using hd
          subst this
          exact h2 d (List.mem_of_getElem? hc)⟩
        exact this
  case h_4 kvs =>
    split at h
    case isFalse => cases h
    case isTrue hl =>
      obtain ⟨a, o, rfl, g, _, e2⟩ := dget_ok hy hx hl
      obtain ⟨w, rfl, rw'⟩ := e2 z h
      exact .inr ⟨a, w, rfl, g, f.val _ _ rfl rw'⟩
  case h_5 => cases h
theorem cutIx_eq (n d : Nat) (o : Option Int) : cutIx n d o = HT.sIx n d o := by
  cases o <;> rfl
theorem cut_len {α : Type} (xs : List α) (lo hi : Option Int) : (cut xs lo hi).length ≤ xs.length := by
  unfold cut
  rw [List.length_take, List.length_drop]
  omega
theorem RelDs.cut {xs : List D} {vs : List V} (h : RelDs K F xs vs) (lo hi : Option Int) : RelDs K F (Ip.cut xs lo hi) (cutV vs lo hi) := by
  unfold Ip.cut cutV
  rw [cutIx_eq, cutIx_eq, h.len]
  exact (h.drop _).take _
def rSlc (K : PySem.W.Frag) : V → Option Int → Option Int → Hp → VK → Prop := fun x lo hi H Q => rSlL K x lo hi H Q ∨ (rSlA K x lo hi H Q ∨ rSlS x lo hi H Q)
theorem slc_ok {x : D} {z : SV} {v : V} {lo hi : Option Int} (h : slcD x lo hi = some z) (hx : RelT K F H x v) (f : Fin K F H z Q) : rSlc K v lo hi H Q := by
  unfold slcD at h
  split at h
  case h_1 xs =>
    cases h
    obtain ⟨a, vs, rfl, h1, h2, h3⟩ := hx
    exact .inl ⟨a, vs, rfl, h1, fun p np => f.lst _ _ p rfl (h2.cut lo hi) (Nat.le_trans (cut_len _ _ _) h3) np⟩
  case h_2 xs =>
    cases h
    obtain ⟨a, vs, rfl, h1, h2, h3⟩ := hx.tup
    refine .inr (.inl ⟨a, vs, rfl, f.le.sqt h1, fun e => ?_, fun _ p np => f.tup _ _ p rfl (h2.cut lo hi) (Nat.le_trans (cut_len _ _ _) h3) np⟩)
    have ec : cut xs lo hi = xs := by
      unfold cut
      rw [cutIx_eq, cutIx_eq, h2.len, e.1, e.2, List.drop_zero, Nat.sub_zero, ← h2.len]
      exact List.take_length
    exact f.val _ _ rfl (by unfold RelD; exact ⟨a, vs, rfl, h1, by rw [ec]; exact h2, by rw [ec]; exact h3⟩)
  case h_3 xs =>
    cases h
    obtain ⟨rfl, h1, h2⟩ := hx.str
    refine .inr (.inr ⟨txt xs, rfl, by rw [txt_len]; exact h1, ?_⟩)
    have := f.str (x := cut xs lo hi) ⟨Nat.le_trans (cut_len _ _ _) h1, fun c hc => h2 c (List.mem_of_mem_drop (List.mem_of_mem_take hc))⟩
    have e : cutS (txt xs) lo hi = txt (cut xs lo hi) := by
      unfold cutS cut
      rw [txt_len, cutIx_eq, cutIx_eq]
    rw [e]
    exact this
  case h_4 => cases h
theorem slc_un {x : D} {z : SV} {lo hi : Option Int} (h : slcD x lo hi = some z) : z ≠ .un := by
  rintro rfl
  unfold slcD at h
  split at h <;> cases h
end
theorem plainIx_of {b : Expr} (h : (match b with | .Slice _ _ none _ => false | _ => true) = true) : PlainIx b := by
  intro o i
  cases b <;> first | rfl | skip
  rename_i l u s p
  cases s with
  | none => cases h
  | some _ => rfl
section
variable {X : Cx} {Wx : L2.WX} {ma mb mc : Env → R W} {mo mh : Env → R (Option Int)} {ms : Env → R (List W)} {a b c : Expr} {es : List Expr} {lo hi : Option Expr} {pos p2 : Pos}
theorem I_idx (hu : X.A.units + 65 < cLine) (ha : PE X a (tI X.K Wx ma)) (hb : PE X b (tI X.K Wx mb)) (hs : PlainIx b) : PE X (.Subscript a b pos) (tI X.K Wx fun e => (ma e).bind fun x e => (mb e).bind fun y e => match see e x, see e y with
    | some x, some y => pure1 e ((idxD x y).map .d)
    | _, _ => .no) := by
  refine PE.imp (pe_ix (ix_A hu) ha hb hs) fun σ H Q ⟨e, w, hw, ok, h⟩ => ?_
  subst hw
  refine tI_run ok .refl .nil h fun x e1 w1 vx fx ok1 rx sx g1 go1 h1 => ?_
  refine tI_run ok1 go1 sx h1 fun y e2 w2 vy fy ok2 ry sy g2 go2 h2 => ?_
  have rx2 := rx.go sx g2
  cases qx : see e2 x with
  | none => rw [qx] at h2; exact h2.elim
  | some x' =>
    cases qy : see e2 y with
    | none => rw [qx, qy] at h2; exact h2.elim
    | some y' =>
      rw [qx, qy] at h2
      cases qz : idxD x' y' with
      | none => simp only [qz, pure1, Option.map_none] at h2; exact h2.elim
      | some z =>
        simp only [qz, pure1, Option.map_some] at h2
        exact idx_ok qz (see_ok ok2 rx2 qx) (see_ok ok2 ry qy) (Got.fin h2 ok2 go2 (by simp))
/-- a slice's part -/
def tO (K : PySem.W.Frag) (Wx : L2.WX) (m : Env → R (Option Int)) : TO := fun σ H Q => ∃ e w, w.H = H ∧ Ok K e σ w ∧ PR K Wx σ w (m e) fun o e' => ∀ w', Ok K e' σ w' → Go w w' [] → Q o w'.H
theorem tO_run {K : PySem.W.Frag} {σ : L2.St} {w0 w1 : Wld} {e : Env} {m : Env → R (Option Int)} {g : List Addr} {Q : Option Int → Hp → Prop} {α : Type} {f : Option Int → Env → R α} {k : α → Env → Prop} (ok : Ok K e σ w1) (go : Go w0 w1 g) (sp : Sep w1 g) (h : PR K Wx σ w0 ((m e).bind f) k)
    (hQ : ∀ o e' w', Ok K e' σ w' → Sep w' g → Go w1 w' [] → Go w0 w' g → PR K Wx σ w0 (f o e') k → Q o w'.H) : tO K Wx m σ w1.H Q :=
  ⟨e, w1, rfl, ok, (h.bind.go go).mono fun o e' hk w' ok' g' => hQ o e' w' ok' (by simpa using sp.go g' .nil) g' (by simpa using go.trans g') hk⟩
theorem PO.imp {o : Option Expr} {t t' : TO} (h : PO X o t) (k : ∀ σ H Q, t' σ H Q → t σ H Q) : PO X o t' := ⟨fun pins s σ H Q I q => h.run pins s σ H Q I (k σ H Q q)⟩
theorem I_oN : PO X none (tO X.K Wx fun e => .ok none e) := PO.imp po_none fun σ H Q ⟨e, w, hw, ok, h⟩ => by
  subst hw
  exact h w ok .refl
theorem I_oS (ha : PE X a (tI X.K Wx ma)) : PO X (some a) (tO X.K Wx fun e => (ma e).bind fun w e => match intO e w with
    | some i => .ok (some i) e
    | none => .no) := by
  refine PO.imp (po_some ha) fun σ H Q ⟨e, w, hw, ok, h⟩ => ?_
  subst hw
  refine tI_run ok .refl .nil h fun x e1 w1 vx fx ok1 rx sx g1 go1 h1 => ?_
  unfold intO at h1
  split at h1
  · rename_i i q
    split at q
    · rename_i j qj
      cases q
      exact ⟨i, (see_ok ok1 rx qj).int, h1 w1 ok1 (go1.sub (by simp))⟩
    · cases q
  · exact h1.elim
theorem I_slc (ha : PE X a (tI X.K Wx ma)) (hl : PO X lo (tO X.K Wx mo)) (hh : PO X hi (tO X.K Wx mh)) : PE X (.Subscript a (.Slice lo hi none p2) pos) (tI X.K Wx fun e => (ma e).bind fun x e => (mo e).bind fun l e => (mh e).bind fun h e => match see e x with
    | some x => pure1 e (slcD x l h)
    | none => .no) := by
  refine PE.imp (pe_slice (SlR.or sl_list (SlR.or sl_tupA sl_str)) ha hl hh) fun σ H Q ⟨e, w, hw, ok, h⟩ => ?_
  subst hw
  refine tI_run ok .refl .nil h fun x e1 w1 vx fx ok1 rx sx g1 go1 h1 => ?_
  refine tO_run ok1 go1 sx h1 fun l e2 w2 ok2 s2 g2 go2 h2 => ?_
  refine tO_run ok2 go2 s2 h2 fun u e3 w3 ok3 s3 g3 go3 h3 => ?_
  have rx2 := (rx.go sx g2).go s2 g3
  cases qx : see e3 x with
  | none => rw [qx] at h3; exact h3.elim
  | some x' =>
    rw [qx] at h3
    cases qz : slcD x' l u with
    | none => simp only [qz, pure1] at h3; exact h3.elim
    | some z =>
      simp only [qz, pure1] at h3
      exact slc_ok qz (see_ok ok3 rx2 qx) (Got.fin h3 ok3 go3 (slc_un qz))
/-- xs[::-1] of a list -/
theorem I_rev {k : Nat} {p1 p3 p4 : Pos} (ha : PE X a (tI X.K Wx ma)) : PE X (.Subscript a (.Slice none none (some (.UnaryOp .USub (.Constant (.int 1) k p1) p2)) p3) pos) (tI X.K Wx fun e => (ma e).bind fun x e => match see e x with
    | some x => pure1 e (revD x)
    | none => .no) := by
  refine PE.imp (pe_revA ha) fun σ H Q ⟨e, w, hw, ok, h⟩ => ?_
  subst hw
  refine tI_run ok .refl .nil h fun x e1 w1 vx fx ok1 rx sx g1 go1 h1 => ?_
  cases qx : see e1 x with
  | none => rw [qx] at h1; exact h1.elim
  | some x' =>
    rw [qx] at h1
    have rt := see_ok ok1 rx qx
    cases x' <;> simp only [revD, pure1] at h1 <;> first | exact h1.elim | skip
    · rename_i xs
      obtain ⟨a, vs, rfl, h4, h5, h6⟩ := rt.tup
      exact ⟨a, vs, rfl, .inr ⟨ok1.le.sqt h4, fun p np => (Got.fin h1 ok1 go1 (by simp)).tup _ _ p rfl h5.rev (by simpa using h6) np⟩⟩
    · rename_i xs
      obtain ⟨a, vs, rfl, h4, h5, h6⟩ := rt
      exact ⟨a, vs, rfl, .inl ⟨h4, fun p np => (Got.fin h1 ok1 go1 (by simp)).lst _ _ p rfl h5.rev (by simpa using h6) np⟩⟩
/-! ### isinstance -/
def tyName : D → String
  | .non => "NoneType" | .bl _ => "bool" | .int _ => "int" | .str _ => "str" | .tup _ => "tuple" | .lst _ => "list" | .dct _ => "dict" | .ins _ _ => "object"
def tyStr : Ty → String
  | .int => "int" | .bool => "bool" | .str => "str" | .tuple => "tuple" | .list => "list" | .cls _ => ""
theorem kit_is {K : PySem.W.Frag} {F H : Hp} {x : D} {v : V} {t : Ty} (hx : RelT K F H x v) (ht : ∀ c, t ≠ .cls c) : PySem.W.kitOne K (.type (tyName x)) (.type (tyStr t)) = some (isTy x t) := by
  refine kit_ty ?_
  cases t with
  | cls c => exact absurd rfl (ht c)
  | _ => cases x <;> first
    | (simp only [tyName, tyStr, isTy]; decide +kernel)
    | (have hx : RelD K F _ _ := hx; unfold RelD at hx; exact hx.elim)
theorem tyx_is {K : PySem.W.Frag} {F H : Hp} {x : D} {v : V} (le : Le F H) (hx : RelT K F H x v) : TyX K H v (.type (tyName x)) := by
  cases x with
  | non => rw [hx.non]; exact .base .non
  | bl b => rw [hx.bl]; exact .base (.bl b)
  | int i => rw [hx.int]; exact .base (.int i)
  | str s => rw [hx.str.1]; exact .base (.str _)
  | tup xs =>
    obtain ⟨a, vs, rfl, h1, h2, h3⟩ := hx.tup
    rcases le.sqt h1 with (h | ⟨o, h⟩) | ⟨o, its, n, h, hc, _⟩
    · exact .base (.tup h)
    · exact .fTuple h
    · exact .kTuple h hc
  | lst xs =>
    obtain ⟨a, vs, rfl, h1, h2, h3⟩ := hx
    rcases h1 with (h | ⟨o, h⟩) | ⟨o, its, n, h, hc, _⟩
    · exact .base (.lst h)
    · exact .base (.frz h)
    · exact .kList h hc
  | dct kvs =>
    obtain ⟨a, ps, rfl, h1, _⟩ := hx
    rcases h1 with h | ⟨o, h⟩
    · exact .base (.dK h)
    · exact .fDict h
  | ins _ _ => have hx : RelD K F _ _ := hx; unfold RelD at hx; exact hx.elim
end
end Ip
end

section
set_option linter.all false
set_option autoImplicit false
set_option maxHeartbeats 1000000
namespace Ip
open PySem PySem.Spec PyProof.Rows L2
variable [Tb]

section
variable {K : PySem.W.Frag} {F H : Hp} {Q : VK}
mutual
theorem toPy_inj : ∀ {n m : Nat} (x y : D), flatN n x = true → flatN m y = true → toPy x = toPy y → x = y
  | n, m, x, y, hx, hy, h => by
    cases x <;> cases y <;> simp only [toPy] at h <;> first | (simp [flatN] at hx; done) | (simp [flatN] at hy; done) | (cases h; rfl) | cases h | skip
    case tup.tup xs ys =>
      cases n with
      | zero => simp [flatN] at hx
      | succ n =>
        cases m with
        | zero => simp [flatN] at hy
        | succ m =>
          simp only [flatN, List.all_eq_true] at hx hy
          rw [toPys_inj xs ys hx hy (PyData.tuple.inj h)]
    case lst.lst xs ys =>
      cases n with
      | zero => simp [flatN] at hx
      | succ n =>
        cases m with
        | zero => simp [flatN] at hy
        | succ m =>
          simp only [flatN, List.all_eq_true] at hx hy
          rw [toPys_inj xs ys hx hy (PyData.list.inj h)]
theorem toPys_inj : ∀ {n m : Nat} (xs ys : List D), (∀ x ∈ xs, flatN n x = true) → (∀ y ∈ ys, flatN m y = true) → toPys xs = toPys ys → xs = ys
  | _, _, [], [], _, _, _ => rfl
  | _, _, [], _ :: _, _, _, h => by simp [toPys] at h
  | _, _, _ :: _, [], _, _, h => by simp [toPys] at h
  | n, m, x :: xs, y :: ys, hx, hy, h => by
    simp only [toPys, List.cons.injEq] at h
    rw [toPy_inj x y (hx x (by simp)) (hy y (by simp)) h.1, toPys_inj xs ys (fun z h => hx z (by simp [h])) (fun z h => hy z (by simp [h])) h.2]
end
theorem okLts_of {xs : List D} (h : okLts xs = true) : (∀ x ∈ xs, flatN 8 x = true) ∧ (∀ x ∈ xs, ∀ y ∈ xs, alikeD x y = true) ∧ ∀ x ∈ xs, toPy x ≠ .none := by
  simp only [okLts, Bool.and_eq_true, List.all_eq_true] at h
  refine ⟨fun x hx => (h.1 x hx).1, fun x hx y hy => h.2 x hx y hy, fun x hx e => ?_⟩
  have h1 := h.1 x hx
  cases x <;> simp [toPy, flatN] at e h1
theorem mem_toPys {xs : List D} {d : PyData} (h : d ∈ toPys xs) : ∃ x ∈ xs, toPy x = d := by
  rw [toPys_map] at h
  obtain ⟨x, hx, e⟩ := List.mem_map.mp h
  exact ⟨x, hx, e⟩
theorem alikeAll_of {xs : List D} (h : okLts xs = true) : PySem.W.AlikeAll (toPys xs) := by
  obtain ⟨h1, h2, h3⟩ := okLts_of h
  refine ⟨fun d hd d' hd' => ?_, fun d hd => ?_⟩
  · obtain ⟨x, hx, rfl⟩ := mem_toPys hd
    obtain ⟨y, hy, rfl⟩ := mem_toPys hd'
    exact alike_toPy x y (h2 x hx y hy)
  · obtain ⟨x, hx, rfl⟩ := mem_toPys hd
    exact h3 x hx
theorem fold_mem {f : D → D → D} (hf : ∀ a b, f a b = a ∨ f a b = b) : ∀ (xs : List D) (x : D), xs.foldl f x ∈ x :: xs
  | [], x => by simp
  | y :: ys, x => by
    rw [List.foldl_cons]
    have := fold_mem hf ys (f x y)
    rcases hf x y with e | e <;> rw [e] at this ⊢ <;> simp at this ⊢ <;> rcases this with h | h <;> simp [h]
theorem least_mem (x : D) (xs : List D) : leastD x xs ∈ x :: xs := fold_mem (fun a b => by cases h : ltB b a <;> simp) xs x
theorem greatest_mem (x : D) (xs : List D) : greatestD x xs ∈ x :: xs := fold_mem (fun a b => by cases h : ltB a b <;> simp) xs x
theorem minD_toPy {S : List D} (h : okLts S = true) : ∀ (xs : List D) (x : D), x ∈ S → (∀ y ∈ xs, y ∈ S) → PySem.W.minD (toPy x) (toPys xs) = toPy (leastD x xs)
  | [], x, _, _ => by simp [toPys, PySem.W.minD, leastD]
  | y :: ys, x, hx, hs => by
    obtain ⟨h1, h2, h3⟩ := okLts_of h
    have hy := hs y (by simp)
    have e := lt_toPy y x (h1 y hy) (h1 x hx) (h2 y hy x hx)
    have step : PySem.W.minD (toPy x) (toPys (y :: ys)) = PySem.W.minD (toPy (if ltB y x then y else x)) (toPys ys) := by
      simp only [PySem.W.minD, toPys, List.foldl_cons]
      rw [e]
      cases ltB y x <;> rfl
    rw [step, minD_toPy h ys _ (by split <;> assumption) fun z hz => hs z (by simp [hz])]
    simp only [leastD, List.foldl_cons]
theorem maxD_toPy {S : List D} (h : okLts S = true) : ∀ (xs : List D) (x : D), x ∈ S → (∀ y ∈ xs, y ∈ S) → PySem.W.maxD (toPy x) (toPys xs) = toPy (greatestD x xs)
  | [], x, _, _ => by simp [toPys, PySem.W.maxD, greatestD]
  | y :: ys, x, hx, hs => by
    obtain ⟨h1, h2, h3⟩ := okLts_of h
    have hy := hs y (by simp)
    have e := lt_toPy x y (h1 x hx) (h1 y hy) (h2 x hx y hy)
    have step : PySem.W.maxD (toPy x) (toPys (y :: ys)) = PySem.W.maxD (toPy (if ltB x y then y else x)) (toPys ys) := by
      simp only [PySem.W.maxD, toPys, List.foldl_cons]
      rw [e]
      cases ltB x y <;> rfl
    rw [step, maxD_toPy h ys _ (by split <;> assumption) fun z hz => hs z (by simp [hz])]
    simp only [greatestD, List.foldl_cons]
end
section
variable {X : Cx}
/-- a list or a tuple of data -/
def Seq (K : PySem.W.Frag) (H : Hp) (a : Addr) (us : List V) : Prop := SqL K H a us ∨ SqT K H a us
def rMinD (K : PySem.W.Frag) (g : PyData → List PyData → PyData) : List V → Hp → VK → Prop := fun vs H Q => ∃ (a : Addr) (us : List V) (x : PyData) (ds : List PyData), vs = [V.ref a] ∧ Seq K H a us ∧ DpAll K H us (x :: ds) ∧ PySem.W.AlikeAll (x :: ds) ∧ PyData.depthAll (x :: ds) ≤ 60 ∧
  ∀ (i : Nat) (u : V), us[i]? = some u → (x :: ds)[i]? = some (g x ds) → Q u H
theorem readsAll_i {h : Heap} : ∀ {us : List Value} {ds : List PyData} {as : List Addr} {i : Nat} {u : Value}, ReadsAll h us ds as → us[i]? = some u → ∃ d as', ds[i]? = some d ∧ Reads h u d as'
  | [], _, _, _, _, _, e => by simp at e
  | u :: us, _, _, i, v, r, e => by
    cases r with
    | cons r1 r2 =>
      cases i with
      | zero => simp at e; subst e; exact ⟨_, _, rfl, r1⟩
      | succ i => simp at e; obtain ⟨d, as', h1, h2⟩ := readsAll_i r2 e; exact ⟨d, as', by simpa using h1, h2⟩
theorem val_i : ∀ {us : List V} {vs : List Value} {i : Nat} {v : Value}, Vals us vs → vs[i]? = some v → ∃ u, us[i]? = some u ∧ RelV u v
  | [], _, _, _, .nil, e => by simp at e
  | _ :: _, _, 0, _, .cons r _, e => by simp at e; subst e; exact ⟨_, rfl, r⟩
  | _ :: _, _, i + 1, _, .cons _ t, e => by
    simp at e
    obtain ⟨u, h1, h2⟩ := val_i t e
    exact ⟨u, by simpa using h1, h2⟩
theorem cr_minD (hc : X.calm = true) (hu : X.A.units + 64 < cLine) : CallR X (.builtin "min") (rMinD X.K PySem.W.minD) := by
  intro pins s σ H vs us Q I r h
  obtain ⟨a, xs, x, ds, rfl, hs, hd, ha, hz, q⟩ := h
  rw [Vals.ref1 r]
  have fin : ∀ (its : List Value) (rv : Vals xs its) (as : List Addr), ReadsAll s.heap its (x :: ds) as → ∀ (i : Nat) v h' tk bs, its.toArray[i]? = some v → Reads h' v (PySem.W.minD x ds) bs → (∀ b o, s.heap.get? b = some o → h'.get? b = some o) → EP X pins σ Q v { s with heap := h', toks := tk } := by
    intro its rv as hr i v h' tk bs hv hm hk
    have hv : its[i]? = some v := by simpa using hv
    obtain ⟨u, e1, e2⟩ := val_i rv hv
    obtain ⟨d, as', e3, e4⟩ := readsAll_i hr hv
    have := (reads_det (fun b o e _ => hk b o e) e4 hm).1
    exact ⟨u, H, I.kept hk, e2, q i u e1 (by rw [e3, this])⟩
  rcases hs with hs | hs
  · obtain ⟨its, rv, hl, _⟩ := I.list hs
    obtain ⟨as, hr⟩ := Dp.readsAll I _ _ its hd rv
    exact PySem.W.min_list_data (I.ok.hd hc) hl.isList (by simpa using hr) ha (by omega) (fin its rv as hr)
  · obtain ⟨its, rv, hl, _⟩ := I.tuple hs
    obtain ⟨as, hr⟩ := Dp.readsAll I _ _ its hd rv
    exact PySem.W.min_tuple_data (I.ok.hd hc) (show s.heap.IsTuple a its.toArray from hl) (by simpa using hr) ha (by omega) (fin its rv as hr)
theorem cr_maxD (hc : X.calm = true) (hu : X.A.units + 64 < cLine) : CallR X (.builtin "max") (rMinD X.K PySem.W.maxD) := by
  intro pins s σ H vs us Q I r h
  obtain ⟨a, xs, x, ds, rfl, hs, hd, ha, hz, q⟩ := h
  rw [Vals.ref1 r]
  have fin : ∀ (its : List Value) (rv : Vals xs its) (as : List Addr), ReadsAll s.heap its (x :: ds) as → ∀ (i : Nat) v h' tk bs, its.toArray[i]? = some v → Reads h' v (PySem.W.maxD x ds) bs → (∀ b o, s.heap.get? b = some o → h'.get? b = some o) → EP X pins σ Q v { s with heap := h', toks := tk } := by
    intro its rv as hr i v h' tk bs hv hm hk
    have hv : its[i]? = some v := by simpa using hv
    obtain ⟨u, e1, e2⟩ := val_i rv hv
    obtain ⟨d, as', e3, e4⟩ := readsAll_i hr hv
    have := (reads_det (fun b o e _ => hk b o e) e4 hm).1
    exact ⟨u, H, I.kept hk, e2, q i u e1 (by rw [e3, this])⟩
  rcases hs with hs | hs
  · obtain ⟨its, rv, hl, _⟩ := I.list hs
    obtain ⟨as, hr⟩ := Dp.readsAll I _ _ its hd rv
    exact PySem.W.max_list_data (I.ok.hd hc) hl.isList (by simpa using hr) ha (by omega) (fin its rv as hr)
  · obtain ⟨its, rv, hl, _⟩ := I.tuple hs
    obtain ⟨as, hr⟩ := Dp.readsAll I _ _ its hd rv
    exact PySem.W.max_tuple_data (I.ok.hd hc) (show s.heap.IsTuple a its.toArray from hl) (by simpa using hr) ha (by omega) (fin its rv as hr)
/-- max of two -/
def rMax2 (K : PySem.W.Frag) : List V → Hp → VK → Prop := fun vs H Q => ∃ (u1 u2 : V) (x y : PyData), vs = [u1, u2] ∧ DpAll K H [u1, u2] [x, y] ∧ PySem.W.AlikeAll [x, y] ∧ PyData.depthAll [x, y] ≤ 60 ∧
  ∀ (i : Nat) (u : V), [u1, u2][i]? = some u → [x, y][i]? = some (PySem.W.maxD x [y]) → Q u H
section
variable {prog : Program} {w : World} {A : Around} {E : Value → Shared → Prop} {s : Shared}
theorem call_max_twoH {a b : Value} {Q : Value → Shared → Prop}
    (h : wpAny (model prog w) A.in1 (pyIter (.ref s.heap.objs.size)) (fun it s₂ => ∃ I fp wr G n P St H bt, it = .ref I ∧ PySem.WalksS prog w A.in1 I fp wr G n P St ∧ St 0 s₂ ∧ (∀ b ∈ fp, b < s₂.heap.objs.size) ∧ 0 < n ∧
      (∀ b o, H.get? b = some o → b ∉ wr) ∧ (∀ b o, H.get? b = some o → s₂.heap.get? b = some o) ∧ PySem.CmpIn prog w A.in1 .Gt H P bt ∧ ∀ v s', P (argBest bt (n - 1)) v → PySem.Moved wr G s₂ s' → Q v s') E
      { s with heap := s.heap.push { cls := .type "tuple", data := .seq #[a, b] } }) :
    wpAny (model prog w) A (call (.builtin "max") [a, b]) Q E s := by
  have hname : (toString "max" ++ toString ".loop" : String) = "max.loop" := by decide
  refine call_function_tree F.kind_max F.plain_max F.entry_max (F.args_max2 _ _) ?_
  show wpAny _ A.in1 (Builtin.Builtins.bindParams "max" ["key", "default"] 0 ⟨[], []⟩ >>= _) _ _ s
  refine wpAny_bind (wpAny_of_eq (show Builtin.Builtins.bindParams "max" ["key", "default"] 0 ⟨[], []⟩ = pure [none, none] from rfl) ?_)
  show wpAny _ A.in1 (newTuple [a, b] >>= _) _ _ s
  refine wpAny_bind (wpAny_newObj_type ?_)
  refine wpAny_bind (wpAny_mono h (fun it s₂ h₂ => ?_) fun _ _ e => e)
  obtain ⟨I, fp, wr, G, n, P, St, H, bt, rfl, W, hst, hfp, hn, hw, hkeep, hcmp, hQ⟩ := h₂
  refine wpAny_bind (wpAny_newObj_type ?_)
  have hSf : s₂.heap.objs.size ∉ fp := fun hm => Nat.lt_irrefl _ (hfp _ hm)
  rw [hname]
  refine wpAny_pure ⟨plainId_quiet F.plain_max_loop _, PySem.codeAny_max_loop_firstH W H hw bt hcmp s₂.heap.objs.size hSf (PySem.fresh_in hkeep) _ hn (fun b o e => Heap.get?_push_of_some _ (hkeep b o e)) (W.frame 0 s₂ _ s₂.toks hst (Nat.le_refl _) fun b _ o e => Heap.get?_push_of_some _ e) (Heap.get?_push_size _ rfl) fun v s' hP hm => ?_⟩
  exact hQ v s' hP (PySem.Moved.drop_new (tk := s₂.toks) hm (Nat.le_refl _))
theorem max_two_data {a b : Value} {x y : PyData} {as : List Addr} {Q : Value → Shared → Prop} (hh : A.handled = none) (hr : ReadsAll s.heap [a, b] [x, y] as) (ha : PySem.W.AlikeAll [x, y]) (hu : A.units + 1 + PyData.depthAll [x, y] < cLine)
    (h : ∀ (i : Nat) v h' tk bs, [a, b][i]? = some v → Reads h' v (PySem.W.maxD x [y]) bs → (∀ b o, s.heap.get? b = some o → h'.get? b = some o) → Q v { s with heap := h', toks := tk }) :
    wpAny (model prog w) A (call (.builtin "max") [a, b]) Q E s := by
  refine call_max_twoH ?_
  have hT : (s.heap.push { cls := .type "tuple", data := .seq #[a, b] }).IsTuple s.heap.objs.size #[a, b] := ⟨_, Heap.get?_push_size _ rfl, rfl, 0, rfl⟩
  have hk0 : ∀ c o, s.heap.get? c = some o → (s.heap.push ({ cls := .type "tuple", data := .seq #[a, b] } : Obj)).get? c = some o := fun c o e => Heap.get?_push_of_some _ e
  have hr2 : ReadsAll (s.heap.push ({ cls := .type "tuple", data := .seq #[a, b] } : Obj)) (#[a, b] : Array Value).toList [x, y] as := PyProof.Rows.ReadsAll.keeps hk0 hr
  refine PySem.W.iter_tupleW (A := A.in1) (s := { s with heap := s.heap.push { cls := .type "tuple", data := .seq #[a, b] } }) hh hT fun s₂ e W st hfp hw hk => ?_
  refine ⟨_, _, _, _, _, _, _, _, _, rfl, W, st, hfp, by simp, hw, hk, PySem.W.cmpIn_gt (A := A.in1) (s := { s with heap := s.heap.push { cls := .type "tuple", data := .seq #[a, b] } }) hr2 ha (by show A.units + 1 + _ < _; exact hu), fun v s' hP m => ?_⟩
  obtain ⟨h', tk, rfl, hk'⟩ := PySem.W.moved_old e rfl m
  obtain ⟨bs, r, _, _, _⟩ := PySem.W.readsAll_atA hr2 _ v hP
  have e2 := (PySem.W.argBest_fold (fun a b => PySem.W.dataLt b a) PyData.none x [y] 1 (Nat.le_refl _)).2
  rw [List.take_of_length_le (by simp)] at e2
  exact h _ v h' tk bs (by simpa using hP) (PySem.W.reads_keeps hk' (by unfold PySem.W.maxD; rw [← e2]; exact r)) fun b o z => hk' b o (hk0 b o z)
end
theorem cr_max2D (hc : X.calm = true) (hu : X.A.units + 64 < cLine) : CallR X (.builtin "max") (rMax2 X.K) := by
  intro pins s σ H vs us Q I r h
  obtain ⟨u1, u2, x, y, rfl, hd, ha, hz, q⟩ := h
  obtain ⟨w1, w2, rfl, r1, r2⟩ := vals2 r
  obtain ⟨as, hr⟩ := Dp.readsAll I _ _ [w1, w2] hd r
  refine max_two_data (I.ok.hd hc) hr ha (by omega) fun i v h' tk bs hv hm hk => ?_
  obtain ⟨u, e1, e2⟩ := val_i r hv
  obtain ⟨d, as', e3, e4⟩ := readsAll_i hr hv
  have := (reads_det (fun b o e _ => hk b o e) e4 hm).1
  exact ⟨u, H, I.kept hk, e2, q i u e1 (by rw [e3, this])⟩
/-- min of two -/
def rMin2 (K : PySem.W.Frag) : List V → Hp → VK → Prop := fun vs H Q => ∃ (u1 u2 : V) (x y : PyData), vs = [u1, u2] ∧ DpAll K H [u1, u2] [x, y] ∧ PySem.W.AlikeAll [x, y] ∧ PyData.depthAll [x, y] ≤ 60 ∧
  ∀ (i : Nat) (u : V), [u1, u2][i]? = some u → [x, y][i]? = some (PySem.W.minD x [y]) → Q u H
section
variable {prog : Program} {w : World} {A : Around} {E : Value → Shared → Prop} {s : Shared}
theorem call_min_twoH {a b : Value} {Q : Value → Shared → Prop}
    (h : wpAny (model prog w) A.in1 (pyIter (.ref s.heap.objs.size)) (fun it s₂ => ∃ I fp wr G n P St H bt, it = .ref I ∧ PySem.WalksS prog w A.in1 I fp wr G n P St ∧ St 0 s₂ ∧ (∀ b ∈ fp, b < s₂.heap.objs.size) ∧ 0 < n ∧
      (∀ b o, H.get? b = some o → b ∉ wr) ∧ (∀ b o, H.get? b = some o → s₂.heap.get? b = some o) ∧ PySem.CmpIn prog w A.in1 .Lt H P bt ∧ ∀ v s', P (argBest bt (n - 1)) v → PySem.Moved wr G s₂ s' → Q v s') E
      { s with heap := s.heap.push { cls := .type "tuple", data := .seq #[a, b] } }) :
    wpAny (model prog w) A (call (.builtin "min") [a, b]) Q E s := by
  have hname : (toString "min" ++ toString ".loop" : String) = "min.loop" := by decide
  refine call_function_tree F.kind_min F.plain_min F.entry_min (F.args_min2 _ _) ?_
  show wpAny _ A.in1 (Builtin.Builtins.bindParams "min" ["key", "default"] 0 ⟨[], []⟩ >>= _) _ _ s
  refine wpAny_bind (wpAny_of_eq (show Builtin.Builtins.bindParams "min" ["key", "default"] 0 ⟨[], []⟩ = pure [none, none] from rfl) ?_)
  show wpAny _ A.in1 (newTuple [a, b] >>= _) _ _ s
  refine wpAny_bind (wpAny_newObj_type ?_)
  refine wpAny_bind (wpAny_mono h (fun it s₂ h₂ => ?_) fun _ _ e => e)
  obtain ⟨I, fp, wr, G, n, P, St, H, bt, rfl, W, hst, hfp, hn, hw, hkeep, hcmp, hQ⟩ := h₂
  refine wpAny_bind (wpAny_newObj_type ?_)
  have hSf : s₂.heap.objs.size ∉ fp := fun hm => Nat.lt_irrefl _ (hfp _ hm)
  rw [hname]
  refine wpAny_pure ⟨plainId_quiet F.plain_min_loop _, PySem.codeAny_min_loop_firstH W H hw bt hcmp s₂.heap.objs.size hSf (PySem.fresh_in hkeep) _ hn (fun b o e => Heap.get?_push_of_some _ (hkeep b o e)) (W.frame 0 s₂ _ s₂.toks hst (Nat.le_refl _) fun b _ o e => Heap.get?_push_of_some _ e) (Heap.get?_push_size _ rfl) fun v s' hP hm => ?_⟩
  exact hQ v s' hP (PySem.Moved.drop_new (tk := s₂.toks) hm (Nat.le_refl _))
theorem min_two_data {a b : Value} {x y : PyData} {as : List Addr} {Q : Value → Shared → Prop} (hh : A.handled = none) (hr : ReadsAll s.heap [a, b] [x, y] as) (ha : PySem.W.AlikeAll [x, y]) (hu : A.units + 1 + PyData.depthAll [x, y] < cLine)
    (h : ∀ (i : Nat) v h' tk bs, [a, b][i]? = some v → Reads h' v (PySem.W.minD x [y]) bs → (∀ b o, s.heap.get? b = some o → h'.get? b = some o) → Q v { s with heap := h', toks := tk }) :
    wpAny (model prog w) A (call (.builtin "min") [a, b]) Q E s := by
  refine call_min_twoH ?_
  have hT : (s.heap.push { cls := .type "tuple", data := .seq #[a, b] }).IsTuple s.heap.objs.size #[a, b] := ⟨_, Heap.get?_push_size _ rfl, rfl, 0, rfl⟩
  have hk0 : ∀ c o, s.heap.get? c = some o → (s.heap.push ({ cls := .type "tuple", data := .seq #[a, b] } : Obj)).get? c = some o := fun c o e => Heap.get?_push_of_some _ e
  have hr2 : ReadsAll (s.heap.push ({ cls := .type "tuple", data := .seq #[a, b] } : Obj)) (#[a, b] : Array Value).toList [x, y] as := PyProof.Rows.ReadsAll.keeps hk0 hr
  refine PySem.W.iter_tupleW (A := A.in1) (s := { s with heap := s.heap.push { cls := .type "tuple", data := .seq #[a, b] } }) hh hT fun s₂ e W st hfp hw hk => ?_
  refine ⟨_, _, _, _, _, _, _, _, _, rfl, W, st, hfp, by simp, hw, hk, PySem.W.cmpIn_lt (A := A.in1) (s := { s with heap := s.heap.push { cls := .type "tuple", data := .seq #[a, b] } }) hr2 ha (by show A.units + 1 + _ < _; exact hu), fun v s' hP m => ?_⟩
  obtain ⟨h', tk, rfl, hk'⟩ := PySem.W.moved_old e rfl m
  obtain ⟨bs, r, _, _, _⟩ := PySem.W.readsAll_atA hr2 _ v hP
  have e2 := (PySem.W.argBest_fold PySem.W.dataLt PyData.none x [y] 1 (Nat.le_refl _)).2
  rw [List.take_of_length_le (by simp)] at e2
  exact h _ v h' tk bs (by simpa using hP) (PySem.W.reads_keeps hk' (by unfold PySem.W.minD; rw [← e2]; exact r)) fun b o z => hk' b o (hk0 b o z)
end
theorem cr_min2D (hc : X.calm = true) (hu : X.A.units + 64 < cLine) : CallR X (.builtin "min") (rMin2 X.K) := by
  intro pins s σ H vs us Q I r h
  obtain ⟨u1, u2, x, y, rfl, hd, ha, hz, q⟩ := h
  obtain ⟨w1, w2, rfl, r1, r2⟩ := vals2 r
  obtain ⟨as, hr⟩ := Dp.readsAll I _ _ [w1, w2] hd r
  refine min_two_data (I.ok.hd hc) hr ha (by omega) fun i v h' tk bs hv hm hk => ?_
  obtain ⟨u, e1, e2⟩ := val_i r hv
  obtain ⟨d, as', e3, e4⟩ := readsAll_i hr hv
  have := (reads_det (fun b o e _ => hk b o e) e4 hm).1
  exact ⟨u, H, I.kept hk, e2, q i u e1 (by rw [e3, this])⟩
theorem CallR.or {f : Value} {r r' : List V → Hp → VK → Prop} (h : CallR X f r) (h' : CallR X f r') : CallR X f (fun vs H Q => r vs H Q ∨ r' vs H Q) := by
  intro pins s σ H xs us Q I rx q
  rcases q with q | q
  · exact h pins s σ H xs us Q I rx q
  · exact h' pins s σ H xs us Q I rx q
theorem insI_eq (a : Int) : ∀ (l₁ l₂ : List Int), (∀ b ∈ l₁, (!decide (a ≤ b)) = true) → (l₁ ++ a :: l₂).Pairwise (· ≤ ·) → insI a (l₁ ++ l₂) = l₁ ++ a :: l₂
  | [], [], _, _ => rfl
  | [], b :: r, _, h => by
    have := (List.pairwise_cons.mp h).1 b (by simp)
    show (if a ≤ b then a :: b :: r else b :: insI a r) = _
    rw [if_pos this]
    rfl
  | c :: l, r, h, p => by
    have hc := h c (by simp)
    simp only [Bool.not_eq_true', decide_eq_false_iff_not] at hc
    show (if a ≤ c then a :: c :: (l ++ r) else c :: insI a (l ++ r)) = _
    rw [if_neg hc, insI_eq a l r (fun b hb => h b (by simp [hb])) (List.pairwise_cons.mp p).2]
    rfl
theorem isortI_eq : ∀ ns : List Int, ns.mergeSort (fun a b => decide (a ≤ b)) = isortI ns
  | [] => by simp [isortI]
  | a :: l => by
    have tr : ∀ a b c : Int, decide (a ≤ b) = true → decide (b ≤ c) = true → decide (a ≤ c) = true := fun a b c h1 h2 => by
      simp only [decide_eq_true_eq] at *; omega
    have to : ∀ a b : Int, (decide (a ≤ b) || decide (b ≤ a)) = true := fun a b => by
      simp only [Bool.or_eq_true, decide_eq_true_eq]; omega
    obtain ⟨l1, l2, h1, h2, h3⟩ := List.mergeSort_cons (le := fun a b : Int => decide (a ≤ b)) tr to a l
    have sp := List.pairwise_mergeSort (le := fun a b : Int => decide (a ≤ b)) tr to (a :: l)
    rw [h1] at sp
    show _ = insI a (isortI l)
    rw [h1, ← isortI_eq l, h2]
    exact (insI_eq a l1 l2 h3 (sp.imp fun h => by simpa using h)).symm
theorem intsD_eq : ∀ {xs : List D} {ns : List Int}, intsD xs = some ns → xs = ns.map .int
  | [], ns, h => by simp [intsD] at h; subst h; rfl
  | x :: xs, ns, h => by
    cases x <;> simp [intsD] at h
    obtain ⟨ms, h1, rfl⟩ := h
    rw [intsD_eq h1]
    rfl
theorem insB_eq {α : Type} {le : α → α → Bool} (a : α) : ∀ (l₁ l₂ : List α), (∀ b ∈ l₁, (!le a b) = true) → (l₁ ++ a :: l₂).Pairwise (fun x y => le x y = true) → insB le a (l₁ ++ l₂) = l₁ ++ a :: l₂
  | [], [], _, _ => rfl
  | [], b :: r, _, h => by
    have := (List.pairwise_cons.mp h).1 b (by simp)
    show (if le a b = true then a :: b :: r else b :: insB le a r) = _
    rw [if_pos this]
    rfl
  | c :: l, r, h, p => by
    have hc := h c (by simp)
    show (if le a c = true then a :: c :: (l ++ r) else c :: insB le a (l ++ r)) = _
    rw [if_neg (by simpa using hc), insB_eq a l r (fun b hb => h b (by simp [hb])) (List.pairwise_cons.mp p).2]
    rfl
theorem isortB_eq {α : Type} {le : α → α → Bool} (tr : ∀ a b c : α, le a b = true → le b c = true → le a c = true) (to : ∀ a b : α, (le a b || le b a) = true) : ∀ ns : List α, ns.mergeSort le = isortB le ns
  | [] => by simp [isortB]
  | a :: l => by
    obtain ⟨l1, l2, h1, h2, h3⟩ := List.mergeSort_cons (le := le) tr to a l
    have sp := List.pairwise_mergeSort (le := le) tr to (a :: l)
    rw [h1] at sp
    show _ = insB le a (isortB le l)
    rw [h1, ← isortB_eq tr to l, h2]
    exact (insB_eq a l1 l2 h3 sp).symm
theorem sortD_eq (xs : List D) : sortD xs = xs.mergeSort (PySem.W.dataLe false toPy) := by
  unfold sortD
  cases q : intsD xs with
  | none =>
    have T := PySem.W.sortLe_total (PyProof.Rows.listOrd PyProof.Rows.itemOrd) false (fun b : D => PySem.W.keyToks (toPy b))
    exact (isortB_eq T.trans (fun a b => by simpa using T.total a b) xs).symm
  | some ns =>
    rw [intsD_eq q]
    show List.map D.int (isortI ns) = _
    rw [← isortI_eq]
    refine List.map_mergeSort fun a _ b _ => ?_
    have := congrFun (congrFun (PySem.W.dataLe_int (β := Int) id) a) b
    simp only [id] at this
    rw [← this]
    simp only [PySem.W.dataLe_eq, toPy]
/-- sorted of data -/
def rSortD (K : PySem.W.Frag) : List V → Hp → VK → Prop := fun vs H Q => ∃ (F : Hp) (a : Addr) (xs : List D) (us : List V), vs = [V.ref a] ∧ Le F H ∧ SqL K H a us ∧ RelDs K F xs us ∧ okSort xs = true ∧ xs.length ≤ sizeLine ∧
  ∀ us' p, RelDs K F (sortD xs) us' → H p = none → Q (.ref p) (upd H p (.lst us'))
theorem each_rel {F : Hp} : ∀ {out : List Value} {bs : List D}, PySem.W.EachIs (fun v b => ∃ u, RelV u v ∧ RelD X.K F b u) out bs → ∃ us, Vals us out ∧ RelDs X.K F bs us
  | [], _, h => by cases h; exact ⟨[], .nil, by simp [RelDs]⟩
  | _ :: _, _, h => by
    cases h with
    | cons h1 h2 =>
      obtain ⟨u, r1, r2⟩ := h1
      obtain ⟨us, r3, r4⟩ := each_rel h2
      exact ⟨u :: us, .cons r1 r3, by unfold RelDs; exact ⟨r2, r4⟩⟩
theorem cr_sortD (hu : X.A.units + 64 < cLine) : CallR X (.builtin "sorted") (rSortD X.K) := by
  intro pins s σ H vs us Q I r h
  obtain ⟨F, a, xs, ws, rfl, le, hs, hd, ok, hz, q⟩ := h
  rw [Vals.ref1 r]
  obtain ⟨its, rv, hl, _⟩ := I.list hs
  simp only [okSort, Bool.and_eq_true] at ok
  obtain ⟨ok, ok2⟩ := ok
  obtain ⟨h1, h2, h3⟩ := okLts_of ok
  have e1 : ∀ {xs : List D} {ws : List V} {its : List Value}, RelDs X.K F xs ws → Vals ws its → (∀ x ∈ xs, flatN 8 x = true) →
      PySem.W.EachIs (fun v b => ∃ u, RelV u v ∧ RelD X.K F b u) its xs ∧ PySem.W.EachIs (fun v b => ∃ as, Reads s.heap v (toPy b) as) its xs := by
    intro xs
    induction xs with
    | nil => intro ws its hd rv _; cases ws with
      | nil => cases rv; exact ⟨.nil, .nil⟩
      | cons _ _ => unfold RelDs at hd; exact hd.elim
    | cons x xs ih => intro ws its hd rv hf; cases ws with
      | nil => unfold RelDs at hd; exact hd.elim
      | cons u us =>
        cases rv with
        | cons r1 r2 =>
          unfold RelDs at hd
          obtain ⟨i1, i2⟩ := ih hd.2 r2 fun z hz => hf z (by simp [hz])
          obtain ⟨dp, _⟩ := hd.1.dp (H := H) le x (hf x (by simp))
          obtain ⟨as, rd⟩ := Dp.reads I _ _ _ dp r1
          exact ⟨.cons ⟨u, r1, hd.1⟩ i1, .cons ⟨as, rd⟩ i2⟩
  obtain ⟨ea, eb⟩ := e1 hd rv h1
  have hlen : xs.length = its.length := hd.len.trans rv.length
  have hsort : PySem.W.Sortable (xs.map toPy) := by
    rcases Bool.or_eq_true _ _ ▸ ok2 with o | o
    · refine .inl fun d hd' => ?_
      obtain ⟨x, hx, rfl⟩ := List.mem_map.mp hd'
      have := List.all_eq_true.mp o x hx
      split at this
      · rename_i y r; exact ⟨toPy y, toPys r, by simp only [toPy, toPys]⟩
      · cases this
    · refine .inr fun d hd' => ?_
      obtain ⟨x, hx, rfl⟩ := List.mem_map.mp hd'
      refine ⟨h3 x hx, fun ys e => ?_⟩
      have := List.all_eq_true.mp o x hx
      have hfx := h1 x hx
      cases x <;> simp [toPy, flatN] at e this hfx
  refine PySem.W.sorted_data (R := fun v b => ∃ u, RelV u v ∧ RelD X.K F b u) (enc := toPy) (bs := xs) hl.isList ea eb (fun d hd' d' hd'' => ?_) hsort hz (fun b hb => by have := depth_le (h1 b hb); omega) fun out ho eo => ?_
  · obtain ⟨x, hx, rfl⟩ := List.mem_map.mp hd'
    obtain ⟨y, hy, rfl⟩ := List.mem_map.mp hd''
    exact alike_toPy x y (h2 x hx y hy)
  · rw [← sortD_eq] at eo
    obtain ⟨us', r1, r2⟩ := each_rel eo
    obtain ⟨ep, he'⟩ := PyProof.Rows.sortedAll_at s.heap its out.toArray
    have hl' : us'.length ≤ sizeLine := by rw [r1.length, ho]; exact hz
    exact ⟨.ref _, upd H (s.heap.objs.size + 1) (.lst us'), I.laid (t' := s.toks) (fun _ _ => PyProof.Rows.sortedAll_old) (Nat.le_succ _) ⟨hl', out, ep, r1, he'⟩, rfl, q us' _ r2 (I.hok.fresh (Nat.le_succ _))⟩
end

/-- sum of a tuple of ints -/
def rSumT (K : PySem.W.Frag) : List V → Hp → VK → Prop := fun vs H Q => ∃ (a : Addr) (ns : List Int), vs = [V.ref a] ∧ SqT K H a (ns.map V.int) ∧ Q (.int ns.sum) H
theorem cr_sumT {X : Cx} (hc : X.calm = true) : CallR X (.builtin "sum") (rSumT X.K) := by
  intro pins s σ H vs us Q I r h
  obtain ⟨a, ns, rfl, hs, q⟩ := h
  obtain ⟨its, rv, hl, _⟩ := I.tuple hs
  rw [Vals.ref1 r]
  have hi := rv.ints
  obtain ⟨xs, e⟩ := hi.allInts.items
  have hn : numsOf (intItems xs).toList = ns := by rw [← e]; exact hi.numsOf
  rw [nums_intItems] at hn
  have hl : s.heap.IsTuple a its.toArray := hl
  rw [e] at hl
  refine PySem.W.ktm_sumG (I.ok.hd hc) hl fun h' tk t' hk => ?_
  have : EP X pins σ Q (.int ns.sum t') { s with heap := h', toks := tk } := ⟨.int _, H, I.kept hk, ⟨_, rfl⟩, q⟩
  rw [preSum_eq, List.take_of_length_le (by simp), hn]
  exact this
end Ip
end

section
set_option linter.all false
set_option autoImplicit false
set_option maxHeartbeats 1000000
namespace Ip
open PySem PySem.Spec PyProof.Rows L2
variable [Tb]

/-! ### built-in functions -/
theorem cr_lenK {X : Cx} : CallR X (.builtin "len") (fun xs H Q => ∃ p kvs, xs = [.ref p] ∧ Rd H p (.dK kvs) ∧ Q (.int kvs.length) H) := by
  intro pins s σ H vs us Q I rs q
  obtain ⟨p, kvs, rfl, hp, q⟩ := q
  obtain ⟨u, rfl, ru⟩ := vals1 rs
  cases (show u = Value.ref p from ru)
  exact d_len I hp fun t s' I' => ⟨.int kvs.length, H, I', ⟨t, rfl⟩, q⟩
/-- list(d), d walked or not -/
def rKeysL : List V → Hp → VK → Prop := fun vs H Q => ∃ p kvs, vs = [.ref p] ∧ Rd H p (.dK kvs) ∧ ∀ l, H l = none → Q (.ref l) (upd H l (.lst (kvs.map fun z => kV z.1)))
theorem cr_keysL {X : Cx} (hc : X.calm = true) : CallR X (.type "list") rKeysL := by
  intro pins s σ H vs us Q I rs q
  obtain ⟨p, kvs, rfl, hp, q⟩ := q
  obtain ⟨u, rfl, ru⟩ := vals1 rs
  cases (show u = Value.ref p from ru)
  obtain ⟨big, notSys, ws, kv, dd⟩ := dk_rd I.hok hp
  obtain ⟨ep, at_⟩ := dd.dictAt
  have len : kvs.length = ws.length := Paired.length kv
  refine PySem.W.kdl_call (PySem.W.kdl_dict (knd := mixKind X.prog X.w) (kvs := ws) (ep := ep) notSys) (I.ok.hd hc) at_ (len ▸ big) fun hp2 tk out n keep laid each => ?_
  have new : ObjOk X.prog X.w (upd H s.heap.objs.size (.lst (kvs.map fun z => kV z.1))) hp2 s.heap.objs.size (.lst (kvs.map fun z => kV z.1)) := by
    refine ⟨by rw [List.length_map]; exact big, out.toList, n, ?_, by rw [Array.toArray_toList]; exact laid⟩
    have osz : out.toList.length = out.size := by simp
    refine vals_of_at (by rw [List.length_map, osz, each.1, len]) fun j x w hx hw => ?_
    obtain ⟨k, y, hky, hi⟩ := each.2 j w (by rw [← Array.getElem?_toList]; exact hw)
    have at1 : (kvs.map (·.1))[j]? = some k := by
      rw [KV.keys kv, List.getElem?_map, hky]; rfl
    have at2 : (kvs.map fun z => kV z.1)[j]? = some (kV k) := by
      have : (kvs.map fun z => kV z.1) = (kvs.map (·.1)).map kV := by rw [List.map_map]; rfl
      rw [this, List.getElem?_map, at1]; rfl
    rw [at2] at hx
    cases hx
    exact keyIs_rel hi
  exact ⟨.ref s.heap.objs.size, _, I.laid keep (Nat.le_refl _) new, rfl, q _ (I.hok.fresh (Nat.le_refl _))⟩
def bname : BFn → Str
  | .len => "len" | .tuple => "tuple" | .list => "list" | .sum => "sum" | .max => "max" | .min => "min" | .abs => "abs" | .int => "int" | .str => "str" | .sorted => "sorted"
  | .all => "all" | .any => "any" | .dict => "dict" | .divmod => "divmod" | .gcd => "gcd" | .ord => "ord"
/-- which are served -/
def okB : BFn → Bool
  | .str => false | .dict => false | .gcd => false | .ord => false
  | _ => true
def rB (K : PySem.W.Frag) : BFn → List V → Hp → VK → Prop
  | .len => fun xs H Q => (∃ p ys, xs = [.ref p] ∧ (SqL K H p ys ∨ SqT K H p ys) ∧ Q (.int ys.length) H) ∨ (∃ z, xs = [.str z] ∧ z.length ≤ sizeLine ∧ Q (.int z.length) H) ∨ ∃ p kvs, xs = [.ref p] ∧ Rd H p (.dK kvs) ∧ Q (.int kvs.length) H
  | .tuple => fun xs H Q => ∃ p ys, xs = [.ref p] ∧ ((SqL K H p ys ∧ ∀ l, H l = none → Q (.ref l) (upd H l (.tup ys))) ∨ (SqT K H p ys ∧ Q (.ref p) H))
  | .list => fun xs H Q => (∃ p ys, xs = [.ref p] ∧ (SqL K H p ys ∨ SqT K H p ys) ∧ ∀ l, H l = none → Q (.ref l) (upd H l (.lst ys))) ∨ rKeysL xs H Q
  | .sum => fun xs H Q => rSum K xs H Q ∨ rSumT K xs H Q
  | .max => fun xs H Q => (∃ i j, xs = [.int i, .int j] ∧ Q (.int (if j > i then j else i)) H) ∨ rMinD K PySem.W.maxD xs H Q ∨ rMax2 K xs H Q
  | .min => fun xs H Q => (∃ i j, xs = [.int i, .int j] ∧ Q (.int (if j < i then j else i)) H) ∨ rMinD K PySem.W.minD xs H Q ∨ rMin2 K xs H Q
  | .abs => fun xs H Q => ∃ i, xs = [.int i] ∧ Q (.int (if i < 0 then -i else i)) H
  | .int => fun xs H Q => (∃ i, xs = [.int i] ∧ Q (.int i) H) ∨ ∃ k, xs = [.bl k] ∧ Q (.int (if k then 1 else 0)) H
  | .sorted => rSortD K
  | .all => rAll K
  | .any => rAny K
  | .divmod => fun xs H Q => ∃ i j, xs = [.int i, .int j] ∧ CDiv i j ∧ ∀ p, H p = none → Q (.ref p) (upd H p (.tup [.int (i / j), .int (i % j)]))
  | .gcd => rGcd
  | _ => fun _ _ _ => False
section
variable {K : PySem.W.Frag} {F H : Hp} {Q : VK}
theorem intsD_rel : ∀ {xs : List D} {ns : List Int} {vs : List V}, intsD xs = some ns → RelDs K F xs vs → vs = ns.map V.int
  | [], ns, vs, h, r => by
    simp [intsD] at h
    subst h
    cases vs with
    | nil => rfl
    | cons _ _ => unfold RelDs at r; exact r.elim
  | x :: xs, ns, vs, h, r => by
    cases vs with
    | nil => unfold RelDs at r; exact r.elim
    | cons v vs =>
      unfold RelDs at r
      cases x <;> simp [intsD] at h
      rename_i i
      obtain ⟨ms, h1, rfl⟩ := h
      have hv := r.1
      unfold RelD at hv
      subst hv
      rw [List.map_cons, ← intsD_rel h1 r.2]
theorem bools_rel : ∀ {xs : List D} {ns : List Bool} {vs : List V}, bools xs = some ns → RelDs K F xs vs → vs = ns.map V.bl
  | [], ns, vs, h, r => by
    simp [bools] at h
    subst h
    cases vs with
    | nil => rfl
    | cons _ _ => unfold RelDs at r; exact r.elim
  | x :: xs, ns, vs, h, r => by
    cases vs with
    | nil => unfold RelDs at r; exact r.elim
    | cons v vs =>
      unfold RelDs at r
      cases x <;> simp [bools] at h
      rename_i i
      obtain ⟨ms, h1, rfl⟩ := h
      have hv := r.1
      unfold RelD at hv
      subst hv
      rw [List.map_cons, ← bools_rel h1 r.2]
theorem p1 {α β : Type} {R : α → β → Prop} {a : α} {l : List β} (h : Paired R [a] l) : ∃ b, l = [b] ∧ R a b := by
  cases h with
  | cons r t => cases t; exact ⟨_, rfl, r⟩
theorem p2 {α β : Type} {R : α → β → Prop} {a b : α} {l : List β} (h : Paired R [a, b] l) : ∃ c d, l = [c, d] ∧ R a c ∧ R b d := by
  cases h with
  | cons r t =>
    cases t with
    | cons r2 t2 => cases t2; exact ⟨_, _, rfl, r, r2⟩
/-- a list's or a tuple's items -/
theorem RelT.seq {x : D} {xs : List D} {v : V} (le : Le F H) (h : RelT K F H x v) (e : x = .lst xs ∨ x = .tup xs) : ∃ a vs, v = .ref a ∧ Seq K H a vs ∧ RelDs K F xs vs ∧ xs.length ≤ sizeLine := by
  rcases e with rfl | rfl
  · obtain ⟨a, vs, rfl, h1, h2, h3⟩ := h
    exact ⟨a, vs, rfl, .inl h1, h2, h3⟩
  · obtain ⟨a, vs, rfl, h1, h2, h3⟩ := h.tup
    exact ⟨a, vs, rfl, .inr (le.sqt h1), h2, h3⟩
theorem least_ok {g : PyData → List PyData → PyData} {m : D → List D → D} (hg : ∀ (S : List D), okLts S = true → ∀ (xs : List D) (x : D), x ∈ S → (∀ y ∈ xs, y ∈ S) → g (toPy x) (toPys xs) = toPy (m x xs)) (hm : ∀ x xs, m x xs ∈ x :: xs)
    {y : D} {r : List D} {x : D} {v : V} (hx : RelT K F H x v) (e : x = .lst (y :: r) ∨ x = .tup (y :: r)) (ok : okLts (y :: r) = true) (f : Fin K F H (.d (m y r)) Q) : rMinD K g [v] H Q := by
  obtain ⟨a, vs, rfl, h1, h2, h3⟩ := hx.seq f.le e
  obtain ⟨k1, k2, k3⟩ := okLts_of ok
  have dp := (RelDs.dp f.le (y :: r) h2 k1).1
  have eg := hg (y :: r) ok r y (by simp) (fun z hz => by simp [hz])
  simp only [toPys] at dp
  refine ⟨a, vs, toPy y, toPys r, rfl, h1, dp, ?_, ?_, fun i u hi hd => ?_⟩
  · have := alikeAll_of ok
    simpa only [toPys] using this
  · have := depths_le (n := 8) (xs := y :: r) fun z hz => depth_le (k1 z hz)
    simp only [toPys] at this
    omega
  · rw [eg] at hd
    have hd : (toPys (y :: r))[i]? = some (toPy (m y r)) := by simpa only [toPys] using hd
    rw [toPys_map, List.getElem?_map] at hd
    cases hz : (y :: r)[i]? with
    | none => rw [hz] at hd; cases hd
    | some z =>
      rw [hz] at hd
      have e1 : toPy z = toPy (m y r) := Option.some.inj hd
      have e2 : z = m y r := toPy_inj _ _ (k1 z (List.mem_of_getElem? hz)) (k1 _ (hm y r)) e1
      obtain ⟨w, hw, rw'⟩ := h2.get hz
      rw [hi] at hw
      cases hw
      exact f.val _ _ rfl (by rw [← e2]; exact rw')
theorem bfn_ok {g : BFn} {xs : List D} {z : SV} {vs : List V} (h : bfn g xs = some z) (hx : Paired (RelT K F H) xs vs) (f : Fin K F H z Q) : rB K g vs H Q := by
  unfold bfn at h
  split at h
  case h_1 xs =>
    cases h
    obtain ⟨v, rfl, r⟩ := p1 hx
    obtain ⟨a, us, rfl, h1, h2, h3⟩ := r.seq f.le (.inl rfl)
    exact .inl ⟨a, us, rfl, h1, by rw [← h2.len]; exact f.int⟩
  case h_2 xs =>
    cases h
    obtain ⟨v, rfl, r⟩ := p1 hx
    obtain ⟨a, us, rfl, h1, h2, h3⟩ := r.seq f.le (.inr rfl)
    exact .inl ⟨a, us, rfl, h1, by rw [← h2.len]; exact f.int⟩
  case h_3 xs =>
    cases h
    obtain ⟨v, rfl, r⟩ := p1 hx
    obtain ⟨rfl, h1, h2⟩ := r.str
    exact .inr (.inl ⟨_, rfl, by rw [txt_len]; exact h1, by rw [txt_len]; exact f.int⟩)
  case h_4 xs =>
    cases h
    obtain ⟨v, rfl, r⟩ := p1 hx
    obtain ⟨a, us, rfl, h1, h2, h3⟩ := r
    exact ⟨a, us, rfl, .inl ⟨h1, fun p np => f.tup _ _ p rfl h2 h3 np⟩⟩
  case h_5 xs =>
    cases h
    obtain ⟨v, rfl, r⟩ := p1 hx
    obtain ⟨a, us, rfl, h1, h2, h3⟩ := r.tup
    exact ⟨a, us, rfl, .inr ⟨f.le.sqt h1, f.val _ _ rfl (by unfold RelD; exact ⟨a, us, rfl, h1, h2, h3⟩)⟩⟩
  case h_6 xs =>
    cases h
    obtain ⟨v, rfl, r⟩ := p1 hx
    obtain ⟨a, us, rfl, h1, h2, h3⟩ := r.seq f.le (.inl rfl)
    exact .inl ⟨a, us, rfl, h1, fun p np => f.lst _ _ p rfl h2 h3 np⟩
  case h_7 xs =>
    cases h
    obtain ⟨v, rfl, r⟩ := p1 hx
    obtain ⟨a, us, rfl, h1, h2, h3⟩ := r.seq f.le (.inr rfl)
    exact .inl ⟨a, us, rfl, h1, fun p np => f.lst _ _ p rfl h2 h3 np⟩
  case h_8 xs =>
    obtain ⟨v, rfl, r⟩ := p1 hx
    obtain ⟨a, us, rfl, h1, h2, h3⟩ := r
    cases hn : intsD xs with
    | none => rw [hn] at h; cases h
    | some ns =>
      rw [hn] at h
      cases h
      have := intsD_rel hn h2
      subst this
      exact .inl ⟨a, ns, rfl, h1, f.int⟩
  case h_9 i j =>
    cases h
    obtain ⟨v, u, rfl, r1, r2⟩ := p2 hx
    cases r1.int; cases r2.int
    exact .inl ⟨i, j, rfl, f.int⟩
  case h_10 i j =>
    cases h
    obtain ⟨v, u, rfl, r1, r2⟩ := p2 hx
    cases r1.int; cases r2.int
    exact .inl ⟨i, j, rfl, f.int⟩
  case h_11 y r =>
    split at h
    case isFalse => cases h
    case isTrue ok => cases h; obtain ⟨v, rfl, rv⟩ := p1 hx; exact .inr (.inl (least_ok (fun S h => maxD_toPy h) greatest_mem rv (.inl rfl) ok f))
  case h_12 y r =>
    split at h
    case isFalse => cases h
    case isTrue ok => cases h; obtain ⟨v, rfl, rv⟩ := p1 hx; exact .inr (.inl (least_ok (fun S h => minD_toPy h) least_mem rv (.inl rfl) ok f))
  case h_13 y r =>
    split at h
    case isFalse => cases h
    case isTrue ok => cases h; obtain ⟨v, rfl, rv⟩ := p1 hx; exact .inr (.inl (least_ok (fun S h => maxD_toPy h) greatest_mem rv (.inr rfl) ok f))
  case h_14 y r =>
    split at h
    case isFalse => cases h
    case isTrue ok => cases h; obtain ⟨v, rfl, rv⟩ := p1 hx; exact .inr (.inl (least_ok (fun S h => minD_toPy h) least_mem rv (.inr rfl) ok f))
  case h_15 i =>
    cases h
    obtain ⟨v, rfl, r⟩ := p1 hx
    cases r.int
    exact ⟨i, rfl, f.int⟩
  case h_16 i =>
    cases h
    obtain ⟨v, rfl, r⟩ := p1 hx
    cases r.int
    exact .inl ⟨i, rfl, f.int⟩
  case h_17 xs =>
    split at h
    case isFalse => cases h
    case isTrue ok =>
      cases h
      obtain ⟨v, rfl, r⟩ := p1 hx
      obtain ⟨a, us, rfl, h1, h2, h3⟩ := r
      refine ⟨F, a, xs, us, rfl, f.le, h1, h2, ok, h3, fun us' p r' np => f.lst _ _ p rfl r' ?_ np⟩
      rw [sortD_eq, List.length_mergeSort]
      exact h3
  case h_18 xs =>
    obtain ⟨v, rfl, r⟩ := p1 hx
    obtain ⟨a, us, rfl, h1, h2, h3⟩ := r
    cases hn : bools xs with
    | none => rw [hn] at h; cases h
    | some ns =>
      rw [hn] at h
      cases h
      have := bools_rel hn h2
      subst this
      exact ⟨a, ns, rfl, h1, f.bl⟩
  case h_19 xs =>
    obtain ⟨v, rfl, r⟩ := p1 hx
    obtain ⟨a, us, rfl, h1, h2, h3⟩ := r
    cases hn : bools xs with
    | none => rw [hn] at h; cases h
    | some ns =>
      rw [hn] at h
      cases h
      have := bools_rel hn h2
      subst this
      exact ⟨a, ns, rfl, h1, f.bl⟩
  case h_20 i j =>
    split at h
    case isFalse => cases h
    case isTrue ok =>
      cases h
      simp only [Bool.and_eq_true, decide_eq_true_eq] at ok
      obtain ⟨v, u, rfl, r1, r2⟩ := p2 hx
      cases r1.int; cases r2.int
      refine ⟨i, j, rfl, ok, fun p np => f.tup _ _ p rfl ?_ (by rw [sizeLine_eq]; simp) np⟩
      simp [RelDs, RelD]
  case h_21 xs =>
    obtain ⟨v, rfl, r⟩ := p1 hx
    obtain ⟨a, us, rfl, h1, h2, h3⟩ := r.tup
    cases hn : intsD xs with
    | none => rw [hn] at h; cases h
    | some ns =>
      rw [hn] at h
      cases h
      have := intsD_rel hn h2
      subst this
      exact .inr ⟨a, ns, rfl, f.le.sqt h1, f.int⟩
  case h_22 i j =>
    cases h
    obtain ⟨v, u, rfl, r1, r2⟩ := p2 hx
    cases r1.int; cases r2.int
    exact ⟨i, j, rfl, f.int⟩
  case h_23 kvs =>
    split at h
    case isFalse => cases h
    case isTrue hl =>
      cases h
      obtain ⟨v, rfl, r⟩ := p1 hx
      obtain ⟨a, ps, rfl, h1, h2⟩ := r
      refine .inr ⟨a, ps, rfl, h1, fun p np => f.lst _ _ p rfl h2.keys ?_ np⟩
      rw [List.length_map]
      exact line1m hl
  case h_24 kvs =>
    cases h
    obtain ⟨v, rfl, r⟩ := p1 hx
    obtain ⟨a, ps, rfl, h1, h2⟩ := r
    exact .inr (.inr ⟨a, ps, rfl, h1, by rw [← h2.len]; exact f.int⟩)
  case h_25 a b =>
    split at h
    case isFalse => cases h
    case isTrue ok =>
      cases h
      obtain ⟨v, u, rfl, r1, r2⟩ := p2 hx
      refine .inr (.inr ?_)
      have r1 : RelD K F (.tup a) v := r1
      have r2 : RelD K F (.tup b) u := r2
      obtain ⟨k1, k2, k3⟩ := okLts_of ok
      have hds : RelDs K F [.tup a, .tup b] [v, u] := by unfold RelDs; exact ⟨r1, by unfold RelDs; exact ⟨r2, by unfold RelDs; trivial⟩⟩
      have dp := (RelDs.dp f.le [.tup a, .tup b] hds k1).1
      have eg := maxD_toPy ok [.tup b] (.tup a) (by simp) (fun z hz => by simp at hz; simp [hz])
      simp only [toPys] at dp eg
      refine ⟨v, u, toPy (.tup a), toPy (.tup b), rfl, dp, ?_, ?_, fun i w hi hd => ?_⟩
      · have := alikeAll_of ok
        simpa only [toPys] using this
      · have := depths_le (n := 8) (xs := [.tup a, .tup b]) fun z hz => depth_le (k1 z hz)
        simp only [toPys] at this
        omega
      · rw [eg] at hd
        have hd : (toPys [.tup a, .tup b])[i]? = some (toPy (greatestD (.tup a) [.tup b])) := by simpa only [toPys] using hd
        rw [toPys_map, List.getElem?_map] at hd
        cases hz : ([.tup a, .tup b] : List D)[i]? with
        | none => rw [hz] at hd; cases hd
        | some z =>
          rw [hz] at hd
          have e1 : toPy z = toPy (greatestD (.tup a) [.tup b]) := Option.some.inj hd
          have e2 : z = greatestD (.tup a) [.tup b] := toPy_inj _ _ (k1 z (List.mem_of_getElem? hz)) (k1 _ (greatest_mem (.tup a) [.tup b])) e1
          obtain ⟨w', hw, rw'⟩ := hds.get hz
          rw [hi] at hw
          cases hw
          exact f.val _ _ rfl (by rw [← e2]; exact rw')
  case h_26 a b =>
    split at h
    case isFalse => cases h
    case isTrue ok =>
      cases h
      obtain ⟨v, u, rfl, r1, r2⟩ := p2 hx
      refine .inr (.inr ?_)
      have r1 : RelD K F (.tup a) v := r1
      have r2 : RelD K F (.tup b) u := r2
      obtain ⟨k1, k2, k3⟩ := okLts_of ok
      have hds : RelDs K F [.tup a, .tup b] [v, u] := by unfold RelDs; exact ⟨r1, by unfold RelDs; exact ⟨r2, by unfold RelDs; trivial⟩⟩
      have dp := (RelDs.dp f.le [.tup a, .tup b] hds k1).1
      have eg := minD_toPy ok [.tup b] (.tup a) (by simp) (fun z hz => by simp at hz; simp [hz])
      simp only [toPys] at dp eg
      refine ⟨v, u, toPy (.tup a), toPy (.tup b), rfl, dp, ?_, ?_, fun i w hi hd => ?_⟩
      · have := alikeAll_of ok
        simpa only [toPys] using this
      · have := depths_le (n := 8) (xs := [.tup a, .tup b]) fun z hz => depth_le (k1 z hz)
        simp only [toPys] at this
        omega
      · rw [eg] at hd
        have hd : (toPys [.tup a, .tup b])[i]? = some (toPy (leastD (.tup a) [.tup b])) := by simpa only [toPys] using hd
        rw [toPys_map, List.getElem?_map] at hd
        cases hz : ([.tup a, .tup b] : List D)[i]? with
        | none => rw [hz] at hd; cases hd
        | some z =>
          rw [hz] at hd
          have e1 : toPy z = toPy (leastD (.tup a) [.tup b]) := Option.some.inj hd
          have e2 : z = leastD (.tup a) [.tup b] := toPy_inj _ _ (k1 z (List.mem_of_getElem? hz)) (k1 _ (least_mem (.tup a) [.tup b])) e1
          obtain ⟨w', hw, rw'⟩ := hds.get hz
          rw [hi] at hw
          cases hw
          exact f.val _ _ rfl (by rw [← e2]; exact rw')
  case h_27 => cases h
theorem bfn_un {g : BFn} {xs : List D} {z : SV} (h : bfn g xs = some z) : z ≠ .un := by
  rintro rfl
  unfold bfn at h
  split at h <;> first | cases h | (split at h <;> cases h) | skip
  all_goals
    simp at h
end
section
variable {X : Cx} {Wx : L2.WX} {ms : Env → R (List W)} {ma : Env → R W} {a : Expr} {es : List Expr} {p pos : Pos} {t : TA}
theorem bi_pe {f : BFn} (hc : X.calm = true) (hu : X.A.units + 64 < cLine) (ok : okB f = true) (hg : Gl X (bname f)) (hm : X.mg (bname f) = none) (ha : PA X (a :: es) t) (hp : plainArg a = true) (hpl : (backTo pos (starEach es X.env)).any (·.1) = false) :
    PE X (.Call (.Name (bname f) p) (a :: es) [] pos) (tCB (rB X.K f) t) := by
  cases f <;> first | (cases ok; done) | skip
  · exact pe_callB (CallR.or call_len_seq (CallR.or call_len_str cr_lenK)) hg hm boot_len ha (by decide) (by decide) (star_plain hp) hpl
  · exact pe_callTy call_tuple_of hg hm boot_tuple ha (by decide) (by decide) (star_plain hp) hpl
  · exact pe_callTy (CallR.or call_list_of (cr_keysL hc)) hg hm boot_list ha (by decide) (by decide) (star_plain hp) hpl
  · exact pe_callB (CallR.or (cr_sum hc) (cr_sumT hc)) hg hm boot_sum ha (by decide) (by decide) (star_plain hp) hpl
  · exact pe_callB (CallR.or (call_max2 hc) (CallR.or (cr_maxD hc hu) (cr_max2D hc hu))) hg hm boot_max ha (by decide) (by decide) (star_plain hp) hpl
  · exact pe_callB (CallR.or (call_min2 hc) (CallR.or (cr_minD hc hu) (cr_min2D hc hu))) hg hm boot_min ha (by decide) (by decide) (star_plain hp) hpl
  · exact pe_callB call_abs hg hm boot_abs ha (by decide) (by decide) (star_plain hp) hpl
  · exact pe_callTy call_int1 hg hm boot_int ha (by decide) (by decide) (star_plain hp) hpl
  · exact pe_callB (cr_sortD hu) hg hm boot_sorted ha (by decide) (by decide) (star_plain hp) hpl
  · exact pe_callB (cr_all hc) hg hm boot_all ha (by decide) (by decide) (star_plain hp) hpl
  · exact pe_callB (cr_any hc) hg hm boot_any ha (by decide) (by decide) (star_plain hp) hpl
  · exact pe_callB call_divmod hg hm boot_divmod ha (by decide) (by decide) (star_plain hp) hpl
theorem I_bi {f : BFn} (hc : X.calm = true) (hu : X.A.units + 64 < cLine) (ok : okB f = true) (hg : Gl X (bname f)) (hm : X.mg (bname f) = none) (ha : PA X (a :: es) (tIs X.K Wx ms)) (hp : plainArg a = true) (hpl : (backTo pos (starEach es X.env)).any (·.1) = false) :
    PE X (.Call (.Name (bname f) p) (a :: es) [] pos) (tI X.K Wx fun e => (ms e).bind fun ws e => match seeAll e ws with
      | some xs => pure1 e (bfn f xs)
      | none => .no) := by
  refine PE.imp (bi_pe hc hu ok hg hm ha hp hpl) fun σ H Q ⟨e, w, hw, ok, h⟩ => ?_
  subst hw
  refine tIs_run ok .refl .nil h fun xs e1 w1 vs fs ok1 rs ss g1 go1 h1 => ?_
  cases qx : seeAll e1 xs with
  | none => rw [qx] at h1; exact h1.elim
  | some ys =>
    rw [qx] at h1
    cases qz : bfn f ys with
    | none => simp only [qz, pure1] at h1; exact h1.elim
    | some z =>
      simp only [qz, pure1] at h1
      exact bfn_ok qz (seeAll_ok ok1 rs qx) (Got.fin h1 ok1 go1 (bfn_un qz))
theorem I_isin {T : Str} {ty : Ty} {p2 : Pos} (hg : Gl X "isinstance") (hm : X.mg "isinstance" = none) (hgT : Gl X T) (hmT : X.mg T = none) (hT : bootBuiltins T = some (.type (tyStr ty))) (hTn : T ≠ "__name__") (hTd : (T == ("__debug__" : Str)) = false) (hty : ∀ c, ty ≠ .cls c)
    (ha : PE X a (tI X.K Wx ma)) (hp : plainArg a = true) : PE X (.Call (.Name "isinstance" p) [a, .Name T p2] [] pos) (tI X.K Wx fun e => (ma e).bind fun x e => match see e x with
      | some x => .ok (.v (.d (.bl ([ty].any (isTy x))))) e
      | none => .no) := by
  refine PE.imp (pe_callB call_isi hg hm boot_isinstance (pa_cons ha (pa_cons (pe_bltn hgT hmT hT (v := .ty (tyStr ty)) rfl hTn hTd) pa_nil) (star_plain hp)) (by decide) (by decide) (star_plain hp) rfl) fun σ H Q ⟨e, w, hw, ok, h⟩ => ?_
  subst hw
  refine tI_run ok .refl .nil h fun x e1 w1 vx fx ok1 rx sx g1 go1 h1 => ?_
  cases qx : see e1 x with
  | none => rw [qx] at h1; exact h1.elim
  | some y =>
    rw [qx] at h1
    have rt := see_ok ok1 rx qx
    refine ⟨vx, .ty (tyStr ty), _, _, isTy y ty, rfl, .ty _, tyx_is ok1.le rt, kit_is rt hty, ?_⟩
    have := (Got.fin h1 ok1 go1 (by simp)).bl
    simpa using this
theorem I_isin2 {T U : Str} {ty uy : Ty} {p2 p3 p4 : Pos} {k : Nat} (hg : Gl X "isinstance") (hm : X.mg "isinstance" = none) (hgT : Gl X T) (hmT : X.mg T = none) (hT : bootBuiltins T = some (.type (tyStr ty))) (hTn : T ≠ "__name__") (hTd : (T == ("__debug__" : Str)) = false) (hty : ∀ c, ty ≠ .cls c)
    (hgU : Gl X U) (hmU : X.mg U = none) (hU : bootBuiltins U = some (.type (tyStr uy))) (hUn : U ≠ "__name__") (hUd : (U == ("__debug__" : Str)) = false) (huy : ∀ c, uy ≠ .cls c)
    (ha : PE X a (tI X.K Wx ma)) (hp : plainArg a = true) : PE X (.Call (.Name "isinstance" p) [a, .Tuple [.Name T p2, .Name U p3] k p4] [] pos) (tI X.K Wx fun e => (ma e).bind fun x e => match see e x with
      | some x => .ok (.v (.d (.bl ([ty, uy].any (isTy x))))) e
      | none => .no) := by
  refine PE.imp (pe_callB call_isiT hg hm boot_isinstance (pa_cons ha (pa_cons (pe_tup (pa_cons (pe_bltn hgT hmT hT (v := .ty (tyStr ty)) rfl hTn hTd) (pa_cons (pe_bltn hgU hmU hU (v := .ty (tyStr uy)) rfl hUn hUd) pa_nil))) pa_nil) (star_plain hp)) (by decide) (by decide) (star_plain hp) rfl) fun σ H Q ⟨e, w, hw, ok, h⟩ => ?_
  subst hw
  refine tI_run ok .refl .nil h fun x e1 w1 vx fx ok1 rx sx g1 go1 h1 => ?_
  refine ⟨by rw [sizeLine_eq]; simp, fun q nq => ?_⟩
  cases qx : see e1 x with
  | none => rw [qx] at h1; exact h1.elim
  | some y =>
    rw [qx] at h1
    have ok2 := ok1.newF (o := .tup [.ty (tyStr ty), .ty (tyStr uy)]) nq
    have go2 := go1.newF (o := .tup [.ty (tyStr ty), .ty (tyStr uy)]) nq ok1.le
    have sx2 := sx.newF (o := .tup [.ty (tyStr ty), .ty (tyStr uy)]) nq
    have rx2 : RelW X.K σ ⟨upd w1.F q (.tup [.ty (tyStr ty), .ty (tyStr uy)]), upd w1.H q (.tup [.ty (tyStr ty), .ty (tyStr uy)]), w1.fs⟩ x vx fx := rx.ext (upd_le (ok1.le.none nq)) fun b _ o z => upd_some z nq
    have rt := see_ok ok2 rx2 qx
    refine ⟨vx, q, _, _, [_, _], isTy y ty || (isTy y uy || false), rfl, upd_same, .cons (.ty _) (.cons (.ty _) .nil), tyx_is ok2.le rt, ?_, ?_⟩
    · refine kitAny_cons (kit_is rt hty) (fun h0 => kitAny_cons (r := isTy y uy || false) (kit_is rt huy) (fun h1 => ?_) (fun h1 => by rw [h1]; rfl) |>.trans (by rw [h0]; rfl)) (fun h0 => by rw [h0]; rfl)
      rw [h1]; rfl
    · have := (Got.fin h1 ok2 go2 (by simp)).bl
      simpa using this
end
end Ip
end

section
set_option linter.all false
set_option autoImplicit false
set_option maxHeartbeats 1000000
namespace Ip
open PySem PySem.Spec PyProof.Rows L2
variable [Tb]

/-! ### tests -/
def tst (m : Env → R W) (e : Env) : R Bool := (m e).bind fun x e => ofO e ((see e x).bind truD)
def tT (K : PySem.W.Frag) (Wx : L2.WX) (m : Env → R W) : TT := fun σ H Q => ∃ e w, w.H = H ∧ Ok K e σ w ∧ PR K Wx σ w (tst m e) fun b e' => ∀ w', Ok K e' σ w' → Go w w' [] → Q b w'.H
theorem PT.imp {X : Cx} {e : Expr} {t t' : TT} (h : PT X e t) (k : ∀ σ H Q, t' σ H Q → t σ H Q) : PT X e t' := ⟨fun pins s σ H Q I q => h.run pins s σ H Q I (k σ H Q q)⟩
theorem PW.imp {X : Cx} {e : Expr} {t t' : TT} (h : PW X e t) (k : ∀ σ H Q, t' σ H Q → t σ H Q) : PW X e t' := ⟨fun wh pins s σ H Q I q => h.run wh pins s σ H Q I (k σ H Q q)⟩
section
variable {K : PySem.W.Frag} {Wx : L2.WX} {σ : L2.St} {w0 w1 : Wld} {e : Env} {m : Env → R W} {g : List Addr}
/-- a test runs, g waiting -/
theorem tT_run {α : Type} {f : Bool → Env → R α} {k : α → Env → Prop} {Q : Bool → Hp → Prop} (ok : Ok K e σ w1) (go : Go w0 w1 g) (sp : Sep w1 g) (h : PR K Wx σ w0 ((tst m e).bind f) k)
    (hQ : ∀ b e' w', Ok K e' σ w' → Sep w' g → Go w1 w' [] → Go w0 w' g → PR K Wx σ w0 (f b e') k → Q b w'.H) : tT K Wx m σ w1.H Q :=
  ⟨e, w1, rfl, ok, (h.bind.go go).mono fun b e' hk w' ok' g' => hQ b e' w' ok' (by simpa using sp.go g' .nil) g' (by simpa using go.trans g') hk⟩
theorem tst_bind {α : Type} (f : Bool → Env → R α) : (tst m e).bind f = (m e).bind fun x e => match (see e x).bind truD with
    | some b => f b e
    | none => .no := by
  unfold tst
  cases m e with
  | ok x e1 =>
    simp only [R.bind]
    cases (see e1 x).bind truD <;> rfl
  | exc x e1 => rfl
  | no => rfl
end
section
variable {X : Cx} {Wx : L2.WX} {ma mb mc : Env → R W} {a b c : Expr} {pos : Pos}
theorem T_val (ha : PE X a (tI X.K Wx ma)) (he : ∀ whole, isTrue a X.env whole = (do let v ← whole; standAt a.pos; holding [v] (truthy v))) : PT X a (tT X.K Wx ma) := by
  refine PT.imp (pt_truth ha he) fun σ H Q ⟨e, w, hw, ok, h⟩ => ?_
  subst hw
  unfold tst at h
  refine tI_run ok .refl .nil h fun x e1 w1 vx fx ok1 rx sx g1 go1 h1 => ?_
  cases q : (see e1 x).bind truD with
  | none => rw [q] at h1; exact h1.elim
  | some b =>
    rw [q] at h1
    exact ⟨b, tru_see ok1 rx q, h1 w1 ok1 (go1.sub (by simp))⟩
/-- where the value is a bool -/
theorem tT_tI {m : Env → R W} (hb : ∀ e x e', m e = .ok x e' → ∃ b, x = .v (.d (.bl b))) {σ : L2.St} {H : Hp} {Q : Bool → Hp → Prop} (h : tT X.K Wx m σ H Q) : tI X.K Wx m σ H fun x H' => ∃ k, x = .bl k ∧ Q k H' := by
  obtain ⟨e, w, hw, ok, h⟩ := h
  subst hw
  refine ⟨e, w, rfl, ok, ?_⟩
  unfold tst at h
  cases q : m e with
  | no => rw [q] at h; exact h
  | exc x e1 => rw [q] at h; exact h
  | ok x e1 =>
    rw [q] at h
    obtain ⟨b, rfl⟩ := hb e x e1 q
    intro w1 v f ok1 r s go
    obtain ⟨⟨r, _⟩, _⟩ := r
    unfold RelD at r
    subst r
    exact ⟨b, rfl, h w1 ok1 (go.sub (by simp))⟩
theorem mCmp_bl {op : COp} (e : Env) (x : W) (e' : Env) (h : mCmp op ma mb e = .ok x e') : ∃ b, x = .v (.d (.bl b)) := by
  unfold mCmp at h
  cases q1 : ma e with
  | no => rw [q1] at h; cases h
  | exc x e1 => rw [q1] at h; cases h
  | ok x e1 =>
    rw [q1] at h
    simp only [R.bind] at h
    cases q2 : mb e1 with
    | no => rw [q2] at h; cases h
    | exc x e1 => rw [q2] at h; cases h
    | ok y e2 =>
      rw [q2] at h
      simp only at h
      split at h
      · split at h
        · cases h; exact ⟨_, rfl⟩
        · cases h
      · cases h
theorem mCmp2_bl {op op' : COp} (e : Env) (x : W) (e' : Env) (h : mCmp2 op op' ma mb mc e = .ok x e') : ∃ b, x = .v (.d (.bl b)) := by
  unfold mCmp2 at h
  cases q1 : ma e with
  | no => rw [q1] at h; cases h
  | exc x e1 => rw [q1] at h; cases h
  | ok x e1 =>
    rw [q1] at h
    simp only [R.bind] at h
    cases q2 : mb e1 with
    | no => rw [q2] at h; cases h
    | exc x e1 => rw [q2] at h; cases h
    | ok y e2 =>
      rw [q2] at h
      simp only at h
      split at h
      · split at h
        · cases q3 : mc e2 with
          | no => rw [q3] at h; cases h
          | exc x e1 => rw [q3] at h; cases h
          | ok z e3 =>
            rw [q3] at h
            simp only at h
            split at h
            · split at h
              · cases h; exact ⟨_, rfl⟩
              · cases h
            · cases h
        · cases h; exact ⟨_, rfl⟩
        · cases h
      · cases h
theorem T_cmp {op : COp} (hu : X.A.units + 65 < cLine) (ha : PE X a (tI X.K Wx ma)) (hb : PE X b (tI X.K Wx mb)) (hm : behindInMarks (cmpr op) b = false) : PT X (.Compare a [cmpr op] [b] pos) (tT X.K Wx (mCmp op ma mb)) :=
  PT.imp (pt_cmpR (cmp_op hu op) ha hb hm) fun σ H Q h => imp_cmp (tT_tI mCmp_bl h)
theorem T_cmp2 {op op' : COp} (hu : X.A.units + 65 < cLine) (ha : PE X a (tI X.K Wx ma)) (hb : PE X b (tI X.K Wx mb)) (hc : PE X c (tI X.K Wx mc)) (hm : lastMarks [cmpr op, cmpr op'] [b, c] = false) :
    PT X (.Compare a [cmpr op, cmpr op'] [b, c] pos) (tT X.K Wx (mCmp2 op op' ma mb mc)) := PT.imp (pt_chain (cmp_op hu op) (cmp_op hu op') ha hb hc hm) fun σ H Q h => imp_cmp2 (tT_tI mCmp2_bl h)
def mNot (ma : Env → R W) : Env → R W := fun e => (ma e).bind fun x e => match (see e x).bind truD with
  | some b => .ok (.v (.d (.bl (!b)))) e
  | none => .no
def mAnd (ma mb : Env → R W) : Env → R W := fun e => (ma e).bind fun x e => match (see e x).bind truD with
  | some true => mb e
  | some false => .ok x e
  | none => .no
def mOr (ma mb : Env → R W) : Env → R W := fun e => (ma e).bind fun x e => match (see e x).bind truD with
  | some true => .ok x e
  | some false => mb e
  | none => .no
theorem tst_not (e : Env) : tst (mNot ma) e = (tst ma e).bind fun b e => .ok (!b) e := by
  rw [tst_bind]
  unfold tst mNot
  cases ma e with
  | ok x e1 =>
    simp only [R.bind]
    cases (see e1 x).bind truD <;> rfl
  | exc x e1 => rfl
  | no => rfl
theorem tst_and (e : Env) : tst (mAnd ma mb) e = (tst ma e).bind fun b e => if b then tst mb e else .ok false e := by
  rw [tst_bind]
  unfold tst mAnd
  cases ma e with
  | ok x e1 =>
    simp only [R.bind]
    cases q : (see e1 x).bind truD with
    | none => rfl
    | some b => cases b <;> simp [q, ofO]
  | exc x e1 => rfl
  | no => rfl
theorem tst_or (e : Env) : tst (mOr ma mb) e = (tst ma e).bind fun b e => if b then .ok true e else tst mb e := by
  rw [tst_bind]
  unfold tst mOr
  cases ma e with
  | ok x e1 =>
    simp only [R.bind]
    cases q : (see e1 x).bind truD with
    | none => rfl
    | some b => cases b <;> simp [q, ofO]
  | exc x e1 => rfl
  | no => rfl
theorem T_not (ha : PT X a (tT X.K Wx ma)) : PT X (.UnaryOp .Not a pos) (tT X.K Wx (mNot ma)) := by
  refine PT.imp (pt_not ha) fun σ H Q ⟨e, w, hw, ok, h⟩ => ?_
  subst hw
  rw [tst_not] at h
  exact tT_run ok .refl .nil h fun b e1 w1 ok1 s1 g1 go1 h1 => h1 w1 ok1 g1
theorem tT_end {K : PySem.W.Frag} {Wx : L2.WX} {σ : L2.St} {w0 w1 : Wld} {e : Env} {m : Env → R W} {Q : Bool → Hp → Prop} (ok : Ok K e σ w1) (go : Go w0 w1 []) (h : PR K Wx σ w0 (tst m e) fun b e' => ∀ w', Ok K e' σ w' → Go w0 w' [] → Q b w'.H) : tT K Wx m σ w1.H Q :=
  ⟨e, w1, rfl, ok, (h.go go).mono fun b e' hk w' ok' g' => hk w' ok' (go.trans g')⟩
theorem T_and1 (ha : PT X a (tT X.K Wx ma)) : PW X (.BoolOp .And [a] pos) (tT X.K Wx ma) := pw_and1 ha
theorem T_or1 (ha : PT X a (tT X.K Wx ma)) : PW X (.BoolOp .Or [a] pos) (tT X.K Wx ma) := pw_or1 ha
theorem T_and {rest : List Expr} (ha : PT X a (tT X.K Wx ma)) (hb : PW X (.BoolOp .And (b :: rest) pos) (tT X.K Wx mb)) : PW X (.BoolOp .And (a :: b :: rest) pos) (tT X.K Wx (mAnd ma mb)) := by
  refine PW.imp (pw_and ha hb) fun σ H Q ⟨e, w, hw, ok, h⟩ => ?_
  subst hw
  rw [tst_and] at h
  refine tT_run ok .refl .nil h fun b e1 w1 ok1 s1 g1 go1 h1 => ?_
  cases b with
  | true => rw [if_pos rfl] at h1 ⊢; exact tT_end ok1 g1 h1
  | false => rw [if_neg (by simp)] at h1 ⊢; exact h1 w1 ok1 g1
theorem T_or {rest : List Expr} (ha : PT X a (tT X.K Wx ma)) (hb : PW X (.BoolOp .Or (b :: rest) pos) (tT X.K Wx mb)) : PW X (.BoolOp .Or (a :: b :: rest) pos) (tT X.K Wx (mOr ma mb)) := by
  refine PW.imp (pw_or ha hb) fun σ H Q ⟨e, w, hw, ok, h⟩ => ?_
  subst hw
  rw [tst_or] at h
  refine tT_run ok .refl .nil h fun b e1 w1 ok1 s1 g1 go1 h1 => ?_
  cases b with
  | true => rw [if_pos rfl] at h1 ⊢; exact h1 w1 ok1 g1
  | false => rw [if_neg (by simp)] at h1 ⊢; exact tT_end ok1 g1 h1
theorem I_ite (hc : PT X c (tT X.K Wx mc)) (ha : PE X a (tI X.K Wx ma)) (hb : PE X b (tI X.K Wx mb)) : PE X (.IfExp c a b pos) (tI X.K Wx fun e => (mc e).bind fun x e => match (see e x).bind truD with
    | some true => ma e
    | some false => mb e
    | none => .no) := by
  refine PE.imp (pe_ifExp hc ha hb) fun σ H Q ⟨e, w, hw, ok, h⟩ => ?_
  subst hw
  have h : PR X.K Wx σ w ((tst mc e).bind fun b e => if b then ma e else mb e) (Got X.K σ w Q) := by
    rw [tst_bind]
    refine cast ?_ h
    dsimp only
    congr 1
    congr 1
    funext x e
    cases (see e x).bind truD with
    | none => rfl
    | some b => cases b <;> rfl
  refine tT_run ok .refl .nil h fun b e1 w1 ok1 s1 g1 go1 h1 => ?_
  cases b with
  | true => rw [if_pos rfl] at h1 ⊢; exact tI_end ok1 g1 h1
  | false => rw [if_neg (by simp)] at h1 ⊢; exact tI_end ok1 g1 h1
end

theorem nd_ofF : ∀ {fs : List (List Addr)} {i : Nat} {f : List Addr}, fs.flatten.Nodup → fs[i]? = some f → f.Nodup
  | [], _, _, _, e => by simp at e
  | h :: fs, 0, f, nd, e => by
    have e : h = f := by simpa using e
    subst e
    rw [List.flatten_cons] at nd
    exact (List.nodup_append.mp nd).1
  | h :: fs, i + 1, f, nd, e => by
    rw [List.flatten_cons] at nd
    exact nd_ofF (List.nodup_append.mp nd).2.1 (by simpa using e)
/-! ### statements -/
/-- the names that keep what they hold -/
def Keep (bw : List Nat) (σ σ' : L2.St) : Prop := (∀ j ∈ bw, σ'[j]? = σ[j]?) ∧ σ'.length = σ.length
theorem Keep.refl {bw : List Nat} {σ : L2.St} : Keep bw σ σ := ⟨fun _ _ => rfl, rfl⟩
theorem Keep.trans {bw : List Nat} {σ σ1 σ2 : L2.St} (a : Keep bw σ σ1) (b : Keep bw σ1 σ2) : Keep bw σ σ2 := ⟨fun j h => (b.1 j h).trans (a.1 j h), b.2.trans a.2⟩
def SPo (K : PySem.W.Frag) (Wx : L2.WX) (bw : List Nat) (σ0 : L2.St) (w0 : Wld) (D : Ends) : SR → Prop
  | .nx e => ∀ σ' w', Ok K e σ' w' → Go w0 w' [] → Keep bw σ0 σ' → D.nx σ' w'.H
  | .bk e => ∀ σ' w', Ok K e σ' w' → Go w0 w' [] → Keep bw σ0 σ' → D.bk σ' w'.H
  | .ct e => ∀ σ' w', Ok K e σ' w' → Go w0 w' [] → Keep bw σ0 σ' → D.ct σ' w'.H
  | .rt x e => ∀ σ' w' v f, Ok K e σ' w' → RelS K w'.F w'.H x v f → x ≠ .un → Sep w' f → Go w0 w' f → Keep bw σ0 σ' → D.rt v w'.H
  | .exc x e => ∀ σ' w' cls d, Ok K e σ' w' → Go w0 w' [] → Keep bw σ0 σ' → RelX K w' x cls d → Wx cls d σ' w'.H
  | .no => False
def tS (K : PySem.W.Frag) (Wx : L2.WX) (bw : List Nat) (m : Env → SR) : TS := fun D σ H => ∃ e w, w.H = H ∧ Ok K e σ w ∧ SPo K Wx bw σ w D (m e)
theorem PS.imp {X : Cx} {s : Stmt} {t t' : TS} (h : PS X s t) (k : ∀ D σ H, t' D σ H → t D σ H) : PS X s t' := ⟨fun pins sh σ H D I q => h.run pins sh σ H D I (k D σ H q)⟩
theorem PSs.imp {X : Cx} {s : List Stmt} {t t' : TS} (h : PSs X s t) (k : ∀ D σ H, t' D σ H → t D σ H) : PSs X s t' := ⟨fun pins sh σ H D I q => h.run pins sh σ H D I (k D σ H q)⟩
section
variable {K : PySem.W.Frag} {Wx : L2.WX} {bw : List Nat} {σ0 σ1 : L2.St} {w0 w1 : Wld} {D D' : Ends} {r : SR}
/-- later, with the ends that the end's readings give -/
theorem SPo.go (h : SPo K Wx bw σ0 w0 D r) (g : Go w0 w1 []) (k : Keep bw σ0 σ1) (h1 : ∀ e, r = .nx e → ∀ σ' w', Ok K e σ' w' → Go w1 w' [] → Keep bw σ1 σ' → D.nx σ' w'.H → D'.nx σ' w'.H) (h2 : D'.rt = D.rt) (h3 : ∀ σ H, D.bk σ H → D'.bk σ H) (h4 : ∀ σ H, D.ct σ H → D'.ct σ H) : SPo K Wx bw σ1 w1 D' r := by
  cases r with
  | nx e => exact fun σ' w' ok go kp => h1 e rfl σ' w' ok go kp (h σ' w' ok (g.trans go) (k.trans kp))
  | bk e => exact fun σ' w' ok go kp => h3 _ _ (h σ' w' ok (g.trans go) (k.trans kp))
  | ct e => exact fun σ' w' ok go kp => h4 _ _ (h σ' w' ok (g.trans go) (k.trans kp))
  | rt x e => exact fun σ' w' v f ok rx hx sp go kp => by rw [h2]; exact h σ' w' v f ok rx hx sp (g.trans go) (k.trans kp)
  | exc x e => exact fun σ' w' cls d ok go kp rx => h σ' w' cls d ok (g.trans go) (k.trans kp) rx
  | no => exact h
theorem SPo.to (h : SPo K Wx bw σ0 w0 D r) (g : Go w0 w1 []) (k : Keep bw σ0 σ1) : SPo K Wx bw σ1 w1 D r := h.go g k (fun _ _ _ _ _ _ _ h => h) rfl (fun _ _ h => h) (fun _ _ h => h)
/-- an expression's part of a statement -/
theorem st_run {e : Env} {m : Env → R W} {f : W → Env → SR} {g : List Addr} {Q : VK} (ok : Ok K e σ1 w1) (go : Go w0 w1 g) (sp : Sep w1 g) (kp : Keep bw σ0 σ1) (h : SPo K Wx bw σ0 w0 D ((m e).st f))
    (hQ : ∀ x e' w' v fx, Ok K e' σ1 w' → RelW K σ1 w' x v fx → Sep w' (g ++ fx) → Go w1 w' fx → Go w0 w' (g ++ fx) → SPo K Wx bw σ0 w0 D (f x e') → Q v w'.H) : tI K Wx m σ1 w1.H Q := by
  refine ⟨e, w1, rfl, ok, ?_⟩
  cases q : m e with
  | no => rw [q] at h; exact h.elim
  | exc x e1 =>
    rw [q] at h
    exact fun w' cls d ok' go' rx => h σ1 w' cls d ok' ((go.trans go').sub (by simp)) kp rx
  | ok x e1 =>
    rw [q] at h
    exact fun w' v fx ok' rx sx g' => hQ x e1 w' v fx ok' rx (sp.go g' sx) g' (go.trans g') h
theorem st_test {e : Env} {m : Env → R W} {f : Bool → Env → SR} {Q : Bool → Hp → Prop} (ok : Ok K e σ1 w1) (go : Go w0 w1 []) (kp : Keep bw σ0 σ1) (h : SPo K Wx bw σ0 w0 D ((tst m e).st f))
    (hQ : ∀ b e' w', Ok K e' σ1 w' → Go w0 w' [] → SPo K Wx bw σ0 w0 D (f b e') → Q b w'.H) : tT K Wx m σ1 w1.H Q := by
  refine ⟨e, w1, rfl, ok, ?_⟩
  cases q : tst m e with
  | no => rw [q] at h; exact h.elim
  | exc x e1 =>
    rw [q] at h
    exact fun w' cls d ok' go' rx => h σ1 w' cls d ok' ((go.trans go').sub (by simp)) kp rx
  | ok x e1 =>
    rw [q] at h
    exact fun w' ok' g' => hQ x e1 w' ok' (go.trans g') h
end
section
variable {X : Cx} {Wx : L2.WX} {bw : List Nat} {ma mb mc : Env → R W} {ms mt : Env → SR} {a b c : Expr} {s : Stmt} {ss st : List Stmt} {pos : Pos}
theorem S_nil : PSs X [] (tS X.K Wx bw fun e => .nx e) := PSs.imp pss_nil fun D σ H ⟨e, w, hw, ok, h⟩ => by
  subst hw
  exact h σ w ok .refl .refl
theorem S_cons (h1 : PS X s (tS X.K Wx bw ms)) (h2 : PSs X ss (tS X.K Wx bw mt)) : PSs X (s :: ss) (tS X.K Wx bw fun e => match ms e with
    | .nx e => mt e
    | r => r) := by
  refine PSs.imp (pss_cons h1 h2) fun D σ H ⟨e, w, hw, ok, h⟩ => ?_
  subst hw
  refine ⟨e, w, rfl, ok, ?_⟩
  dsimp only at h
  cases q : ms e with
  | nx e1 =>
    rw [q] at h
    exact fun σ' w' ok' go' kp' => ⟨e1, w', rfl, ok', SPo.to h go' kp'⟩
  | bk e1 => rw [q] at h; exact h
  | ct e1 => rw [q] at h; exact h
  | rt x e1 => rw [q] at h; exact h
  | exc x e1 => rw [q] at h; exact h
  | no => rw [q] at h; exact h
theorem S_pass : PS X (.Pass pos) (tS X.K Wx bw fun e => .nx e) := PS.imp ps_pass fun D σ H ⟨e, w, hw, ok, h⟩ => by
  subst hw; exact h σ w ok .refl .refl
theorem S_break : PS X (.Break pos) (tS X.K Wx bw fun e => .bk e) := PS.imp ps_break fun D σ H ⟨e, w, hw, ok, h⟩ => by
  subst hw; exact h σ w ok .refl .refl
theorem S_cont : PS X (.Continue pos) (tS X.K Wx bw fun e => .ct e) := PS.imp ps_continue fun D σ H ⟨e, w, hw, ok, h⟩ => by
  subst hw; exact h σ w ok .refl .refl
theorem S_expr (ha : PE X a (tI X.K Wx ma)) (hs : swapsWith a none pos.line X.env = pure false) : PS X (.Expr a pos) (tS X.K Wx bw fun e => (ma e).st fun _ e => .nx e) := by
  refine PS.imp (ps_expr ha hs) fun D σ H ⟨e, w, hw, ok, h⟩ => ?_
  subst hw
  exact st_run ok .refl .nil .refl h fun x e1 w1 v fx ok1 rx sx g1 go1 h1 => h1 σ w1 ok1 (go1.sub (by simp)) .refl
theorem S_if (hc : PT X c (tT X.K Wx mc)) (h1 : PSs X ss (tS X.K Wx bw ms)) (h2 : PSs X st (tS X.K Wx bw mt)) : PS X (.If c ss st pos) (tS X.K Wx bw fun e => (mc e).st fun w e => match (see e w).bind truD with
    | some true => ms e
    | some false => mt e
    | none => .no) := by
  refine PS.imp (ps_if hc h1 h2) fun D σ H ⟨e, w, hw, ok, h⟩ => ?_
  subst hw
  have h : SPo X.K Wx bw σ w D ((tst mc e).st fun b e => if b then ms e else mt e) := by
    refine cast ?_ h
    congr 1
    dsimp only
    unfold tst
    cases mc e with
    | no => rfl
    | exc x e1 => rfl
    | ok x e1 =>
      simp only [R.st, R.bind]
      cases (see e1 x).bind truD with
      | none => rfl
      | some b => cases b <;> rfl
  refine st_test ok .refl .refl h fun b e1 w1 ok1 go1 h1 => ?_
  cases b with
  | true => rw [if_pos rfl] at h1 ⊢; exact ⟨e1, w1, rfl, ok1, SPo.to h1 go1 .refl⟩
  | false => rw [if_neg (by simp)] at h1 ⊢; exact ⟨e1, w1, rfl, ok1, SPo.to h1 go1 .refl⟩
theorem S_retN : PS X (.Return none pos) (tS X.K Wx bw fun e => .rt (.d .non) e) := PS.imp ps_retN fun D σ H ⟨e, w, hw, ok, h⟩ => by
  subst hw
  exact h σ w .non [] ok ⟨by unfold RelD; rfl, rfl⟩ (by simp) .nil .refl .refl
theorem S_ret {np : Nat} (ha : PE X a (tI X.K Wx ma)) (hb : ∀ j ∈ bw, j < np) : PS X (.Return (some a) pos) (tS X.K Wx bw fun e => (ma e).st fun w e => retW np w e) := by
  refine PS.imp (ps_ret ha) fun D σ H ⟨e, w, hw, ok, h⟩ => ?_
  subst hw
  refine st_run ok .refl .nil .refl h fun x e1 w1 v fx ok1 rx sx g1 go1 h1 => ?_
  have tk : ∀ {h1 : SPo X.K Wx bw σ w D (match Ip.take e1 x with | some (x, e1) => .rt (.d x) e1 | none => .no)}, D.rt v w1.H := fun {h1} => by
    cases q : Ip.take e1 x with
    | none => rw [q] at h1; exact h1.elim
    | some r =>
      obtain ⟨y, e2⟩ := r
      rw [q] at h1
      obtain ⟨w2, h2, ok2, rd, go2, sp2, le2⟩ := take_ok (g := []) ok1 rx (by simpa using go1) (by simpa using sx) q
      have := h1 σ w2 v [] ok2 ⟨rd, rfl⟩ (by simp) .nil go2 .refl
      rw [h2] at this
      exact this
  cases x with
  | v x => exact h1 σ w1 v fx ok1 rx.1 rx.2 sx go1 .refl
  | r i p =>
    cases p with
    | some g => exact rx.elim
    | none =>
      unfold retW at h1
      dsimp only at h1
      split at h1
      · exact tk (h1 := h1)
      · rename_i hi
        -- a local name's object goes
        obtain ⟨hv, rfl⟩ := rx
        unfold getP at h1
        cases q : e1[i]? with
        | none =>
          have := ok1.rel.len.1
          obtain ⟨h5, _⟩ := List.getElem?_eq_some_iff.mp hv
          rw [List.getElem?_eq_none_iff] at q
          omega
        | some s =>
          rw [q] at h1
          obtain ⟨o, f, k1, k2, k3⟩ := ok1.rel.get q
          rw [hv] at k1
          cases k1
          by_cases hs : s = .un
          · subst hs
            exact h1.elim
          · have k4 : RelS X.K w1.F w1.H s v f := by cases s <;> first | exact absurd rfl hs | exact k3
            have hf : ∀ b ∈ f, b ∈ w1.fs.flatten := fun b hb => mem_ofF k2 hb
            have h1 : SPo X.K Wx bw σ w D (.rt s (e1.set i .un)) := by
              cases s <;> first | exact absurd rfl hs | exact h1
            refine h1 σ ⟨w1.F, w1.H, w1.fs.set i []⟩ v f ⟨ok1.le, ?_, nd_setF ok1.nd k2 .nil (fun _ h => nomatch h), fun b hb => ?_, ok1.fnt, ok1.tab⟩ k4 hs ⟨?_, fun b hb z => ?_, fun b hb => ok1.out b (hf b hb), fun b hb => k4.own b hb⟩ ⟨go1.keep, fun b z => ?_, go1.le, go1.frz⟩ .refl
            · have := ok1.rel.set i (x := .un) (o := some v) (f := []) rfl
              rwa [st_set hv] at this
            · rcases mem_setF k2 hb with z | z
              · cases z
              · exact ok1.out b z
            · exact nd_ofF ok1.nd k2
            · have := gone_setF ok1.nd k2 hb z
              cases this
            · rcases z with z | z
              · exact go1.new b (.inr (hf b z))
              · rcases mem_setF k2 z with y | y
                · cases y
                · exact go1.new b (.inr y)
end
end Ip
end

section
set_option linter.all false
set_option autoImplicit false
set_option maxHeartbeats 1000000
namespace Ip
open PySem PySem.Spec PyProof.Rows L2
variable [Tb]

section
variable {K : PySem.W.Frag} {e : Env} {σ : L2.St} {w w0 : Wld} {v : V} {f : List Addr}
/-- a list that a name holds is written -/
theorem own_list (ok : Ok K e σ w) {i : Nat} {xs : List D} (hv : σ[i]? = some (some v)) (q : e[i]? = some (.lst xs)) :
    ∃ a us, v = .ref a ∧ w.H a = some (.lst us) ∧ RelDs K w.F xs us ∧ xs.length ≤ sizeLine ∧ a ∈ w.fs.flatten ∧
      ∀ ys ws, RelDs K w.F ys ws → ys.length ≤ sizeLine → Ok K (e.set i (.lst ys)) σ ⟨w.F, upd w.H a (.lst ws), w.fs⟩ ∧
        (∀ f, Go w0 w f → Go w0 ⟨w.F, upd w.H a (.lst ws), w.fs⟩ f) ∧ (∀ f, Sep w f → Sep ⟨w.F, upd w.H a (.lst ws), w.fs⟩ f) := by
  obtain ⟨f, h1, a, us, rfl, h3, h4, h5, rfl⟩ := ok.slot q hv (by simp)
  have ha : a ∈ w.fs.flatten := mem_ofF h1 (by simp)
  have hF : w.F a = none := ok.out a ha
  refine ⟨a, us, rfl, h3, h4, h5, ha, fun ys ws r l => ⟨⟨fun b o z => ?_, ?_, ok.nd, ok.out, ok.fnt, tabs_upd h3 trivial ok.tab⟩, fun f go => ⟨fun b o z t n => ?_, go.new, go.le, go.frz⟩, fun f sp => ⟨sp.nd, sp.dis, sp.out, fun b hb => ?_⟩⟩⟩
  · show upd w.H a _ b = some o
    rw [upd_ne (ne_of_none z hF)]
    exact ok.le b o z
  · -- all but this name's object stay
    have go : ∀ (e : Env) (σ : L2.St) (fs : List (List Addr)) (i : Nat), RelE K w.F w.H e σ fs → fs.flatten.Nodup → fs[i]? = some [a] → σ[i]? = some (some (.ref a)) → RelE K w.F (upd w.H a (.lst ws)) (e.set i (.lst ys)) σ fs := by
      intro e
      induction e with
      | nil => intro σ fs i h _ hi _; cases σ <;> cases fs <;> first | exact h.elim | (simp at hi; done)
      | cons x e ih =>
        intro σ fs i h nd hi hs
        cases σ with
        | nil => exact h.elim
        | cons o σ =>
          cases fs with
          | nil => exact h.elim
          | cons g fs =>
            rw [List.flatten_cons] at nd
            obtain ⟨n1, n2, n3⟩ := List.nodup_append.mp nd
            cases i with
            | zero =>
              simp at hi hs
              subst hi hs
              refine ⟨⟨a, ws, rfl, upd_same, r, l, rfl⟩, RelE.frame h.2 (.refl _) fun b hb o z => ?_⟩
              rw [upd_ne (fun q => n3 a (by simp) b hb q.symm)]
              exact z
            | succ i =>
              simp at hi hs
              refine ⟨RelU.frame h.1 (.refl _) fun b hb o z => ?_, ih σ fs i h.2 n2 hi hs⟩
              rw [upd_ne (fun q => n3 b hb a (mem_ofF hi (by simp)) q)]
              exact z
    exact go e σ w.fs i ok.rel ok.nd h1 hv
  · have z1 := go.keep b o z t n
    show upd w.H a _ b = some o
    have nb : b ≠ a := by
      rintro rfl
      rcases go.new b (.inr ha) with y | y
      · exact n y
      · exact y.no z t
    rw [upd_ne nb]; exact z1
  · obtain ⟨o, ho, m⟩ := sp.own b hb
    refine ⟨o, ?_, m⟩
    show upd w.H a _ b = some o
    rw [upd_ne (fun q => sp.dis b hb (by rw [q]; exact ha))]
    exact ho
theorem own_dict (ok : Ok K e σ w) {i : Nat} {xs : List (D × D)} (hv : σ[i]? = some (some v)) (q : e[i]? = some (.dct xs)) :
    ∃ a us, v = .ref a ∧ w.H a = some (.dK us) ∧ RelKs K w.F xs us ∧ a ∈ w.fs.flatten ∧
      ∀ ys ws, RelKs K w.F ys ws → Ok K (e.set i (.dct ys)) σ ⟨w.F, upd w.H a (.dK ws), w.fs⟩ ∧
        (∀ f, Go w0 w f → Go w0 ⟨w.F, upd w.H a (.dK ws), w.fs⟩ f) ∧ (∀ f, Sep w f → Sep ⟨w.F, upd w.H a (.dK ws), w.fs⟩ f) := by
  obtain ⟨f, h1, a, us, rfl, h3, h4, rfl⟩ := ok.slot q hv (by simp)
  have ha : a ∈ w.fs.flatten := mem_ofF h1 (by simp)
  have hF : w.F a = none := ok.out a ha
  refine ⟨a, us, rfl, h3, h4, ha, fun ys ws r => ⟨⟨fun b o z => ?_, ?_, ok.nd, ok.out, ok.fnt, tabs_upd h3 trivial ok.tab⟩, fun f go => ⟨fun b o z t n => ?_, go.new, go.le, go.frz⟩, fun f sp => ⟨sp.nd, sp.dis, sp.out, fun b hb => ?_⟩⟩⟩
  · show upd w.H a _ b = some o
    rw [upd_ne (ne_of_none z hF)]
    exact ok.le b o z
  · -- all but this name's object stay
    have go : ∀ (e : Env) (σ : L2.St) (fs : List (List Addr)) (i : Nat), RelE K w.F w.H e σ fs → fs.flatten.Nodup → fs[i]? = some [a] → σ[i]? = some (some (.ref a)) → RelE K w.F (upd w.H a (.dK ws)) (e.set i (.dct ys)) σ fs := by
      intro e
      induction e with
      | nil => intro σ fs i h _ hi _; cases σ <;> cases fs <;> first | exact h.elim | (simp at hi; done)
      | cons x e ih =>
        intro σ fs i h nd hi hs
        cases σ with
        | nil => exact h.elim
        | cons o σ =>
          cases fs with
          | nil => exact h.elim
          | cons g fs =>
            rw [List.flatten_cons] at nd
            obtain ⟨n1, n2, n3⟩ := List.nodup_append.mp nd
            cases i with
            | zero =>
              simp at hi hs
              subst hi hs
              refine ⟨⟨a, ws, rfl, upd_same, r, rfl⟩, RelE.frame h.2 (.refl _) fun b hb o z => ?_⟩
              rw [upd_ne (fun q => n3 a (by simp) b hb q.symm)]
              exact z
            | succ i =>
              simp at hi hs
              refine ⟨RelU.frame h.1 (.refl _) fun b hb o z => ?_, ih σ fs i h.2 n2 hi hs⟩
              rw [upd_ne (fun q => n3 b hb a (mem_ofF hi (by simp)) q)]
              exact z
    exact go e σ w.fs i ok.rel ok.nd h1 hv
  · have z1 := go.keep b o z t n
    show upd w.H a _ b = some o
    have nb : b ≠ a := by
      rintro rfl
      rcases go.new b (.inr ha) with y | y
      · exact n y
      · exact y.no z t
    rw [upd_ne nb]; exact z1
  · obtain ⟨o, ho, m⟩ := sp.own b hb
    refine ⟨o, ?_, m⟩
    show upd w.H a _ b = some o
    rw [upd_ne (fun q => sp.dis b hb (by rw [q]; exact ha))]
    exact ho
theorem RelW.write {x : W} {a : Addr} {o : HO} (h : RelW K σ w x v f) (sp : Sep w f) (ha : a ∈ w.fs.flatten) : RelW K σ ⟨w.F, upd w.H a o, w.fs⟩ x v f := h.ext (.refl _) fun b hb o' z => by
  show upd w.H a o b = some o'
  rw [upd_ne (fun q => sp.dis b hb (by rw [q]; exact ha))]
  exact z
/-- a name is stored -/
theorem own_store (ok : Ok K e σ w) (i : Nat) {s : SV} (h : RelU K w.F w.H s (some v) f) (go : Go w0 w f) (sp : Sep w f) : ∃ w', w'.H = w.H ∧ w'.F = w.F ∧ Ok K (e.set i s) (σ.set i (some v)) w' ∧ Go w0 w' [] := by
  obtain ⟨l1, l2⟩ := ok.rel.len
  by_cases hi : i < w.fs.length
  · have q : w.fs[i]? = some w.fs[i] := List.getElem?_eq_getElem hi
    refine ⟨⟨w.F, w.H, w.fs.set i f⟩, rfl, rfl, ⟨ok.le, ok.rel.set i h, nd_setF ok.nd q sp.nd fun b hb => .inr (sp.dis b hb), fun b hb => ?_, ok.fnt, ok.tab⟩, ⟨go.keep, fun b z => ?_, go.le, go.frz⟩⟩
    · rcases mem_setF q hb with z | z
      · exact sp.out b z
      · exact ok.out b z
    · rcases z with z | z
      · cases z
      · rcases mem_setF q z with y | y
        · exact go.new b (.inl y)
        · exact go.new b (.inr y)
  · rw [List.set_eq_of_length_le (by omega), List.set_eq_of_length_le (by omega)]
    exact ⟨w, rfl, rfl, ok, go.sub (by simp)⟩
end

/-! ### targets -/
def endsNx (Q : L2.St → Hp → Prop) : Ends := { nx := Q, rt := fun _ _ => False }
def gI (K : PySem.W.Frag) (Wx : L2.WX) (bw : List Nat) (m : W → Env → R Unit) : TG := fun v σ H Q => ∃ e w w0 σ0 x f, w.H = H ∧ Ok K e σ w ∧ RelW K σ w x v f ∧ Sep w f ∧ Go w0 w f ∧ Keep bw σ0 σ ∧ SPo K Wx bw σ0 w0 (endsNx Q) ((m x e).st fun _ e => .nx e)
def gIs (K : PySem.W.Frag) (Wx : L2.WX) (bw : List Nat) (m : List D → Env → R Unit) : TGs := fun vs σ H Q => ∃ e w w0 σ0 xs, w.H = H ∧ Ok K e σ w ∧ RelDs K w.F xs vs ∧ Go w0 w [] ∧ Keep bw σ0 σ ∧ SPo K Wx bw σ0 w0 (endsNx Q) ((m xs e).st fun _ e => .nx e)
theorem PG.imp {X : Cx} {e : Expr} {t t' : TG} (h : PG X e t) (k : ∀ v σ H Q, t' v σ H Q → t v σ H Q) : PG X e t' := ⟨fun pins s σ H v u Q I r q => h.run pins s σ H v u Q I r (k v σ H Q q)⟩
theorem PGs.imp {X : Cx} {e : List Expr} {t t' : TGs} (h : PGs X e t) (k : ∀ v σ H Q, t' v σ H Q → t v σ H Q) : PGs X e t' := ⟨fun pins s σ H v u Q I r q => h.run pins s σ H v u Q I r (k v σ H Q q)⟩
theorem Keep.set {bw : List Nat} {σ : L2.St} {i : Nat} {v : Option V} (h : i ∉ bw) : Keep bw σ (σ.set i v) := ⟨fun j hj => by
  rw [List.getElem?_set_ne (fun q => h (by rw [q]; exact hj))], List.length_set⟩
def assignN (i : Nat) : W → Env → R Unit := fun w e => match w with
    | .v x => .ok () (e.set i x)
    | .r _ _ => match Ip.take e w with
      | some (x, e1) => .ok () (e1.set i (.d x))
      | none => .no
theorem set_name {K : PySem.W.Frag} {Wx : L2.WX} {bw : List Nat} {σ σ0 : L2.St} {w w0 : Wld} {Q : Ends} {x : W} {v : V} {f : List Addr} {e : Env} {i : Nat} (hb : i ∉ bw) (ok : Ok K e σ w) (rx : RelW K σ w x v f) (sp : Sep w f) (go : Go w0 w f) (kp : Keep bw σ0 σ)
    (h : SPo K Wx bw σ0 w0 Q ((assignN i x e).st fun _ e => .nx e)) : Q.nx (σ.set i (some v)) w.H := by
  unfold assignN at h
  cases x with
  | v s =>
    have h : SPo K Wx bw σ0 w0 Q (.nx (e.set i s)) := h
    have ru : RelU K w.F w.H s (some v) f := by
      obtain ⟨r, hs⟩ := rx
      cases s <;> first | exact absurd rfl hs | exact r
    obtain ⟨w', h1, _, ok', go'⟩ := own_store ok i ru go sp
    have := h _ w' ok' go' (kp.trans (Keep.set hb))
    rw [h1] at this
    exact this
  | r p q =>
    dsimp only at h
    cases hq : Ip.take e (.r p q) with
    | none => rw [hq] at h; exact h.elim
    | some r =>
      obtain ⟨y, e2⟩ := r
      rw [hq] at h
      have h : SPo K Wx bw σ0 w0 Q (.nx (e2.set i (.d y))) := h
      obtain ⟨w2, h2, ok2, rd, go2, sp2, le2⟩ := take_ok (g := []) ok rx (by simpa using go) (by simpa using sp) hq
      obtain ⟨w', h1, _, ok', go'⟩ := own_store ok2 i (s := .d y) (v := v) (f := []) ⟨rd, rfl⟩ go2 sp2
      have := h _ w' ok' go' (kp.trans (Keep.set hb))
      rw [h1, h2] at this
      exact this
section
variable {X : Cx} {Wx : L2.WX} {bw : List Nat} {ma mb : Env → R W} {m : W → Env → R Unit} {ms : List D → Env → R Unit} {a b : Expr} {es : List Expr} {pos : Pos}
theorem G_name {i : Nat} {x : Str} (hN : X.N.Nodup) (hi : X.N[i]? = some x) (hx : Loc X.env.scope x) (hf : X.fn x = true ∨ X.env.scope.names.lookup x = some .local) (hb : i ∉ bw) : PG X (.Name x pos) (gI X.K Wx bw (assignN i)) := by
  refine PG.imp (pg_name hN hi hx hf) fun v σ H Q ⟨e, w, w0, σ0, x, f, hw, ok, rx, sp, go, kp, h⟩ => ?_
  subst hw
  exact set_name (Q := endsNx Q) hb ok rx sp go kp h
theorem G_nil : PGs X [] (gIs X.K Wx bw fun xs e => match xs with
    | [] => .ok () e
    | _ => .no) := by
  refine PGs.imp pgs_nil fun vs σ H Q ⟨e, w, w0, σ0, xs, hw, ok, r, go, kp, h⟩ => ?_
  subst hw
  cases xs with
  | nil =>
    cases vs with
    | nil => exact ⟨rfl, h σ w ok go kp⟩
    | cons _ _ => unfold RelDs at r; exact r.elim
  | cons _ _ => exact h.elim
theorem G_cons (h1 : PG X a (gI X.K Wx bw m)) (h2 : PGs X es (gIs X.K Wx bw ms)) (hs : (assignEach (a :: es) X.env).map (·.2) = PySem.assign a X.env :: (assignEach es X.env).map (·.2)) : PGs X (a :: es) (gIs X.K Wx bw fun xs e => match xs with
    | x :: xs => (m (.v (.d x)) e).bind fun _ e => ms xs e
    | [] => .no) := by
  refine PGs.imp (pgs_cons h1 h2 hs) fun vs σ H Q ⟨e, w, w0, σ0, xs, hw, ok, r, go, kp, h⟩ => ?_
  subst hw
  cases xs with
  | nil => exact h.elim
  | cons x xs =>
    cases vs with
    | nil => unfold RelDs at r; exact r.elim
    | cons v vs =>
      unfold RelDs at r
      refine ⟨v, vs, rfl, e, w, w, σ, .v (.d x), [], rfl, ok, ⟨⟨r.1, rfl⟩, by simp⟩, .nil, .refl, .refl, ?_⟩
      dsimp only at h
      cases q : m (.v (.d x)) e with
      | no => rw [q] at h; exact h
      | exc y e1 =>
        rw [q] at h
        exact fun σ' w' cls d ok' go' kp' => h σ' w' cls d ok' (go.trans go') (kp.trans kp')
      | ok u e1 =>
        rw [q] at h
        intro σ' w' ok' go' kp'
        exact ⟨e1, w', w0, σ0, xs, rfl, ok', r.2.mono go'.le, go.trans go', kp.trans kp', h⟩
/-- names = the values of a tuple or of a list -/
def gSqn (K : PySem.W.Frag) (n : Nat) (t : TGs) : TG := fun v σ H Q => gTup K n t v σ H Q ∨ gUnl K n t v σ H Q
theorem pg_sqn {k n : Nat} {t : TGs} (hc : X.calm = true) (h : PGs X es t) (hn : (assignEach es X.env).length = n) (hst : (assignEach es X.env).findIdx? (·.1) = none) : PG X (.Tuple es k pos) (gSqn X.K n t) :=
  ⟨fun pins s σ H v u Q I r q => q.elim ((pg_tup hc h hn hst).run pins s σ H v u Q I r) ((pg_unl hc h hn hst).run pins s σ H v u Q I r)⟩
theorem G_tup {k n : Nat} (hc : X.calm = true) (h : PGs X es (gIs X.K Wx bw ms)) (hn : (assignEach es X.env).length = n) (hst : (assignEach es X.env).findIdx? (·.1) = none) :
    PG X (.Tuple es k pos) (gI X.K Wx bw fun w e => match Ip.take e w with
      | some (.tup xs, e1) => if xs.length = n then ms xs e1 else .no
      | some (.lst xs, e1) => if xs.length = n then ms xs e1 else .no
      | _ => .no) := by
  refine PG.imp (pg_sqn hc h hn hst) fun v σ H Q ⟨e, w, w0, σ0, x, f, hw, ok, rx, sp, go, kp, h⟩ => ?_
  subst hw
  dsimp only at h
  cases hq : Ip.take e x with
  | none => rw [hq] at h; exact h.elim
  | some r =>
    obtain ⟨y, e2⟩ := r
    rw [hq] at h
    obtain ⟨w2, h2, ok2, rd, go2, sp2, le2⟩ := take_ok (g := []) ok rx (by simpa using go) (by simpa using sp) hq
    cases y <;> try exact h.elim
    · rename_i xs
      unfold RelD at rd
      obtain ⟨a, vs, rfl, s1, r1, l1⟩ := rd
      dsimp only at h
      by_cases hl : xs.length = n
      rotate_left
      · rw [if_neg hl] at h; exact h.elim
      rw [if_pos hl] at h
      exact .inl ⟨a, vs, rfl, by rw [← h2]; exact ok2.le.sqt s1, by rw [← r1.len]; exact hl, e2, w2, w0, σ0, xs, h2, ok2, r1, go2, kp, h⟩
    · rename_i xs
      unfold RelD at rd
      obtain ⟨a, vs, rfl, s1, r1, l1⟩ := rd
      dsimp only at h
      by_cases hl : xs.length = n
      rotate_left
      · rw [if_neg hl] at h; exact h.elim
      rw [if_pos hl] at h
      exact .inr ⟨a, vs, rfl, by rw [← h2]; exact ok2.le.sql s1, by rw [← r1.len]; exact hl, e2, w2, w0, σ0, xs, h2, ok2, r1, go2, kp, h⟩
/-- xs[i] = v, d[k] = v -/
def rSetA : TSet := fun o i v H Q => rSetL o i v H Q ∨ ∃ a J, o = .ref a ∧ DPut H a i v J ∧ Q J
theorem set_A (hu : X.A.units + 65 < cLine) : PSet X rSetA := by
  intro pins s σ H xo xi xv ov iv u Q I ro ri rv q
  rcases q with q | ⟨a, J, rfl, g, q⟩
  · exact set_list pins s σ H xo xi xv ov iv u Q I ro ri rv q
  · cases (show ov = Value.ref a from ro)
    exact d_setItem (by omega) I g ri rv fun s' I' => ⟨J, I', q⟩
theorem G_idx (hu : X.A.units + 65 < cLine) (ha : PE X a (tI X.K Wx ma)) (hb : PE X b (tI X.K Wx mb)) (has : ∀ v, PySem.assign (.Subscript a b pos) X.env v = (do
      let ov ← holding [v] (eval a X.env)
      let iv ← holding [v, ov] (eval b X.env)
      standAt pos
      holding [v, ov, iv] (setItem ov iv v)
      release [v, ov, iv] [])) (cb : CE) : PG X (.Subscript a b pos) (gI X.K Wx bw fun w e => (ma e).bind fun wo e => (mb e).bind fun wi e => match Ip.take e w with
    | some (x, e1) => match wo, see e1 wi with
      | .r p q, some k => if calm wo [cb] then match setI (getP e1 p q) k x with
        | some y => .ok () (setP e1 p q y)
        | none => .no
        else .no
      | _, _ => .no
    | none => .no) := by
  refine PG.imp (pg_sub ha hb (set_A hu) has) fun v σ H Q ⟨e, w, w0, σ0, x, f, hw, ok, rx, sp, go, kp, h⟩ => ?_
  subst hw
  have h : SPo X.K Wx bw σ0 w0 (endsNx Q) ((ma e).st fun wo e => (mb e).st fun wi e => (match Ip.take e x with
    | some (x, e1) => match wo, see e1 wi with
      | .r p q, some k => if calm wo [cb] then match setI (getP e1 p q) k x with
        | some y => (.ok () (setP e1 p q y) : R Unit)
        | none => .no
        else .no
      | _, _ => .no
    | none => .no : R Unit).st fun _ e => .nx e) := by
    refine cast ?_ h
    dsimp only
    congr 1
    cases ma e with
    | no => rfl
    | exc y e1 => rfl
    | ok y e1 =>
      simp only [R.st, R.bind]
      cases mb e1 <;> rfl
  refine st_run ok go sp kp h fun wo e1 w1 vo fo ok1 ro so g1 go1 h1 => ?_
  refine st_run ok1 go1 so kp h1 fun wi e2 w2 vi fi ok2 ri si g2 go2 h2 => ?_
  have ro2 := ro.go so.right g2
  have sf : Sep w1 f := so.left
  have rx2 := (rx.go sp g1).go sf g2
  cases hq : Ip.take e2 x with
  | none => rw [hq] at h2; exact h2.elim
  | some r =>
    obtain ⟨y, e3⟩ := r
    rw [hq] at h2
    dsimp only at h2
    have si' : Sep w2 (f ++ (fo ++ fi)) := by simpa [List.append_assoc] using si
    have go2' : Go w0 w2 (f ++ (fo ++ fi)) := by simpa [List.append_assoc] using go2
    obtain ⟨w3, h3, ok3, rd, go3, sp3, le3⟩ := take_ok ok2 rx2 go2' si' hq
    cases wo with
    | v s => exact h2.elim
    | r p q =>
      cases q with
      | some g => exact ro.elim
      | none =>
        cases hk : see e3 wi with
        | none => rw [hk] at h2; exact h2.elim
        | some k =>
          rw [hk] at h2
          dsimp only at h2
          rw [if_pos (show calm (.r p none) [cb] = true from rfl)] at h2
          cases hset : setI (getP e3 p none) k y with
          | none => rw [hset] at h2; exact h2.elim
          | some z =>
            rw [hset] at h2
            obtain ⟨hv, rfl⟩ := ro2
            have ri3 : RelW X.K σ w3 wi vi fi := ri.ext le3 fun b _ o z => by rw [h3]; exact z
            have rk := see_ok ok3 ri3 hk
            unfold getP at hset
            cases he : e3[p]? with
            | none => rw [he] at hset; simp [setI] at hset
            | some s =>
              rw [he] at hset
              dsimp only at hset
              unfold setI at hset
              split at hset
              · rename_i xs i
                cases hj : ix xs.length i with
                | none => rw [hj] at hset; cases hset
                | some j =>
                  rw [hj] at hset
                  cases hset
                  obtain ⟨a, us, rfl, e4, r4, l4, ha, wr⟩ := own_list ok3 (w0 := w0) hv he
                  obtain ⟨ok4, g4, s4⟩ := wr (xs.set j y) (us.set j v) (r4.set j rd) (by rw [List.length_set]; exact l4)
                  refine .inl ⟨a, us, i, j, rfl, rk.int, by rw [← h3]; exact e4, by rw [← r4.len]; exact hj, ?_⟩
                  have := h2 σ _ ok4 (g4 _ (go3.sub (by simp))) kp
                  rw [h3] at this
                  exact this
              · rename_i kvs
                split at hset
                case isFalse => cases hset
                case isTrue hl =>
                  cases hset
                  rw [Bool.and_eq_true] at hl
                  have rkD : RelD X.K w3.F k vi := by
                    cases k <;> simp [isKey] at hl <;> exact rk
                  obtain ⟨j, rfl, hk⟩ := key_of_rel rkD hl.2
                  obtain ⟨a, us, rfl, e4, r4, ha, wr⟩ := own_dict ok3 (w0 := w0) hv he
                  obtain ⟨ok4, g4, s4⟩ := wr _ _ (RelKs.put hk rd r4)
                  have l4 : us.length < sizeLine := by
                    rw [← r4.len, sizeLine_eq]
                    have := of_decide_eq_true hl.1
                    omega
                  refine .inr ⟨a, _, rfl, .inl ⟨us, j, by rw [← h3]; exact e4, rfl, l4, rfl⟩, ?_⟩
                  have := h2 σ _ ok4 (g4 _ (go3.sub (by simp))) kp
                  rw [h3] at this
                  exact this
              · cases hset
end
end Ip
end

section
set_option linter.all false
set_option autoImplicit false
set_option maxHeartbeats 1000000
namespace Ip
open PySem PySem.Spec PyProof.Rows L2
variable [Tb]

section
variable {X : Cx} {Wx : L2.WX} {bw : List Nat} {ma mb mc : Env → R W} {m : W → Env → R Unit} {mi : Env → R (List D)} {ms mt : Env → SR} {a b c : Expr} {s : Stmt} {ss st : List Stmt} {pos : Pos}
theorem SPo.ends {K : PySem.W.Frag} {σ0 : L2.St} {w0 : Wld} {D : Ends} {r : R Unit} (h : SPo K Wx bw σ0 w0 D (r.st fun _ e => .nx e)) : SPo K Wx bw σ0 w0 (endsNx D.nx) (r.st fun _ e => .nx e) := by
  cases r <;> exact h
theorem S_asg {tg : Expr} (ha : PE X a (tI X.K Wx ma)) (hg : PG X tg (gI X.K Wx bw m)) (hs : swapsWithSole [tg] a pos.line X.env = pure false) (hw : swappedStores [tg] a X.env = pure none) (h1 : (assignEach [tg] X.env).map (·.2) = [PySem.assign tg X.env]) :
    PS X (.Assign [tg] a pos) (tS X.K Wx bw fun e => (ma e).st fun w e => (m w e).st fun _ e => .nx e) := by
  refine PS.imp (ps_asg ha hg hs hw h1) fun D σ H ⟨e, w, hw, ok, h⟩ => ?_
  subst hw
  exact st_run ok .refl .nil .refl h fun x e1 w1 v fx ok1 rx sx g1 go1 h1 => ⟨e1, w1, w, σ, x, fx, rfl, ok1, rx, sx, go1, .refl, h1.ends⟩
theorem aop_ok {op : BOp} {x y z : D} {K : PySem.W.Frag} {F H : Hp} {v u : V} (h : aop op x y = some z) (hx : RelT K F H x v) (hy : RelT K F H y u) : ∃ i j k, x = .int i ∧ y = .int j ∧ z = .int k ∧ v = .int i ∧ u = .int j ∧ ((op = .add ∧ k = i + j) ∨ (op = .sub ∧ k = i - j)) := by
  unfold aop at h
  split at h
  · cases h; exact ⟨_, _, _, rfl, rfl, rfl, hx.int, hy.int, .inl ⟨rfl, rfl⟩⟩
  · cases h; exact ⟨_, _, _, rfl, rfl, rfl, hx.int, hy.int, .inr ⟨rfl, rfl⟩⟩
  · cases h
def tiA : BOp → TIp
  | .add => ipI fun i j => i + j
  | .sub => ipI fun i j => i - j
  | _ => fun _ _ _ _ => False
theorem ip_A {X : Cx} : ∀ {op : BOp}, (op = .add ∨ op = .sub) → PIp X (oper op) (tiA op)
  | .add, _ => ip_add
  | .sub, _ => ip_sub
theorem S_aug {i : Nat} {x : Str} {op : BOp} {p2 : Pos} (hop : op = .add ∨ op = .sub) (hN : X.N.Nodup) (hi : X.N[i]? = some x) (hx : Loc X.env.scope x) (hf : X.fn x = true ∨ X.env.scope.names.lookup x = some .local) (hb : i ∉ bw) (ha : PE X a (tI X.K Wx ma)) :
    PS X (.AugAssign (.Name x p2) (oper op) a pos) (tS X.K Wx bw fun e => match e[i]? with
      | some (.d x) => (ma e).st fun w e => match see e w with
        | some y => match aop op x y with
          | some z => .nx (e.set i (.d z))
          | none => .no
        | none => .no
      | _ => .no) := by
  refine PS.imp (ps_aug hN hi hx ha (ip_A hop) hf) fun D σ H ⟨e, w, hw, ok, h⟩ => ?_
  subst hw
  dsimp only at h
  cases q : e[i]? with
  | none => rw [q] at h; exact h.elim
  | some s =>
    rw [q] at h
    cases s <;> try exact h.elim
    rename_i y
    obtain ⟨o, f, h1, h2, h3⟩ := ok.rel.get q
    cases o with
    | none => exact h3.elim
    | some v =>
      obtain ⟨h3, rfl⟩ := h3
      refine ⟨v, h1, st_run ok .refl .nil .refl h fun z e1 w1 vz fz ok1 rz sz g1 go1 h1 => ?_⟩
      cases qz : see e1 z with
      | none => rw [qz] at h1; exact h1.elim
      | some z' =>
        rw [qz] at h1
        dsimp only at h1
        cases qa : aop op y z' with
        | none => rw [qa] at h1; exact h1.elim
        | some r =>
          rw [qa] at h1
          obtain ⟨i1, j1, k1, e1', e2', e3', e4, e5, e6⟩ := aop_ok qa ((h3.mono g1.le).top ok1.le) (see_ok ok1 rz qz)
          subst e3'
          have fin : D.nx (σ.set i (some (.int k1))) w1.H := by
            obtain ⟨w', h6, _, ok', go'⟩ := own_store ok1 i (s := .d (.int k1)) (v := .int k1) (f := []) ⟨by unfold RelD; rfl, rfl⟩ (go1.sub (by simp)) .nil
            have := h1 _ w' ok' go' (Keep.set hb)
            rw [h6] at this
            exact this
          subst e4 e5
          rcases e6 with ⟨rfl, rfl⟩ | ⟨rfl, rfl⟩ <;> exact ⟨i1, j1, rfl, rfl, fin⟩
/-! ### loops -/
theorem SPo.loop {K : PySem.W.Frag} {σ0 σ1 : L2.St} {w0 w1 : Wld} {D D' : Ends} {r r' : SR} (g : Go w0 w1 []) (k : Keep bw σ0 σ1) (hrt : D'.rt = D.rt)
    (h : match r with
      | .nx e => ∀ σ' w', Ok K e σ' w' → Go w1 w' [] → Keep bw σ1 σ' → D'.nx σ' w'.H
      | .ct e => ∀ σ' w', Ok K e σ' w' → Go w1 w' [] → Keep bw σ1 σ' → D'.ct σ' w'.H
      | .bk e => ∀ σ' w', Ok K e σ' w' → Go w1 w' [] → Keep bw σ1 σ' → D'.bk σ' w'.H
      | r => SPo K Wx bw σ0 w0 D r) : SPo K Wx bw σ1 w1 D' r := by
  cases r with
  | nx e => exact h
  | bk e => exact h
  | ct e => exact h
  | rt x e => exact fun σ' w' v f ok rx hx sp go kp => by rw [hrt]; exact h σ' w' v f ok rx hx sp (g.trans go) (k.trans kp)
  | exc x e => exact fun σ' w' cls d ok go kp rx => h σ' w' cls d ok (g.trans go) (k.trans kp) rx
  | no => exact h
theorem S_whl (hp : PassesOwn (model X.prog X.w) X.A X.env X.xe) (hc : PT X c (tT X.K Wx mc)) (hb : PSs X ss (tS X.K Wx bw ms)) (n : Nat) : PS X (.While c ss [] pos) (tS X.K Wx bw fun e => whlL (tst mc) ms n e) := by
  refine PS.imp (ps_while hp hc hb) fun D σ H ⟨e, w, hw, ok, h⟩ => ?_
  subst hw
  refine ⟨fun k σ1 H1 => ∃ e1 w1, w1.H = H1 ∧ Ok X.K e1 σ1 w1 ∧ Go w w1 [] ∧ Keep bw σ σ1 ∧ SPo X.K Wx bw σ w D (whlL (tst mc) ms k e1), ⟨n, e, w, rfl, ok, .refl, .refl, h⟩, ?_⟩
  rintro k σ1 H1 ⟨e1, w1, rfl, ok1, go1, kp1, h1⟩
  cases k with
  | zero => exact h1.elim
  | succ k =>
    have h1 : SPo X.K Wx bw σ w D ((tst mc e1).st fun b e => if b then (match ms e with
        | .nx e => whlL (tst mc) ms k e
        | .ct e => whlL (tst mc) ms k e
        | .bk e => .nx e
        | r => r) else .nx e) := h1
    refine st_test ok1 go1 kp1 h1 fun b e2 w2 ok2 go2 h2 => ?_
    cases b with
    | false =>
      rw [if_neg (by simp)] at h2 ⊢
      exact h2 σ1 w2 ok2 go2 kp1
    | true =>
      rw [if_pos rfl] at h2 ⊢
      refine ⟨fun σ3 H3 => ∃ e3 w3, w3.H = H3 ∧ Ok X.K e3 σ3 w3 ∧ Go w w3 [] ∧ Keep bw σ σ3 ∧ SPo X.K Wx bw σ w D (whlL (tst mc) ms k e3), fun σ3 H3 q => ⟨k, Nat.lt_succ_self k, q⟩, e2, w2, rfl, ok2, ?_⟩
      refine SPo.loop (D := D) go2 kp1 rfl ?_ (r' := .no)
      cases q : ms e2 with
      | nx e3 => rw [q] at h2; exact fun σ' w' ok' go' kp' => ⟨e3, w', rfl, ok', go2.trans go', kp1.trans kp', h2⟩
      | ct e3 => rw [q] at h2; exact fun σ' w' ok' go' kp' => ⟨e3, w', rfl, ok', go2.trans go', kp1.trans kp', h2⟩
      | bk e3 => rw [q] at h2; exact fun σ' w' ok' go' kp' => h2 σ' w' ok' (go2.trans go') (kp1.trans kp')
      | rt x e3 => rw [q] at h2; exact h2
      | exc x e3 => rw [q] at h2; exact h2
      | no => rw [q] at h2; exact h2
/-- what is walked: the items, as they lie -/
structure Walked (K : PySem.W.Frag) (J : L2.It) (F : Hp) (xs : List D) : Prop where
  go : ∀ (i : Nat) (H : Hp) x, Le F H → xs[i]? = some x → J.go i H
  yld : ∀ (i : Nat) (H : Hp) x v H', Le F H → xs[i]? = some x → J.yld i H v H' → (H' = H ∧ RelD K F x v) ∨ ∃ p vs, H p = none ∧ H' = upd H p (.tup vs) ∧ RelD K (upd F p (.tup vs)) x v
  stop : ∀ (i : Nat) (H : Hp), Le F H → xs.length ≤ i → J.stop i H
/-- an iterator's reading -/
def wI (K : PySem.W.Frag) (Wx : L2.WX) (m : Env → R (List D)) : TI := fun σ H R => ∃ e w, w.H = H ∧ Ok K e σ w ∧ PR K Wx σ w (m e) fun xs e' => ∀ w' J, Ok K e' σ w' → Go w w' [] → Walked K J w'.F xs → R J w'.H
theorem S_for {tg iter : Expr} (hp : PassesOwn (model X.prog X.w) X.A X.env X.xe) (hc : X.calm = true) (hi : PI X tg iter (wI X.K Wx mi)) (hg : PG X tg (gI X.K Wx bw m)) (hb : PSs X ss (tS X.K Wx bw ms)) (hs : ∀ x, foldedSetIterable iter X.env x = pure x) :
    PS X (.For tg iter ss [] pos) (tS X.K Wx bw fun e => (mi e).st fun xs e => forL (fun x e => (m (.v (.d x)) e).st fun _ e => ms e) xs e) := by
  refine PS.imp (ps_for hp hc hi hg hb hs) fun D σ H ⟨e, w, hw, ok, h⟩ => ?_
  subst hw
  refine ⟨e, w, rfl, ok, ?_⟩
  dsimp only at h
  cases qi : mi e with
  | no => rw [qi] at h; exact h
  | exc x e1 => rw [qi] at h; exact fun w' cls d ok' go' rx => h σ w' cls d ok' go' .refl rx
  | ok xs e1 =>
    rw [qi] at h
    intro w1 J ok1 go1 wk
    generalize hf : (fun x e => (m (.v (.d x)) e).st fun _ e => ms e) = fn at h
    have h : SPo X.K Wx bw σ w D (forL fn xs e1) := h
    refine ⟨fun i k σ2 H2 => ∃ e2 w2, w2.H = H2 ∧ Ok X.K e2 σ2 w2 ∧ Go w w2 [] ∧ Le w1.F w2.F ∧ Keep bw σ σ2 ∧ k + i = xs.length ∧ SPo X.K Wx bw σ w D (forL fn (xs.drop i) e2), ⟨xs.length, e1, w1, rfl, ok1, go1, .refl _, .refl, rfl, by simpa using h⟩, ?_⟩
    rintro i k σ2 H2 ⟨e2, w2, rfl, ok2, go2, le2, kp2, hk, h2⟩
    have le : Le w1.F w2.H := le2.trans ok2.le
    cases k with
    | zero =>
      refine .inl ⟨wk.stop i _ le (by omega), ?_⟩
      rw [List.drop_of_length_le (by omega)] at h2
      exact h2 σ2 w2 ok2 go2 kp2
    | succ k =>
      have hi : i < xs.length := by omega
      have hx : xs[i]? = some xs[i] := List.getElem?_eq_getElem hi
      refine .inr ⟨wk.go i _ _ le hx, fun σ3 H3 => ∃ e3 w3, w3.H = H3 ∧ Ok X.K e3 σ3 w3 ∧ Go w w3 [] ∧ Le w1.F w3.F ∧ Keep bw σ σ3 ∧ k + (i + 1) = xs.length ∧ SPo X.K Wx bw σ w D (forL fn (xs.drop (i + 1)) e3), fun σ3 H3 q => ⟨k, Nat.lt_succ_self k, q⟩, fun v H' hy => ?_⟩
      -- the item's world
      obtain ⟨w3, h3, ok3, go3, rd, g23⟩ : ∃ w3, w3.H = H' ∧ Ok X.K e2 σ2 w3 ∧ Go w w3 [] ∧ RelD X.K w3.F xs[i] v ∧ Le w2.F w3.F := by
        rcases wk.yld i _ _ v H' le hx hy with ⟨rfl, r⟩ | ⟨p, vs, np, rfl, r⟩
        · exact ⟨w2, rfl, ok2, go2, r.mono le2, .refl _⟩
        · refine ⟨⟨upd w2.F p (.tup vs), upd w2.H p (.tup vs), w2.fs⟩, rfl, ok2.newF np, go2.newF np ok2.le, r.mono ?_, upd_le (ok2.le.none np)⟩
          exact upd_both le2
      subst h3
      rw [List.drop_eq_getElem_cons hi] at h2
      have h2 : SPo X.K Wx bw σ w D (match fn xs[i] e2 with
        | .nx e => forL fn (xs.drop (i + 1)) e
        | .ct e => forL fn (xs.drop (i + 1)) e
        | .bk e => .nx e
        | r => r) := h2
      refine ⟨e2, w3, w3, σ2, .v (.d xs[i]), [], rfl, ok3, ⟨⟨rd, rfl⟩, by simp⟩, .nil, .refl, .refl, ?_⟩
      have ef : fn xs[i] e2 = (m (.v (.d xs[i])) e2).st fun _ e => ms e := by rw [← hf]
      cases qm : m (.v (.d xs[i])) e2 with
      | no => rw [ef, qm] at h2; exact h2
      | exc y e4 => rw [ef, qm] at h2; exact fun σ' w' cls d ok' go' kp' rx => h2 σ' w' cls d ok' (go3.trans go') (kp2.trans kp') rx
      | ok u e4 =>
        rw [ef, qm] at h2
        intro σ4 w4 ok4 go4 kp4
        refine ⟨e4, w4, rfl, ok4, ?_⟩
        have go4' := go3.trans go4
        have le4 : Le w1.F w4.F := (le2.trans g23).trans go4.le
        refine SPo.loop (D := D) go4' (kp2.trans kp4) rfl ?_ (r' := .no)
        have h2 : SPo X.K Wx bw σ w D (match ms e4 with
          | .nx e => forL fn (xs.drop (i + 1)) e
          | .ct e => forL fn (xs.drop (i + 1)) e
          | .bk e => .nx e
          | r => r) := h2
        cases q : ms e4 with
        | nx e5 => rw [q] at h2; exact fun σ' w' ok' go' kp' => ⟨e5, w', rfl, ok', go4'.trans go', le4.trans go'.le, (kp2.trans kp4).trans kp', by omega, h2⟩
        | ct e5 => rw [q] at h2; exact fun σ' w' ok' go' kp' => ⟨e5, w', rfl, ok', go4'.trans go', le4.trans go'.le, (kp2.trans kp4).trans kp', by omega, h2⟩
        | bk e5 => rw [q] at h2; exact fun σ' w' ok' go' kp' => h2 σ' w' ok' (go4'.trans go') ((kp2.trans kp4).trans kp')
        | rt x e5 => rw [q] at h2; exact h2
        | exc x e5 => rw [q] at h2; exact h2
        | no => rw [q] at h2; exact h2
end
end Ip
end

section
set_option linter.all false
set_option autoImplicit false
set_option maxHeartbeats 1000000
namespace Ip
open PySem PySem.Spec PyProof.Rows L2
variable [Tb]

theorem p3 {α β : Type} {R : α → β → Prop} {a b c : α} {l : List β} (h : Paired R [a, b, c] l) : ∃ d e f, l = [d, e, f] ∧ R a d ∧ R b e ∧ R c f := by
  cases h with
  | cons h1 h =>
    cases h with
    | cons h2 h =>
      cases h with
      | cons h3 h =>
        cases h
        exact ⟨_, _, _, rfl, h1, h2, h3⟩
theorem tIs_run' {K : PySem.W.Frag} {Wx : L2.WX} {σ : L2.St} {w0 w1 : Wld} {e : Env} {g : List Addr} {α : Type} {m : Env → R (List W)} {fk : List W → Env → R α} {k : α → Env → Prop} {Q : List V → Hp → Prop} (ok : Ok K e σ w1) (go : Go w0 w1 g) (sp : Sep w1 g) (h : PR K Wx σ w0 ((m e).bind fk) k)
    (hQ : ∀ x e' w' v fx, m e = .ok x e' → Ok K e' σ w' → RelWs K σ w' x v fx → Sep w' (g ++ fx) → Go w1 w' fx → Go w0 w' (g ++ fx) → PR K Wx σ w0 (fk x e') k → Q v w'.H) : tIs K Wx m σ w1.H Q := by
  refine ⟨e, w1, rfl, ok, ?_⟩
  cases q : m e with
  | no => rw [q] at h; exact h
  | exc x e1 => rw [q] at h; exact Exd.go h go
  | ok x e1 =>
    rw [q] at h
    exact fun w' v fx ok' rx sx g' => hQ x e1 w' v fx q ok' rx (sp.go g' sx) g' (go.trans g') h
theorem PI.imp {X : Cx} {tg e : Expr} {t t' : TI} (h : PI X tg e t) (k : ∀ σ H R, t' σ H R → t σ H R) : PI X tg e t' := ⟨fun pins s σ H R I q => h.run pins s σ H R I (k σ H R q)⟩
section
variable {X : Cx} {tg : Expr}
/-- a list, a tuple or a text that is walked -/
def iSeq (K : PySem.W.Frag) (tl : TE) : TI := fun σ H R => tl σ H fun x H1 => (∃ a, x = .ref a ∧ (∃ xs, SqL K H1 a xs) ∧ R (Itl K a) H1) ∨ (∃ a, x = .ref a ∧ (∃ xs, SqT K H1 a xs) ∧ R (Itt K a) H1) ∨ (∃ z, x = .str z ∧ R (Its z) H1) ∨ ∃ d o kvs, x = .ref d ∧ H1 d = some (.frz o (.dK kvs)) ∧ R (Itk d o kvs) H1
theorem pi_seq {l : Expr} {tl : TE} (hl : PE X l tl) : PI X tg l (iSeq X.K tl) := by
  refine ⟨fun pins s σ H R I h => ?_⟩
  refine thn (hl.run pins s σ H _ I h) fun v s1 ⟨x, H1, I1, r1, q1⟩ => ?_
  rcases q1 with ⟨a, e, ⟨xs, hq⟩, q⟩ | ⟨a, e, ⟨xs, hq⟩, q⟩ | ⟨z, e, q⟩ | ⟨d, o, kvs, e, hd, q⟩
  · subst e
    cases r1
    obtain ⟨its, rv, p, hz⟩ := I1.list hq
    refine wpAny_pyIter_list p.isList ?_
    refine ⟨s1.heap.objs.size, [s1.heap.objs.size], _, _, H1, rfl, I1.kept (t' := s1.toks) fun b o e => Heap.get?_push_of_some _ e, turn_list a _, ⟨_, Heap.get?_push_size _ rfl, rfl, rfl⟩, fun b hb => ?_, q⟩
    rw [List.mem_singleton.mp hb]
    exact I1.fpOk (Nat.le_refl _) (I1.hok.fresh (Nat.le_refl _))
  · subst e
    cases r1
    obtain ⟨its, rv, p, hz⟩ := I1.tuple hq
    refine wpAny_pyIter_tuple (show s1.heap.IsTuple a its.toArray from p) ?_
    refine ⟨s1.heap.objs.size, [s1.heap.objs.size], _, _, H1, rfl, I1.kept (t' := s1.toks) fun b o e => Heap.get?_push_of_some _ e, turn_tuple a _, ⟨_, Heap.get?_push_size _ rfl, rfl, rfl⟩, fun b hb => ?_, q⟩
    rw [List.mem_singleton.mp hb]
    exact I1.fpOk (Nat.le_refl _) (I1.hok.fresh (Nat.le_refl _))
  · subst e
    obtain ⟨t, rfl⟩ := r1
    cases ha : z.cps.all (· < 128)
    · exact wpAny_pyIter_wide ha (pi_one (tk := s1.toks) I1 _ (turn_str _ z t "str_iterator" (.inr rfl)) ⟨_, Heap.get?_push_size _ rfl, rfl, rfl⟩ q)
    · exact wpAny_pyIter_ascii ha (pi_one (tk := s1.toks) I1 _ (turn_str _ z t "str_ascii_iterator" (.inl rfl)) ⟨_, Heap.get?_push_size _ rfl, rfl, rfl⟩ q)
  · subst e
    cases (show v = Value.ref d from r1)
    obtain ⟨ns, got, ex, es, ep, vs, dat, siz, kv, hm⟩ := I1.frzK hd
    exact iter_keys ns got ex dat (pi_one (tk := s1.toks) I1 _ (turn_keys _ dat) ⟨_, Heap.get?_push_size _ rfl, rfl, by rw [siz]; rfl⟩ q)
end
section
variable {K : PySem.W.Frag} {F : Hp}
theorem walk_lst {a : Addr} {vs : List V} {xs : List D} (h1 : SqL K F a vs) (h2 : RelDs K F xs vs) : Walked K (Itl K a) F xs := by
  refine ⟨fun i H x le hx => ?_, fun i H x v H' le hx hy => ?_, fun i H le hi => ⟨vs, le.sql h1, by rw [← h2.len]; exact hi⟩⟩
  · obtain ⟨v, hv, _⟩ := h2.get hx
    exact ⟨vs, v, le.sql h1, hv⟩
  · obtain ⟨w, hw, r⟩ := h2.get hx
    obtain ⟨rfl, fv⟩ := hy
    have := fv vs (le.sql h1)
    rw [hw] at this
    cases this
    exact .inl ⟨rfl, r⟩
theorem walk_tup {a : Addr} {vs : List V} {xs : List D} (h1 : SqT K F a vs) (h2 : RelDs K F xs vs) : Walked K (Itt K a) F xs := by
  refine ⟨fun i H x le hx => ?_, fun i H x v H' le hx hy => ?_, fun i H le hi => ⟨vs, le.sqt h1, by rw [← h2.len]; exact hi⟩⟩
  · obtain ⟨v, hv, _⟩ := h2.get hx
    exact ⟨vs, v, le.sqt h1, hv⟩
  · obtain ⟨w, hw, r⟩ := h2.get hx
    obtain ⟨rfl, fv⟩ := hy
    have := fv vs (le.sqt h1)
    rw [hw] at this
    cases this
    exact .inl ⟨rfl, r⟩
theorem RelKs.get : ∀ {kvs : List (D × D)} {ps : List (Key × V)} {i : Nat} {x : D}, RelKs K F kvs ps → (kvs.map (·.1))[i]? = some x → ∃ j v, ps[i]? = some (j, v) ∧ RelD K F x (kV j)
  | [], [], _, _, _, e => by simp at e
  | (k, y) :: r, (j, v) :: s, 0, x, h, e => by
    unfold RelKs at h
    simp at e
    subst e
    refine ⟨j, v, rfl, ?_⟩
    have h1 := h.1
    cases k <;> simp only [RelKy] at h1
    · subst h1; unfold RelD; rfl
    · obtain ⟨rfl, ht⟩ := h1
      unfold RelD
      exact ⟨rfl, ht⟩
  | (k, y) :: r, (j, v) :: s, i + 1, x, h, e => by
    unfold RelKs at h
    obtain ⟨j', v', h1, h2⟩ := RelKs.get (i := i) h.2.2 (by simpa using e)
    exact ⟨j', v', by simpa using h1, h2⟩
  | [], _ :: _, _, _, h, _ => by unfold RelKs at h; exact h.elim
  | (_, _) :: _, [], _, _, h, _ => by unfold RelKs at h; exact h.elim
theorem walk_key {a : Addr} {od : Obj} {ps : List (Key × V)} {kvs : List (D × D)} (h1 : F a = some (.frz od (.dK ps))) (h2 : RelKs K F kvs ps) : Walked K (Itk a od ps) F (kvs.map (·.1)) := by
  refine ⟨fun i H x le hx => ⟨le _ _ h1, ?_⟩, fun i H x v H' le hx hy => ?_, fun i H le hi => ⟨le _ _ h1, by rw [← h2.len]; simpa using hi⟩⟩
  · obtain ⟨hi, _⟩ := List.getElem?_eq_some_iff.mp hx
    rw [← h2.len]
    simpa using hi
  · obtain ⟨rfl, k, u, hk, rfl⟩ := hy
    obtain ⟨j, w, hj, r⟩ := h2.get hx
    rw [hk] at hj
    cases hj
    exact .inl ⟨rfl, r⟩
theorem walk_str {z : List Nat} (h : TxtOk z) : Walked K (Its (txt z)) F (z.map fun c => .str [c]) := by
  refine ⟨fun i H x le hx => ?_, fun i H x v H' le hx hy => ?_, fun i H le hi => by show (txt z).cps.size ≤ i; simpa [txt] using hi⟩
  · obtain ⟨hi, _⟩ := List.getElem?_eq_some_iff.mp hx
    show i < (txt z).cps.size
    simpa [txt] using hi
  · obtain ⟨rfl, c, hc, rfl⟩ := hy
    rw [List.getElem?_map] at hx
    have hc : z[i]? = some c := by simpa [txt] using hc
    rw [hc] at hx
    cases hx
    refine .inl ⟨rfl, ?_⟩
    unfold RelD
    exact ⟨rfl, by rw [sizeLine_eq]; simp, fun d hd => by
      have : d = c := by simpa using hd
      subst this
      exact h.2 d (List.mem_of_getElem? hc)⟩
theorem walk_rngC {lo c : Int} {n : Nat} : Walked K (Itc lo c n) F (rangeC lo c n) := by
  refine ⟨fun i H x le hx => ?_, fun i H x v H' le hx hy => ?_, fun i H le hi => by show n ≤ i; simpa [rangeC] using hi⟩
  · obtain ⟨hi, _⟩ := List.getElem?_eq_some_iff.mp hx
    show i < n
    simpa [rangeC] using hi
  · obtain ⟨rfl, rfl⟩ := hy
    unfold rangeC at hx
    rw [List.getElem?_map] at hx
    cases hr : (List.range n)[i]? with
    | none => rw [hr] at hx; cases hx
    | some k =>
      rw [hr] at hx
      cases hx
      obtain ⟨hi, hk⟩ := List.getElem?_eq_some_iff.mp hr
      rw [List.getElem_range] at hk
      subst hk
      refine .inl ⟨rfl, ?_⟩
      unfold RelD
      rfl
theorem walk_rng {lo : Int} {n : Nat} : Walked K (Itr lo n) F (rangeL lo n) := by
  refine ⟨fun i H x le hx => ?_, fun i H x v H' le hx hy => ?_, fun i H le hi => by show n ≤ i; simpa [rangeL] using hi⟩
  · obtain ⟨hi, _⟩ := List.getElem?_eq_some_iff.mp hx
    show i < n
    simpa [rangeL] using hi
  · obtain ⟨rfl, rfl⟩ := hy
    unfold rangeL at hx
    rw [List.getElem?_map] at hx
    cases hr : (List.range n)[i]? with
    | none => rw [hr] at hx; cases hx
    | some k =>
      rw [hr] at hx
      cases hx
      obtain ⟨hk, e⟩ := List.getElem?_eq_some_iff.mp hr
      rw [List.getElem_range] at e
      subst e
      refine .inl ⟨rfl, ?_⟩
      unfold RelD
      rfl
end
section
variable {X : Cx} {Wx : L2.WX} {bw : List Nat} {ma : Env → R W} {ml : Env → R (List W)} {a tg : Expr} {es : List Expr} {p pos : Pos}
theorem J_e (ha : PE X a (tI X.K Wx ma)) : PI X tg a (wI X.K Wx fun e => (ma e).bind fun w e => match Ip.take e w with
    | some (x, e1) => ofO e1 (itemsD x)
    | none => .no) := by
  refine PI.imp (pi_seq ha) fun σ H R ⟨e, w, hw, ok, h⟩ => ?_
  subst hw
  refine tI_run ok .refl .nil h fun x e1 w1 vx fx ok1 rx sx g1 go1 h1 => ?_
  cases q : Ip.take e1 x with
  | none => rw [q] at h1; exact h1.elim
  | some r =>
    obtain ⟨y, e2⟩ := r
    rw [q] at h1
    obtain ⟨w2, h2, ok2, rd, go2, sp2, le2⟩ := take_ok (g := []) ok1 rx (by simpa using go1) (by simpa using sx) q
    rw [← h2]
    cases y <;> simp only [itemsD, ofO] at h1 <;> first | exact h1.elim | skip
    · rename_i z
      unfold RelD at rd
      obtain ⟨rfl, tk⟩ := rd
      exact .inr (.inr (.inl ⟨_, rfl, h1 w2 _ ok2 go2 (walk_str tk)⟩))
    · rename_i xs
      unfold RelD at rd
      obtain ⟨b, vs, rfl, s1, r1, l1⟩ := rd
      exact .inr (.inl ⟨b, rfl, ⟨vs, ok2.le.sqt s1⟩, h1 w2 _ ok2 go2 (walk_tup s1 r1)⟩)
    · rename_i xs
      unfold RelD at rd
      obtain ⟨b, vs, rfl, s1, r1, l1⟩ := rd
      exact .inl ⟨b, rfl, ⟨vs, ok2.le.sql s1⟩, h1 w2 _ ok2 go2 (walk_lst s1 r1)⟩
    · unfold RelD at rd
      obtain ⟨b, od, ps, rfl, s1, r1⟩ := rd
      exact .inr (.inr (.inr ⟨b, od, ps, rfl, ok2.le _ _ s1, h1 w2 _ ok2 go2 (walk_key s1 r1)⟩))
theorem J_range1 (hg : Gl X "range") (hm : X.mg "range" = none) (hp : plainArg a = true) (ha : PA X [a] (tIs X.K Wx ml)) (hl : ∀ e xs e', ml e = .ok xs e' → xs.length = 1) : PI X tg (.Call (.Name "range" p) [a] [] pos) (wI X.K Wx fun e => (ml e).bind fun ws e => ofO e ((seeAll e ws).bind rangeD)) := by
  refine PI.imp (pi_range1 hg hm ha (star_plain hp)) fun σ H R ⟨e, w, hw, ok, h⟩ => ?_
  subst hw
  refine tIs_run' ok .refl .nil h fun xs e1 w1 vs fs em ok1 rs ss g1 go1 h1 => ?_
  have hlen := hl _ _ _ em
  cases q : seeAll e1 xs with
  | none => rw [q] at h1; exact h1.elim
  | some ys =>
    rw [q] at h1
    have pr := seeAll_ok ok1 rs q
    simp only [Option.bind] at h1
    unfold rangeD at h1
    split at h1
    · rename_i j
      split at h1
      · rename_i hj
        simp only [Bool.and_eq_true, decide_eq_true_eq] at hj
        obtain ⟨v, rfl, r⟩ := p1 pr
        exact ⟨j, by rw [r.int], hj.1, hj.2, h1 w1 _ ok1 (go1.sub (by simp)) walk_rng⟩
      · exact h1.elim
    · obtain ⟨v, u, rfl, _, _⟩ := p2 pr
      have := rs.len
      simp [hlen] at this
    · obtain ⟨v, u, z, rfl, _⟩ := p3 pr
      have := rs.len
      simp [hlen] at this
    · exact h1.elim
theorem J_range2 {b : Expr} (hg : Gl X "range") (hm : X.mg "range" = none) (hp : plainArg a = true) (hp2 : plainArg b = true) (ha : PA X [a, b] (tIs X.K Wx ml)) (hl : ∀ e xs e', ml e = .ok xs e' → xs.length = 2) : PI X tg (.Call (.Name "range" p) [a, b] [] pos) (wI X.K Wx fun e => (ml e).bind fun ws e => ofO e ((seeAll e ws).bind rangeD)) := by
  refine PI.imp (pi_range2 hg hm ha (by rw [star_plain hp, star_plain hp2]; rfl) (star_plain hp2)) fun σ H R ⟨e, w, hw, ok, h⟩ => ?_
  subst hw
  refine tIs_run' ok .refl .nil h fun xs e1 w1 vs fs em ok1 rs ss g1 go1 h1 => ?_
  have hlen := hl _ _ _ em
  cases q : seeAll e1 xs with
  | none => rw [q] at h1; exact h1.elim
  | some ys =>
    rw [q] at h1
    have pr := seeAll_ok ok1 rs q
    simp only [Option.bind] at h1
    unfold rangeD at h1
    split at h1
    · obtain ⟨v, rfl, _⟩ := p1 pr
      have := rs.len
      simp [hlen] at this
    · rename_i i j
      split at h1
      · rename_i hj
        simp only [Bool.and_eq_true, decide_eq_true_eq] at hj
        obtain ⟨v, u, rfl, r, r'⟩ := p2 pr
        exact ⟨i, j, by rw [r.int, r'.int], ⟨hj.1.1.1, hj.1.1.2, hj.1.2, hj.2⟩, h1 w1 _ ok1 (go1.sub (by simp)) walk_rng⟩
      · exact h1.elim
    · obtain ⟨v, u, z, rfl, _⟩ := p3 pr
      have := rs.len
      simp [hlen] at this
    · exact h1.elim
theorem starEach_two {a b c : Expr} {env : PySem.Env} {pos : Pos} (hp2 : plainArg b = true) (hp3 : plainArg c = true) : (backTo pos (starEach [b, c] env)).any (·.1) = false := by
  rw [star_plain hp2, star_plain hp3]
  rfl
theorem J_range3 {b c : Expr} (hg : Gl X "range") (hm : X.mg "range" = none) (hp : plainArg a = true) (hp2 : plainArg b = true) (hp3 : plainArg c = true) (ha : PA X [a, b, c] (tIs X.K Wx ml)) (hl : ∀ e xs e', ml e = .ok xs e' → xs.length = 3) : PI X tg (.Call (.Name "range" p) [a, b, c] [] pos) (wI X.K Wx fun e => (ml e).bind fun ws e => ofO e ((seeAll e ws).bind rangeD)) := by
  refine PI.imp (pi_range3 hg hm ha (star_plain hp) (starEach_two (a := a) hp2 hp3)) fun σ H R ⟨e, w, hw, ok, h⟩ => ?_
  subst hw
  refine tIs_run' ok .refl .nil h fun xs e1 w1 vs fs em ok1 rs ss g1 go1 h1 => ?_
  have hlen := hl _ _ _ em
  cases q : seeAll e1 xs with
  | none => rw [q] at h1; exact h1.elim
  | some ys =>
    rw [q] at h1
    have pr := seeAll_ok ok1 rs q
    simp only [Option.bind] at h1
    unfold rangeD at h1
    split at h1
    · obtain ⟨v, rfl, _⟩ := p1 pr
      have := rs.len
      simp [hlen] at this
    · obtain ⟨v, u, rfl, _, _⟩ := p2 pr
      have := rs.len
      simp [hlen] at this
    · rename_i i j c
      split at h1
      · rename_i hj
        simp only [Bool.and_eq_true, decide_eq_true_eq] at hj
        obtain ⟨v, u, z, rfl, r, r', r''⟩ := p3 pr
        refine ⟨i, j, c, _, by rw [r.int, r'.int, r''.int], ⟨hj.1.1.1, hj.1.1.2, hj.1.2, ?_⟩, h1 w1 _ ok1 (go1.sub (by simp)) walk_rngC⟩
        have := hj.2
        omega
      · exact h1.elim
    · exact h1.elim
end

/-! ### comprehensions -/
abbrev WF : L2.WX := fun _ _ _ _ => False
theorem getD_wipe : ∀ (vs : List Nat) (σ : L2.St) (j : Nat), j ∉ vs → (L2.wipe σ vs)[j]? = σ[j]?
  | [], _, _, _ => rfl
  | v :: vs, σ, j, h => by
    unfold L2.wipe
    rw [List.getElem?_set_ne (fun q => h (by simp [q]))]
    exact getD_wipe vs σ j fun q => h (by simp [q])
/-- the block's own names as they were ahead of it -/
def unwS : List Nat → L2.St → L2.St → L2.St
  | [], _, s => s
  | i :: is, s0, s => unwS is s0 (match s0[i]? with | some x => s.set i x | none => s)
theorem unwS_get : ∀ (vs : List Nat) (σ0 σ : L2.St) (j : Nat), σ.length = σ0.length → (unwS vs σ0 σ)[j]? = if j ∈ vs then σ0[j]? else σ[j]?
  | [], _, _, _, _ => by simp [unwS]
  | v :: vs, σ0, σ, j, hl => by
    unfold unwS
    cases q : σ0[v]? with
    | none =>
      simp only
      rw [unwS_get vs σ0 σ j hl]
      by_cases hj : j = v
      · subst hj
        have : σ[j]? = none := by rw [List.getElem?_eq_none_iff] at q ⊢; omega
        simp [q, this]
      · simp [hj]
    | some x =>
      simp only
      rw [unwS_get vs σ0 _ j (by rw [List.length_set]; exact hl)]
      obtain ⟨hv, _⟩ := List.getElem?_eq_some_iff.mp q
      by_cases hj : j = v
      · subst hj
        rw [List.getElem?_set_self (by omega)]
        simp [q]
      · rw [List.getElem?_set_ne (fun z => hj z.symm)]
        simp [hj]
theorem unwS_eq {vs : List Nat} {σ σ2 : L2.St} (h : L2.wipe σ2 vs = L2.wipe σ vs) : unwS vs σ σ2 = σ := by
  have hl : σ2.length = σ.length := by
    have := congrArg List.length h
    rwa [wipe_length, wipe_length] at this
  apply List.ext_getElem?
  intro j
  rw [unwS_get vs σ σ2 j hl]
  split
  · rfl
  · rename_i hj
    rw [← getD_wipe vs σ2 j hj, h, getD_wipe vs σ j hj]
section
variable {K : PySem.W.Frag} {e e0 : Env} {σ σ0 : L2.St} {w w0 : Wld}
theorem wipe_ok (ok : Ok K e σ w) : ∀ {own : List Nat}, own.all (pureAt e) = true → Ok K (Ip.wipe own e) (L2.wipe σ own) w := by
  have key : ∀ (own : List Nat) (e : Env) (σ : L2.St), (∀ i ∈ own, pureAt e i = true) → RelE K w.F w.H e σ w.fs → RelE K w.F w.H (Ip.wipe own e) (L2.wipe σ own) w.fs := by
    intro own
    induction own with
    | nil => intro e σ _ h; exact h
    | cons i is ih =>
      intro e σ hp h
      -- L2.wipe sets from the back, wipe from the front
      have hf : ∀ f, w.fs[i]? = some f → f = [] := by
        intro f hf
        have p := hp i (by simp)
        unfold pureAt at p
        cases q : e[i]? with
        | none => rw [q] at p; cases p
        | some s =>
          rw [q] at p
          obtain ⟨o, f', h1, h2, h3⟩ := h.get q
          rw [hf] at h2
          cases h2
          cases s <;> first | (cases p; done) | skip
          · exact h3
          · cases o with
            | none => exact h3.elim
            | some v => exact h3.2
      have set1 : ∀ (e : Env) (σ : L2.St), RelE K w.F w.H e σ w.fs → RelE K w.F w.H (e.set i .un) (σ.set i none) w.fs := by
        intro e σ h
        have l := h.len
        by_cases hi : i < w.fs.length
        · have q : w.fs[i]? = some w.fs[i] := List.getElem?_eq_getElem hi
          have e1 := hf _ q
          have := h.set i (x := .un) (o := none) (f := []) rfl
          rw [← e1, show w.fs.set i w.fs[i] = w.fs from List.set_getElem_self hi] at this
          exact this
        · rw [List.set_eq_of_length_le (by omega), List.set_eq_of_length_le (by omega)]
          exact h
      have pu : ∀ j ∈ is, pureAt (e.set i .un) j = true := by
        intro j hj
        have p := hp j (by simp [hj])
        unfold pureAt at p ⊢
        by_cases hij : i = j
        · subst hij
          cases q : e[i]? with
          | none => rw [q] at p; cases p
          | some s =>
            obtain ⟨hi, _⟩ := List.getElem?_eq_some_iff.mp q
            rw [List.getElem?_set_self hi]
        · rw [List.getElem?_set_ne hij]; exact p
      have comm : ∀ (is : List Nat) (σ : L2.St), (L2.wipe σ is).set i none = L2.wipe (σ.set i none) is := by
        intro is
        induction is with
        | nil => intro σ; rfl
        | cons j js ih =>
          intro σ
          unfold L2.wipe
          by_cases hij : i = j
          · subst hij
            rw [← ih]
          · rw [List.set_comm _ _ (Ne.symm hij), ih]
      show RelE K w.F w.H (Ip.wipe is (e.set i .un)) ((L2.wipe σ is).set i none) w.fs
      rw [comm]
      exact ih _ _ pu (set1 e σ h)
  intro own h
  simp only [List.all_eq_true] at h
  exact ⟨ok.le, key own e σ h ok.rel, ok.nd, ok.out, ok.fnt, ok.tab⟩
theorem unwipe_ok : ∀ {own : List Nat} {e : Env} {σ : L2.St} {w : Wld}, Ok K e σ w → (∀ i ∈ own, ∀ s : SV, e0[i]? = some s → ∃ o : Option V, σ0[i]? = some o ∧ RelU K w.F w.H s o []) → (∀ i : Nat, σ0[i]? = none ↔ e0[i]? = none) →
    ∃ w', w'.H = w.H ∧ w'.F = w.F ∧ Ok K (unwipe own e0 e) (unwS own σ0 σ) w' ∧ (∀ f, Go w0 w f → Go w0 w' f) ∧ ∀ f, Sep w f → Sep w' f
  | [], e, σ, w, ok, _, _ => ⟨w, rfl, rfl, ok, fun _ h => h, fun _ h => h⟩
  | i :: is, e, σ, w, ok, h, hn => by
    unfold unwipe unwS
    cases q : e0[i]? with
    | none =>
      rw [(hn i).mpr q]
      exact unwipe_ok ok (fun j hj => h j (by simp [hj])) hn
    | some s =>
      obtain ⟨o, h1, h2⟩ := h i (by simp) s q
      rw [h1]
      simp only
      obtain ⟨l1, l2⟩ := ok.rel.len
      have step : ∃ w1 : Wld, w1.H = w.H ∧ w1.F = w.F ∧ Ok K (e.set i s) (σ.set i o) w1 ∧ (∀ f, Go w0 w f → Go w0 w1 f) ∧ ∀ f, Sep w f → Sep w1 f := by
        by_cases hi : i < w.fs.length
        · have qf : w.fs[i]? = some w.fs[i] := List.getElem?_eq_getElem hi
          have sub : ∀ b, b ∈ (w.fs.set i []).flatten → b ∈ w.fs.flatten := fun b hb => by
            rcases mem_setF qf hb with z | z
            · cases z
            · exact z
          exact ⟨⟨w.F, w.H, w.fs.set i []⟩, rfl, rfl, ⟨ok.le, ok.rel.set i h2, nd_setF ok.nd qf .nil (fun _ h => nomatch h), fun b hb => ok.out b (sub b hb), ok.fnt, ok.tab⟩,
            fun f go => ⟨go.keep, fun b z => go.new b (z.imp id (sub b)), go.le, go.frz⟩, fun f sp => ⟨sp.nd, fun b hb z => sp.dis b hb (sub b z), sp.out, sp.own⟩⟩
        · rw [List.set_eq_of_length_le (by omega), List.set_eq_of_length_le (by omega)]
          exact ⟨w, rfl, rfl, ok, fun _ h => h, fun _ h => h⟩
      obtain ⟨w1, e1, e2, ok1, g1, s1⟩ := step
      obtain ⟨w2, e3, e4, ok2, g2, s2⟩ := unwipe_ok (own := is) ok1 (fun j hj s' q' => by rw [e1, e2]; exact h j (by simp [hj]) s' q') hn
      exact ⟨w2, e3.trans e1, e4.trans e2, ok2, fun f go => g2 f (g1 f go), fun f sp => s2 f (s1 f sp)⟩
end
end Ip
end

section
set_option linter.all false
set_option autoImplicit false
set_option maxHeartbeats 1000000
namespace Ip
open PySem PySem.Spec PyProof.Rows L2
variable [Tb]

/-- a test that is no expression of its own -/
def tB (K : PySem.W.Frag) (Wx : L2.WX) (m : Env → R Bool) : TT := fun σ H Q => ∃ e w, w.H = H ∧ Ok K e σ w ∧ PR K Wx σ w (m e) fun b e' => ∀ w', Ok K e' σ w' → Go w w' [] → Q b w'.H
theorem PTs.imp {X : Cx} {es : List Expr} {t t' : TT} (h : PTs X es t) (k : ∀ σ H Q, t' σ H Q → t σ H Q) : PTs X es t' := ⟨fun pins s σ H Q I q => h.run pins s σ H Q I (k σ H Q q)⟩
section
variable {X : Cx} {Wx : L2.WX} {c : Expr} {mc : Env → R W}
theorem B_nil : PTs X [] (tB X.K Wx fun e => .ok true e) := PTs.imp pts_nil fun σ H Q ⟨e, w, hw, ok, h⟩ => by
  subst hw
  exact h w ok .refl
theorem B_one (h : PT X c (tT X.K Wx mc)) : PTs X [c] (tB X.K Wx fun e => (mc e).bind fun x e => match (see e x).bind truD with
    | some true => .ok true e
    | some false => .ok false e
    | none => .no) := by
  refine PTs.imp (pts_one h) fun σ H Q ⟨e, w, hw, ok, h⟩ => ⟨e, w, hw, ok, ?_⟩
  refine cast ?_ h
  congr 1
  unfold tst
  dsimp only
  congr 1
  funext x e
  cases (see e x).bind truD with
  | none => rfl
  | some b => cases b <;> rfl
end
theorem bind_ok {α β : Type} {r : R α} {f : α → Env → R β} {b : β} {e : Env} (h : r.bind f = .ok b e) : ∃ a e1, r = .ok a e1 ∧ f a e1 = .ok b e := by
  cases r with
  | ok a e1 => exact ⟨a, e1, rfl, h⟩
  | exc x e1 => cases h
  | no => cases h
theorem unwipe_get : ∀ (vs : List Nat) (e0 e : Env) (j : Nat), e.length = e0.length → (unwipe vs e0 e)[j]? = if j ∈ vs then e0[j]? else e[j]?
  | [], _, _, _, _ => by simp [unwipe]
  | v :: vs, e0, e, j, hl => by
    unfold unwipe
    cases q : e0[v]? with
    | none =>
      simp only
      rw [unwipe_get vs e0 e j hl]
      by_cases hj : j = v
      · subst hj
        have : e[j]? = none := by rw [List.getElem?_eq_none_iff] at q ⊢; omega
        simp [q, this]
      · simp [hj]
    | some x =>
      simp only
      rw [unwipe_get vs e0 _ j (by rw [List.length_set]; exact hl)]
      obtain ⟨hv, _⟩ := List.getElem?_eq_some_iff.mp q
      by_cases hj : j = v
      · subst hj
        rw [List.getElem?_set_self (by omega)]
        simp [q]
      · rw [List.getElem?_set_ne (fun z => hj z.symm)]
        simp [hj]
theorem wipeS_in : ∀ (vs : List Nat) (σ : L2.St) (j : Nat), j ∈ vs → (L2.wipe σ vs)[j]? = if j < σ.length then some none else none
  | v :: vs, σ, j, h => by
    unfold L2.wipe
    by_cases hj : v = j
    · subst hj
      by_cases hl : v < σ.length
      · rw [List.getElem?_set_self (by rw [wipe_length]; exact hl), if_pos hl]
      · rw [List.getElem?_eq_none (by rw [List.length_set, wipe_length]; omega), if_neg hl]
    · rw [List.getElem?_set_ne hj]
      exact wipeS_in vs σ j ((List.mem_cons.mp h).resolve_left fun q => hj q.symm)
theorem wipe_eq {vs : List Nat} {σ σ2 : L2.St} {n : Nat} (hl : σ.length = n) (h : Keep ((List.range n).filter fun j => !vs.contains j) (L2.wipe σ vs) σ2) : L2.wipe σ2 vs = L2.wipe σ vs := by
  have l2 : σ2.length = σ.length := by rw [h.2, wipe_length]
  apply List.ext_getElem?
  intro j
  by_cases hj : j ∈ vs
  · rw [wipeS_in vs σ2 j hj, wipeS_in vs σ j hj, l2]
  · rw [getD_wipe vs σ2 j hj]
    by_cases hn : j < n
    · exact h.1 j (by simp [hn, hj])
    · rw [List.getElem?_eq_none (by omega), List.getElem?_eq_none (by rw [wipe_length]; omega)]
/-- an object that waits is written -/
theorem pend_write {K : PySem.W.Frag} {e : Env} {σ : L2.St} {w w0 : Wld} {D : Addr} {o o' : HO} (ok : Ok K e σ w) (go : Go w0 w [D]) (sp : Sep w [D]) (h : w.H D = some o) (pl : Pl o := by trivial) (mu : Mut (some o') := by trivial) : Ok K e σ ⟨w.F, upd w.H D o', w.fs⟩ ∧ Go w0 ⟨w.F, upd w.H D o', w.fs⟩ [D] ∧ Sep ⟨w.F, upd w.H D o', w.fs⟩ [D] := by
  have hd : D ∉ w.fs.flatten := sp.dis D (by simp)
  have hF : w.F D = none := sp.out D (by simp)
  have ne : ∀ b o1, w.F b = some o1 → b ≠ D := fun b o1 z q => by subst q; rw [hF] at z; cases z
  have nf : ∀ b, b ∈ w.fs.flatten → b ≠ D := fun b z q => by subst q; exact hd z
  refine ⟨⟨fun b o1 z => ?_, ok.rel.frame (.refl _) fun b hb o1 z => ?_, ok.nd, ok.out, ok.fnt, tabs_upd h pl ok.tab⟩, ⟨fun b o1 z t n => ?_, go.new, go.le, go.frz⟩, ⟨sp.nd, sp.dis, sp.out, fun b hb => ?_⟩⟩
  · show upd w.H D o' b = some o1
    rw [upd_ne (ne b o1 z)]; exact ok.le b o1 z
  · show upd w.H D o' b = some o1
    rw [upd_ne (nf b hb)]; exact z
  · show upd w.H D o' b = some o1
    have z1 := go.keep b o1 z t n
    have : b ≠ D := by
      rintro rfl
      rcases go.new b (.inl (by simp)) with y | y
      · exact n y
      · exact y.no z t
    rw [upd_ne this]; exact z1
  · have : b = D := by simpa using hb
    subst this
    exact ⟨o', upd_same, mu⟩
/-- a list comprehension -/
def mComp (vs : List Nat) (mi : Env → R (List D)) (mg : W → Env → R Unit) (mt : Env → R Bool) (me : Env → R W) : Env → R W := fun e => (mi e).bind fun xs e => if decide (xs.length ≤ 1000000) && vs.all (pureAt e) then
      (compL (fun x e0 => (mg (.v (.d x)) (Ip.wipe vs e0)).bind fun _ e => (mt e).bind fun b e =>
        if b then (me e).bind fun w e => match Ip.take e w with
          | some (y, e) => .ok (some y) (unwipe vs e0 e)
          | none => .no
        else .ok none (unwipe vs e0 e)) xs [] e).bind fun ys e => .ok (.v (.lst ys)) e else .no
abbrev bwB (n : Nat) (vs : List Nat) : List Nat := (List.range n).filter fun j => !vs.contains j
theorem imp_comp {K : PySem.W.Frag} {Wx : L2.WX} {σ : L2.St} {H : Hp} {Q : VK} {n : Nat} {vs : List Nat} {mi : Env → R (List D)} {mg : W → Env → R Unit} {mt : Env → R Bool} {me : Env → R W} (hlen : σ.length = n) (h : tI K Wx (mComp vs mi mg mt me) σ H Q) :
    tLc (wI K Wx mi) (gI K WF (bwB n vs) mg) (tB K WF mt) (tI K WF me) vs σ H Q := by
  unfold mComp at h
  obtain ⟨e, w, hw, ok0, h⟩ := h
  subst hw
  generalize hf : (fun x e0 => (mg (.v (.d x)) (Ip.wipe vs e0)).bind fun _ e => (mt e).bind fun b e =>
        if b then (me e).bind fun w e => match Ip.take e w with
          | some (y, e) => .ok (some y) (unwipe vs e0 e)
          | none => .no
        else .ok none (unwipe vs e0 e) : D → Env → R (Option D)) = fn at h
  refine ⟨e, w, rfl, ok0, ?_⟩
  dsimp only at h
  refine (PR.bind h).mono fun xs e1 h1 w1 J ok1 go1 wk => ?_
  clear h
  have h := h1
  clear h1
  split at h
  rotate_left
  · exact h.elim
  rename_i hb
  simp only [Bool.and_eq_true, decide_eq_true_eq] at hb
  obtain ⟨hxl, hpu⟩ := hb
  intro D hD
  have ok1D : Ok K e1 σ ⟨w1.F, upd w1.H D (.lst []), w1.fs⟩ := ok1.newH hD
  have sp1D : Sep ⟨w1.F, upd w1.H D (.lst []), w1.fs⟩ [D] := Sep.nil.newH ok1 hD
  have go1D : Go w ⟨w1.F, upd w1.H D (.lst []), w1.fs⟩ [D] := go1.newH hD
  refine ⟨fun i m H2 => ∃ e2 w2 acc us, w2.H = H2 ∧ Ok K e2 σ w2 ∧ Go w w2 [D] ∧ Sep w2 [D] ∧ w2.H D = some (.lst us) ∧ RelDs K w2.F acc us ∧ acc.length ≤ i ∧ Le w1.F w2.F ∧ m + i = xs.length ∧ vs.all (pureAt e2) = true ∧
    PR K Wx σ w ((compL fn (xs.drop i) acc e2).bind fun ys e => .ok (.v (.lst ys)) e) (Got K σ w Q), ⟨xs.length, e1, _, [], [], rfl, ok1D, go1D, sp1D, upd_same, by unfold RelDs; trivial, Nat.le_refl _, .refl _, rfl, hpu, by simpa using h⟩, ?_⟩
  rintro i m H2 ⟨e2, w2, acc, us, rfl, ok2, go2, sp2, hD2, ra, la, le2, hm, pu2, h2⟩
  have le : Le w1.F w2.H := le2.trans ok2.le
  cases m with
  | zero =>
    refine .inl ⟨wk.stop i _ le (by omega), ?_⟩
    rw [List.drop_of_length_le (by omega)] at h2
    exact h2 w2 (.ref D) [D] ok2 ⟨⟨D, us, rfl, hD2, ra, by rw [sizeLine_eq]; omega, rfl⟩, by simp⟩ sp2 go2
  | succ m =>
    have hi : i < xs.length := by omega
    have hx : xs[i]? = some xs[i] := List.getElem?_eq_getElem hi
    refine .inr ⟨wk.go i _ _ le hx, fun H3 => ∃ e3 w3 acc us, w3.H = H3 ∧ Ok K e3 σ w3 ∧ Go w w3 [D] ∧ Sep w3 [D] ∧ w3.H D = some (.lst us) ∧ RelDs K w3.F acc us ∧ acc.length ≤ i + 1 ∧ Le w1.F w3.F ∧ m + (i + 1) = xs.length ∧ vs.all (pureAt e3) = true ∧
      PR K Wx σ w ((compL fn (xs.drop (i + 1)) acc e3).bind fun ys e => .ok (.v (.lst ys)) e) (Got K σ w Q), fun H3 q => ⟨m, Nat.lt_succ_self m, q⟩, fun v H' hy => ?_⟩
    obtain ⟨w3, h3, ok3, go3, sp3, hD3, rd, g23⟩ : ∃ w3, w3.H = H' ∧ Ok K e2 σ w3 ∧ Go w w3 [D] ∧ Sep w3 [D] ∧ w3.H D = some (.lst us) ∧ RelD K w3.F xs[i] v ∧ Le w2.F w3.F := by
      rcases wk.yld i _ _ v H' le hx hy with ⟨rfl, r⟩ | ⟨p, vs, np, rfl, r⟩
      · exact ⟨w2, rfl, ok2, go2, sp2, hD2, r.mono le2, .refl _⟩
      · refine ⟨⟨upd w2.F p (.tup vs), upd w2.H p (.tup vs), w2.fs⟩, rfl, ok2.newF np, go2.newF np ok2.le, sp2.newF np, upd_some hD2 np, r.mono ?_, upd_le (ok2.le.none np)⟩
        exact upd_both le2
    subst h3
    rw [List.drop_eq_getElem_cons hi] at h2
    cases hfx : fn xs[i] e2 with
    | no => unfold compL at h2; rw [hfx] at h2; exact h2.elim
    | exc x e3 => unfold compL at h2; rw [hfx] at h2; exact h2.elim
    | ok r e9 =>
      unfold compL at h2
      rw [hfx] at h2
      have hfx' : fn xs[i] e2 = .ok r e9 := hfx
      rw [← hf] at hfx'
      obtain ⟨_, e3, q3, hfx'⟩ := bind_ok hfx'
      obtain ⟨b, e4, q4, hfx'⟩ := bind_ok hfx'
      have okw := wipe_ok ok3 pu2
      refine ⟨Ip.wipe vs e2, w3, w3, L2.wipe σ vs, .v (.d xs[i]), [], rfl, okw, ⟨⟨rd, rfl⟩, by simp⟩, .nil, .refl, .refl, ?_⟩
      rw [q3]
      intro σ4 w4 ok4 go4 kp4
      have hwp := wipe_eq hlen kp4
      refine ⟨hwp, e3, w4, rfl, ok4, ?_⟩
      rw [q4]
      intro w5 ok5 go5
      have go5w : Go w w5 [D] := by simpa using (go3.trans go4).trans go5
      have g35 : Go w3 w5 [] := go4.trans go5
      have sp5 : Sep w5 [D] := by simpa using sp3.go g35 .nil
      have hD5 : w5.H D = some (.lst us) := g35.keep D _ hD3 (fun _ z => nomatch z) (sp3.dis D (by simp))
      have le5 : Le w2.F w5.F := g23.trans g35.le
      -- the block's names as they were
      have unw : ∀ (e' : Env) (w' : Wld), Ok K e' σ4 w' → Go w w' [D] → Sep w' [D] → Le w2.F w'.F → ∃ w'', w''.H = w'.H ∧ w''.F = w'.F ∧ Ok K (unwipe vs e2 e') σ w'' ∧ Go w w'' [D] ∧ Sep w'' [D] ∧ vs.all (pureAt (unwipe vs e2 e')) = true := by
        intro e' w' ok' go' sp' le'
        obtain ⟨w'', a1, a2, a3, a4, a5⟩ := unwipe_ok (w0 := w) (e0 := e2) (σ0 := σ) (own := vs) ok' (fun j hj s hs => by
          obtain ⟨o, f, b1, b2, b3⟩ := ok2.rel.get hs
          refine ⟨o, b1, ?_⟩
          have p := (List.all_eq_true.mp pu2) j hj
          unfold pureAt at p
          rw [hs] at p
          cases s <;> first | (cases p; done) | skip
          · exact rfl
          · cases o with
            | none => exact b3.elim
            | some v => exact ⟨b3.1.mono le', rfl⟩) (fun j => by
          have := ok2.rel.len.1
          rw [List.getElem?_eq_none_iff, List.getElem?_eq_none_iff, this])
        rw [unwS_eq hwp] at a3
        refine ⟨w'', a1, a2, a3, a4 _ go', a5 _ sp', ?_⟩
        rw [List.all_eq_true]
        intro j hj
        have l1 : e'.length = e2.length := by rw [ok'.rel.len.1, ok2.rel.len.1, kp4.2, wipe_length]
        have p := (List.all_eq_true.mp pu2) j hj
        unfold pureAt at p ⊢
        rw [unwipe_get vs e2 e' j l1, if_pos hj]
        exact p
      cases b with
      | false =>
        rw [if_neg (by simp)] at hfx' ⊢
        cases hfx'
        obtain ⟨w6, a1, a2, ok6, go6, sp6, pu6⟩ := unw e4 w5 ok5 go5w sp5 le5
        exact ⟨_, w6, acc, us, a1, ok6, go6, sp6, by rw [a1]; exact hD5, by rw [a2]; exact ra.mono le5, by omega, by rw [a2]; exact le2.trans le5, by omega, pu6, h2⟩
      | true =>
        rw [if_pos rfl] at hfx' ⊢
        obtain ⟨x, e6, q6, hfx'⟩ := bind_ok hfx'
        refine ⟨e4, w5, rfl, ok5, ?_⟩
        rw [q6]
        intro w6 v6 fx ok6 rx6 sx6 go6
        cases qt : Ip.take e6 x with
        | none => rw [qt] at hfx'; cases hfx'
        | some r6 =>
          obtain ⟨y, e7⟩ := r6
          rw [qt] at hfx'
          cases hfx'
          have spD : Sep w6 ([D] ++ fx) := sp5.go go6 sx6
          have goD : Go w w6 ([D] ++ fx) := go5w.trans go6
          have hn := List.nodup_append.mp spD.nd
          have sw : ∀ b, b ∈ fx ++ [D] → b ∈ [D] ++ fx := fun b hb => (List.mem_append.mp hb).elim (fun z => List.mem_append.mpr (.inr z)) (fun z => List.mem_append.mpr (.inl z))
          have spD' : Sep w6 (fx ++ [D]) := ⟨List.nodup_append.mpr ⟨hn.2.1, hn.1, fun a ha b hb q => hn.2.2 b hb a ha q.symm⟩, fun b hb => spD.dis b (sw b hb), fun b hb => spD.out b (sw b hb), fun b hb => spD.own b (sw b hb)⟩
          obtain ⟨w7, a1, ok7, rd7, go7, sp7, le7⟩ := take_ok ok6 rx6 (goD.sub sw) spD' qt
          have hD7 : w7.H D = some (.lst us) := by rw [a1]; exact go6.keep D _ hD5 (fun _ z => nomatch z) (sp5.dis D (by simp))
          have le57 : Le w2.F w7.F := (le5.trans go6.le).trans le7
          obtain ⟨w8, b1, b2, ok8, go8, sp8, pu8⟩ := unw e7 w7 ok7 go7 sp7 le57
          obtain ⟨ok9, go9, sp9⟩ := pend_write (o' := .lst (us ++ [v6])) ok8 go8 sp8 (by rw [b1]; exact hD7)
          have hl := ra.len
          refine ⟨us, by rw [← a1]; exact hD7, by rw [sizeLine_eq]; omega, _, _, acc ++ [y], us ++ [v6], by rw [b1, a1], ok9, go9, sp9, upd_same, ?_, by simp; omega, ?_, by omega, pu8, h2⟩
          · show RelDs K w8.F _ _
            rw [b2]
            exact RelDs.append (ra.mono le57) (by unfold RelDs; exact ⟨rd7, by unfold RelDs; trivial⟩)
          · show Le w1.F w8.F
            rw [b2]; exact le2.trans le57
section
variable {X : Cx} {Wx : L2.WX} {elt tg iter : Expr} {ifs : List Expr} {scope : Scope} {own : List (Str × Nat)} {pos : Pos} {mi : Env → R (List D)} {mg : W → Env → R Unit} {mt : Env → R Bool} {me : Env → R W}
theorem I_comp (hc : X.calm = true) (hN : X.N.Nodup) (hi : PI X tg iter (wI X.K Wx mi)) (ok : BlkOk X.N X.env.scope scope own)
    (hg : ∀ (s : Shared) (H : Hp) (C : Addr) (cl : List (Str × Addr)) (fp : List Addr), PG (X.blk s H scope (compEnvC scope cl C X.env) fp) tg (gI X.K WF (bwB X.N.length (own.map (·.2))) mg)) (ht : ∀ (s : Shared) (H : Hp) (C : Addr) (cl : List (Str × Addr)) (fp : List Addr), PTs (X.blk s H scope (compEnvC scope cl C X.env) fp) ifs (tB X.K WF mt))
    (he : ∀ (s : Shared) (H : Hp) (C : Addr) (cl : List (Str × Addr)) (fp : List Addr), PE (X.blk s H scope (compEnvC scope cl C X.env) fp) elt (tI X.K WF me)) (hs : ∀ x, foldedSetIterable iter X.env x = pure x) :
    PE X (.ListComp elt [⟨tg, iter, ifs, 0⟩] scope pos) (tI X.K Wx (mComp (own.map (·.2)) mi mg mt me)) := by
  have base := pe_lc hc hN hi ok hg ht he hs (pos := pos)
  exact ⟨fun pins s σ H Q I h => base.run pins s σ H Q I (imp_comp I.len h)⟩
theorem S_setLc {bw : List Nat} {i : Nat} {y : Str} {py spos : Pos} (hb : i ∉ bw) (hc : X.calm = true) (hN : X.N.Nodup) (hy : X.N[i]? = some y) (hyl : X.env.scope.names.lookup y = some .local)
    (hsw : swapsWith (.ListComp elt [⟨tg, iter, ifs, 0⟩] scope pos) (some (.Name y py)) spos.line X.env = pure true) (hi : PI X tg iter (wI X.K Wx mi)) (ok : BlkOk X.N X.env.scope scope own)
    (hg : ∀ (s : Shared) (H : Hp) (C : Addr) (cl : List (Str × Addr)) (fp : List Addr), PG (X.blk s H scope (compEnvC scope cl C X.env) fp) tg (gI X.K WF (bwB X.N.length (own.map (·.2))) mg)) (ht : ∀ (s : Shared) (H : Hp) (C : Addr) (cl : List (Str × Addr)) (fp : List Addr), PTs (X.blk s H scope (compEnvC scope cl C X.env) fp) ifs (tB X.K WF mt))
    (he : ∀ (s : Shared) (H : Hp) (C : Addr) (cl : List (Str × Addr)) (fp : List Addr), PE (X.blk s H scope (compEnvC scope cl C X.env) fp) elt (tI X.K WF me)) (hs : ∀ x, foldedSetIterable iter X.env x = pure x) :
    PS X (.Assign [.Name y py] (.ListComp elt [⟨tg, iter, ifs, 0⟩] scope pos) spos) (tS X.K Wx bw fun e => (mComp (own.map (·.2)) mi mg mt me e).st fun w e => (assignN i w e).st fun _ e => .nx e) := by
  have base := ps_setLc (py := py) hc hN hy hyl hsw hi ok hg ht he hs
  refine ⟨fun pins sh σ H D I h => base.run pins sh σ H D I ?_⟩
  obtain ⟨e, w, hw, ok, h⟩ := h
  subst hw
  refine imp_comp I.len (st_run ok .refl .nil .refl h fun x e1 w1 v f ok1 rx sp g1 go h => ?_)
  exact set_name hb ok1 rx sp go .refl h
end
end Ip
end

section
set_option linter.all false
set_option autoImplicit false
set_option maxHeartbeats 1000000
namespace Ip
open PySem PySem.Spec PyProof.Rows L2
variable [Tb]

theorem Sep.perm {w : Wld} {f g : List Addr} (s : Sep w f) (p : f.Perm g) : Sep w g :=
  ⟨p.nodup_iff.mp s.nd, fun b h => s.dis b (p.mem_iff.mpr h), fun b h => s.out b (p.mem_iff.mpr h), fun b h => s.own b (p.mem_iff.mpr h)⟩
theorem Go.perm {w w' : Wld} {f g : List Addr} (s : Go w w' f) (p : f.Perm g) : Go w w' g := s.sub fun b h => p.mem_iff.mpr h
section
variable {K : PySem.W.Frag} {w0 : Wld} {σ : L2.St}
/-- a name's object goes out of the environment -/
theorem slot_out {e : Env} {w : Wld} {i : Nat} {v : V} {g : List Addr} (ok : Ok K e σ w) (hv : σ[i]? = some (some v)) (go : Go w0 w g) (sp : Sep w g) :
    ∃ (w' : Wld) (f : List Addr), w'.H = w.H ∧ w'.F = w.F ∧ Ok K (e.set i .un) σ w' ∧ RelU K w.F w.H (getP e i none) (some v) f ∧ Go w0 w' (f ++ g) ∧ Sep w' (f ++ g) := by
  unfold getP
  cases q : e[i]? with
  | none =>
    have := ok.rel.len.1
    obtain ⟨h5, _⟩ := List.getElem?_eq_some_iff.mp hv
    rw [List.getElem?_eq_none_iff] at q
    omega
  | some s =>
    obtain ⟨o, f, k1, k2, k3⟩ := ok.rel.get q
    rw [hv] at k1
    cases k1
    have hf : ∀ b ∈ f, b ∈ w.fs.flatten := fun b hb => mem_ofF k2 hb
    refine ⟨⟨w.F, w.H, w.fs.set i []⟩, f, rfl, rfl, ⟨ok.le, ?_, nd_setF ok.nd k2 .nil (fun _ h => nomatch h), fun b hb => ?_, ok.fnt, ok.tab⟩, k3, ⟨go.keep, fun b z => ?_, go.le, go.frz⟩, ⟨?_, fun b hb z => ?_, fun b hb => ?_, fun b hb => ?_⟩⟩
    · have := ok.rel.set i (x := .un) (o := some v) (f := []) rfl
      rwa [st_set hv] at this
    · rcases mem_setF k2 hb with z | z
      · cases z
      · exact ok.out b z
    · rcases z with z | z
      · rcases List.mem_append.mp z with z | z
        · exact go.new b (.inr (hf b z))
        · exact go.new b (.inl z)
      · rcases mem_setF k2 z with y | y
        · cases y
        · exact go.new b (.inr y)
    · exact List.nodup_append.mpr ⟨nd_ofF ok.nd k2, sp.nd, fun a ha b hb q => sp.dis b hb (by rw [← q]; exact hf a ha)⟩
    · rcases List.mem_append.mp hb with hb | hb
      · have := gone_setF ok.nd k2 hb z
        cases this
      · rcases mem_setF k2 z with y | y
        · cases y
        · exact sp.dis b hb y
    · rcases List.mem_append.mp hb with hb | hb
      · exact ok.out b (hf b hb)
      · exact sp.out b hb
    · rcases List.mem_append.mp hb with hb | hb
      · exact k3.own b hb
      · exact sp.own b hb
theorem moves_ok : ∀ {as : List Bool} {ws : List W} {vs : List V} {f g : List Addr} {xs : List SV} {e e1 : Env} {w : Wld}, Ok K e σ w → RelWs K σ w ws vs f → Go w0 w (f ++ g) → Sep w (f ++ g) → moves as ws e = some (xs, e1) →
    ∃ (w1 : Wld) (fa : List (List Addr)), w1.H = w.H ∧ Ok K e1 σ w1 ∧ RelE K w1.F w1.H xs (vs.map some) fa ∧ Go w0 w1 (fa.flatten ++ g) ∧ Sep w1 (fa.flatten ++ g) ∧ Le w.F w1.F
  | as, [], [], f, g, xs, e, e1, w, ok, h, go, sp, q => by
    have h : f = [] := h
    subst h
    have q : some ([], e) = some (xs, e1) := by rw [← q]; cases as <;> rfl
    cases q
    exact ⟨w, [], rfl, ok, trivial, go, sp, .refl _⟩
  | [], _ :: _, _, _, _, _, _, _, _, _, _, _, _, q => by cases q
  | _, [], _ :: _, _, _, _, _, _, _, _, h, _, _, _ => h.elim
  | _, _ :: _, [], _, _, _, _, _, _, _, h, _, _, _ => h.elim
  | a :: as, x :: ws, v :: vs, f, g, xs, e, e1, w, ok, ⟨g1, g2, ef, r, s⟩, go, sp, q => by
    subst ef
    unfold moves at q
    cases a with
    | true =>
      rw [if_pos rfl] at q
      cases q1 : Ip.take e x with
      | none => rw [q1] at q; cases q
      | some p =>
        obtain ⟨y, e2⟩ := p
        rw [q1] at q
        dsimp only at q
        cases q2 : moves as ws e2 with
        | none => rw [q2] at q; cases q
        | some p2 =>
          obtain ⟨zs, e3⟩ := p2
          rw [q2] at q
          cases q
          rw [List.append_assoc] at go sp
          obtain ⟨w1, h1, ok1, rd, go1, sp1, le1⟩ := take_ok ok r go sp q1
          have s1 : RelWs K σ w1 ws vs g2 := s.ext le1 fun b _ o z => by rw [h1]; exact z
          obtain ⟨w2, fa, h2, ok2, rd2, go2, sp2, le2⟩ := moves_ok ok1 s1 go1 sp1 q2
          exact ⟨w2, [] :: fa, h2.trans h1, ok2, ⟨⟨rd.mono le2, rfl⟩, rd2⟩, go2, sp2, le1.trans le2⟩
    | false =>
      rw [if_neg (by simp)] at q
      -- what is handed over
      obtain ⟨w1, f1, h1, hF, ok1, r1, go1, sp1⟩ : ∃ (w1 : Wld) (f1 : List Addr), w1.H = w.H ∧ w1.F = w.F ∧ Ok K (move e x).2 σ w1 ∧ RelU K w.F w.H (move e x).1 (some v) f1 ∧ Go w0 w1 (f1 ++ (g2 ++ g)) ∧ Sep w1 (f1 ++ (g2 ++ g)) := by
        rw [List.append_assoc] at go sp
        cases x with
        | v s => exact ⟨w, g1, rfl, rfl, ok, by obtain ⟨a, b⟩ := r; cases s <;> first | exact absurd rfl b | exact a, go, sp⟩
        | r i p =>
          cases p with
          | some _ => exact r.elim
          | none =>
            obtain ⟨hv, rfl⟩ := r
            exact slot_out ok hv go sp
      cases q2 : moves as ws (move e x).2 with
      | none => rw [q2] at q; cases q
      | some p2 =>
        obtain ⟨zs, e3⟩ := p2
        rw [q2] at q
        cases q
        have s1 : RelWs K σ w1 ws vs g2 := s.ext (by rw [hF]; exact .refl _) fun b _ o z => by rw [h1]; exact z
        have pm : (f1 ++ (g2 ++ g)).Perm (g2 ++ (f1 ++ g)) := by
          rw [← List.append_assoc, ← List.append_assoc]
          exact List.perm_append_comm.append_right g
        obtain ⟨w2, fa, h2, ok2, rd2, go2, sp2, le2⟩ := moves_ok (g := f1 ++ g) ok1 s1 (go1.perm pm) (sp1.perm pm) q2
        have pm2 : (fa.flatten ++ (f1 ++ g)).Perm ((f1 :: fa).flatten ++ g) := by
          rw [List.flatten_cons, ← List.append_assoc]
          exact List.perm_append_comm.append_right g
        refine ⟨w2, f1 :: fa, h2.trans h1, ok2, ⟨?_, rd2⟩, go2.perm pm2, sp2.perm pm2, by rw [← hF]; exact le2⟩
        exact r1.frame (by rw [← hF]; exact le2) fun b _ o z => by rw [h2, h1]; exact z
/-- the references among arguments -/
def Refs (σ : L2.St) : List W → List V → Prop
  | [], _ => True
  | _ :: _, [] => False
  | x :: ws, v :: vs => (match x with
    | .v _ => True
    | .r i none => σ[i]? = some (some v)
    | .r _ (some _) => False) ∧ Refs σ ws vs
theorem RelWs.refs {w : Wld} : ∀ {ws : List W} {vs : List V} {f : List Addr}, RelWs K σ w ws vs f → Refs σ ws vs
  | [], _, _, _ => trivial
  | .v _ :: ws, _ :: vs, _, ⟨_, _, _, _, s⟩ => ⟨trivial, RelWs.refs s⟩
  | .r i none :: ws, _ :: vs, _, ⟨_, _, _, r, s⟩ => ⟨r.1, RelWs.refs s⟩
  | .r i (some _) :: ws, _ :: vs, _, ⟨_, _, _, r, s⟩ => r.elim
  | _ :: _, [], _, h => h.elim
theorem backs_ok : ∀ {as : List Bool} {ws : List W} {vs : List V} {xs : List SV} {σ' : L2.St} {fa : List (List Addr)} {g : List Addr} {e : Env} {w : Wld}, Ok K e σ w → Refs σ ws vs → RelE K w.F w.H xs σ' fa → (∀ j, as[j]? = some false → j < vs.length → σ'[j]? = vs[j]?.map some) → Go w0 w (fa.flatten ++ g) → Sep w (fa.flatten ++ g) →
    ∃ w', w'.H = w.H ∧ w'.F = w.F ∧ Ok K (backs as ws xs e) σ w' ∧ Go w0 w' g ∧ Sep w' g
  | as, [], vs, xs, σ', fa, g, e, w, ok, rf, rx, hk, go, sp => by
    have : backs as [] xs e = e := by cases as <;> rfl
    rw [this]
    exact ⟨w, rfl, rfl, ok, go.sub (by simp +contextual), sp.right⟩
  | [], _ :: _, vs, xs, σ', fa, g, e, w, ok, rf, rx, hk, go, sp => ⟨w, rfl, rfl, ok, go.sub (by simp +contextual), sp.right⟩
  | _ :: _, _ :: _, vs, [], σ', fa, g, e, w, ok, rf, rx, hk, go, sp => ⟨w, rfl, rfl, ok, go.sub (by simp +contextual), sp.right⟩
  | a :: as, x :: ws, vs, y :: xs, σ', fa, g, e, w, ok, rf, rx, hk, go, sp => by
    cases σ' with
    | nil => exact rx.elim
    | cons o σ' =>
      cases fa with
      | nil => exact rx.elim
      | cons f fa =>
        cases vs with
        | nil => exact rf.elim
        | cons v vs =>
          unfold backs
          rw [List.flatten_cons, List.append_assoc] at go sp
          have hk' : ∀ j, as[j]? = some false → j < vs.length → σ'[j]? = vs[j]?.map some := fun j h1 h2 => by
            have := hk (j + 1) (by simpa using h1) (by simpa using h2)
            simpa using this
          have rf' : Refs σ ws vs := rf.2
          have drop : ∃ w', w'.H = w.H ∧ w'.F = w.F ∧ Ok K (backs as ws xs e) σ w' ∧ Go w0 w' g ∧ Sep w' g := backs_ok ok rf' rx.2 hk' (go.sub (by simp +contextual)) sp.right
          cases a with
          | true => rw [if_pos rfl]; exact drop
          | false =>
            rw [if_neg (by simp)]
            cases x with
            | v _ => exact drop
            | r i p =>
              cases p with
              | some _ => exact rf.1.elim
              | none =>
                have ho : o = some v := by simpa using hk 0 rfl (by simp)
                subst ho
                have hv := rf.1
                obtain ⟨l1, l2⟩ := ok.rel.len
                obtain ⟨h5, _⟩ := List.getElem?_eq_some_iff.mp hv
                have hi : i < w.fs.length := by omega
                have qf : w.fs[i]? = some w.fs[i] := List.getElem?_eq_getElem hi
                have ok' : Ok K (e.set i y) σ ⟨w.F, w.H, w.fs.set i f⟩ := ⟨ok.le, by
                    have := ok.rel.set i rx.1
                    rwa [st_set hv] at this, nd_setF ok.nd qf sp.left.nd fun b hb => .inr (sp.left.dis b hb), fun b hb => by
                    rcases mem_setF qf hb with z | z
                    · exact sp.left.out b z
                    · exact ok.out b z, ok.fnt, ok.tab⟩
                have go' : Go w0 ⟨w.F, w.H, w.fs.set i f⟩ (fa.flatten ++ g) := ⟨go.keep, fun b z => by
                    rcases z with z | z
                    · exact go.new b (.inl (List.mem_append.mpr (.inr z)))
                    · rcases mem_setF qf z with z | z
                      · exact go.new b (.inl (List.mem_append.mpr (.inl z)))
                      · exact go.new b (.inr z), go.le, go.frz⟩
                have sp' : Sep ⟨w.F, w.H, w.fs.set i f⟩ (fa.flatten ++ g) := ⟨sp.right.nd, fun b hb z => by
                    rcases mem_setF qf z with z | z
                    · exact (List.nodup_append.mp sp.nd).2.2 b z b hb rfl
                    · exact sp.right.dis b hb z, sp.right.out, sp.right.own⟩
                exact backs_ok (w := ⟨w.F, w.H, w.fs.set i f⟩) (e := e.set i y) ok' rf' rx.2 hk' go' sp'
end

/-! ### a def's promise -/
/-- the parameters that a body keeps -/
def bwOf (as : List Bool) : List Nat := (List.range as.length).filter fun j => as[j]? == some false
theorem mem_bwOf {as : List Bool} {j : Nat} : j ∈ bwOf as ↔ as[j]? = some false := by
  unfold bwOf
  rw [List.mem_filter, List.mem_range]
  refine ⟨fun h => by simpa using h.2, fun h => ⟨(List.getElem?_eq_some_iff.mp h).1, by simp [h]⟩⟩
def spI (K : PySem.W.Frag) (n : Nat) (bw : List Nat) (run : List SV → RC) : L2.Sp := fun vs H Q E => vs.length = n ∧ ∃ xs w, w.H = H ∧ Ok K xs (vs.map some) w ∧ match run xs with
  | .ok x fin => ∀ σ' w' v f, Ok K fin σ' w' → Keep bw (vs.map some) σ' → RelS K w'.F w'.H x v f → x ≠ .un → Sep w' f → Go w w' f → Q v w'.H
  | .exc x fin => ∀ σ' w' cls d, Ok K fin σ' w' → Keep bw (vs.map some) σ' → Go w w' [] → RelX K w' x cls d → E cls d w'.H
  | .no => False

section
variable {X : Cx} {Wx : L2.WX} {G : Cfg} {cl : Nat → List SV → RC} {f : Nat} {fa : Addr} {fd : FnD} {fdt : FuncData} {ps : List Str} {CX : CXT} {k : Nat} {ds : List Value} {ml : Env → R (List W)} {x : Str} {p pos : Pos} {e : Expr} {es : List Expr}
/-- constants that need no heap -/
def scalD : D → Bool
  | .non => true
  | .bl _ => true
  | .int _ => true
  | .str x => decide (x.length ≤ sizeLine) && x.all (decide <| · < 1114112)
  | _ => false
def scalV : D → V
  | .bl b => .bl b
  | .int i => .int i
  | .str x => .str (txt x)
  | _ => .non
theorem scal_rel {K : PySem.W.Frag} {F : Hp} {d : D} (h : scalD d = true) : RelD K F d (scalV d) := by
  cases d with
  | str x =>
    simp only [scalD, Bool.and_eq_true, decide_eq_true_eq, List.all_eq_true] at h
    unfold RelD
    exact ⟨rfl, h.1, h.2⟩
  | non => unfold RelD; rfl
  | bl b => unfold RelD; rfl
  | int b => unfold RelD; rfl
  | tup _ => cases h
  | lst _ => cases h
  | dct _ => cases h
  | ins _ _ => cases h
theorem scals_rel {K : PySem.W.Frag} {F H : Hp} : ∀ {ds : List D}, ds.all scalD = true → RelE K F H (ds.map .d) ((ds.map scalV).map some) (ds.map fun _ => [])
  | [], _ => trivial
  | d :: ds, h => by
    simp only [List.all_cons, Bool.and_eq_true] at h
    exact ⟨⟨scal_rel h.1, rfl⟩, scals_rel h.2⟩
theorem RelE.append {K : PySem.W.Frag} {F H : Hp} : ∀ {e e' : Env} {σ σ' : L2.St} {fs fs' : List (List Addr)}, RelE K F H e σ fs → RelE K F H e' σ' fs' → RelE K F H (e ++ e') (σ ++ σ') (fs ++ fs')
  | [], _, [], _, [], _, _, h => h
  | x :: e, _, o :: σ, _, f :: fs, _, h, g => ⟨h.1, RelE.append h.2 g⟩
  | [], _, [], _, _ :: _, _, h, _ => h.elim
  | [], _, _ :: _, _, _, _, h, _ => h.elim
  | _ :: _, _, [], _, _, _, h, _ => h.elim
  | _ :: _, _, _ :: _, _, [], _, h, _ => h.elim
theorem flat_nil {α : Type} (ds : List α) : (ds.map fun _ => ([] : List Addr)).flatten = [] := by
  induction ds with
  | nil => rfl
  | cons a b ih => simpa using ih
/-- behind a call the caller's world is whole again -/
theorem call_back {K : PySem.W.Frag} {w0 w1 wa w' : Wld} {e1 fin : Env} {σ σ' : L2.St} {fw : List Addr} {fa : List (List Addr)} {as : List Bool} {ws : List W} {vs vs2 : List V} (ok1 : Ok K e1 σ w1) (go1 : Go w0 w1 fa.flatten) (sp1 : Sep w1 fa.flatten) (rf : Refs σ ws vs)
    (hF : wa.F = w1.F) (hH : wa.H = w1.H) (hfs : wa.fs.flatten = fa.flatten) (ok' : Ok K fin σ' w') (kp : Keep (bwOf as) ((vs ++ vs2).map some) σ') (go' : Go wa w' fw) (sp' : Sep w' fw) :
    ∃ w2, w2.H = w'.H ∧ w2.F = w'.F ∧ Ok K (backs as ws fin e1) σ w2 ∧ Go w0 w2 fw ∧ Sep w2 fw := by
  have old : ∀ b, b ∈ fw ∨ b ∈ w'.fs.flatten → b ∈ w1.fs.flatten → False := fun b hb z => by
    obtain ⟨o, ho, m⟩ := ok1.rel.own b z
    rcases go'.new b hb with y | y
    · rw [hfs] at y; exact sp1.dis b y z
    · rw [hH] at y; exact y.no ho (.mut m)
  have kept : ∀ b ∈ w1.fs.flatten, ∀ o, w1.H b = some o → w'.H b = some o := fun b hb o ho => go'.keep b o (by rw [hH]; exact ho) (by
    obtain ⟨o1, h1, m⟩ := ok1.rel.own b hb
    rw [ho] at h1
    cases h1
    exact .mut m) (by rw [hfs]; exact fun z => sp1.dis b z hb)
  have key : ∀ b, b ∈ fa.flatten ∨ Vac w1.H b → b ∈ w0.fs.flatten ∨ Vac w0.H b := fun b z => by
    rcases z with z | z
    · exact go1.new b (.inl z)
    · by_cases n : b ∈ w0.fs.flatten
      · exact .inl n
      · exact .inr (go1.vac z n)
  have ok2 : Ok K e1 σ ⟨w'.F, w'.H, w1.fs⟩ := ⟨ok'.le, ok1.rel.frame (by rw [← hF]; exact go'.le) kept, ok1.nd, fun b hb => by
    cases q : w'.F b with
    | none => rfl
    | some o =>
      exfalso
      rcases go'.frz b o q with ⟨o', z⟩ | z | z
      · rw [hF, ok1.out b hb] at z; cases z
      · rw [hfs] at z; exact sp1.dis b z hb
      · obtain ⟨o, ho, m⟩ := ok1.rel.own b hb
        rw [hH] at z; exact (z.no ho (.mut m)).elim, ok'.fnt, ok'.tab⟩
  have sp2 : Sep ⟨w'.F, w'.H, w1.fs⟩ (w'.fs.flatten ++ fw) := ⟨List.nodup_append.mpr ⟨ok'.nd, sp'.nd, fun a ha b hb q => sp'.dis b hb (by rw [← q]; exact ha)⟩, fun b hb z => old b ((List.mem_append.mp hb).symm) z, fun b hb => by
    rcases List.mem_append.mp hb with z | z
    · exact ok'.out b z
    · exact sp'.out b z, fun b hb => by
    rcases List.mem_append.mp hb with z | z
    · exact ok'.rel.own b z
    · exact sp'.own b z⟩
  have go2 : Go w0 ⟨w'.F, w'.H, w1.fs⟩ (w'.fs.flatten ++ fw) := ⟨fun b o z t n => by
    have z1 := go1.keep b o z t n
    refine go'.keep b o (by rw [hH]; exact z1) t (by
      rw [hfs]
      intro y
      rcases go1.new b (.inl y) with u | u
      · exact n u
      · exact u.no z t), fun b z => by
    rcases z with z | z
    · have := go'.new b ((List.mem_append.mp z).symm)
      rw [hfs, hH] at this
      exact key b this
    · exact go1.new b (.inr z), go1.le.trans (by rw [← hF]; exact go'.le), fun b o z => by
    rcases go'.frz b o z with ⟨o', y⟩ | y | y
    · rw [hF] at y
      rcases go1.frz b o' y with u | u | u
      · exact .inl u
      · exact .inr (.inl u)
      · exact .inr (.inr u)
    · rw [hfs] at y
      exact .inr (key b (.inl y))
    · rw [hH] at y
      exact .inr (key b (.inr y))⟩
  refine backs_ok (w := ⟨w'.F, w'.H, w1.fs⟩) ok2 rf ok'.rel (fun j h1 h2 => ?_) go2 sp2
  have := kp.1 j (mem_bwOf.mpr h1)
  rw [this, List.map_append, List.getElem?_append_left (by simpa using h2), List.getElem?_map]
theorem imp_call (fd : FnD) {K : PySem.W.Frag} {σ : L2.St} {H : Hp} {Q : VK} (hf : G.fns[f]? = some fd) (hs : fd.defs.all scalD = true) {dvs : List V} {nargs : Nat} (hl : ∀ e xs e', ml e = .ok xs e' → xs.length = nargs) (hd : dvs = ((fd.defs.drop (nargs + fd.defs.length - fd.n)).map scalV))
    (h : tI K Wx (fun e => (ml e).bind fun ws e => doCall G cl f ws e) σ H Q) : tCallSD (spI K fd.n (bwOf fd.asg) (cl f)) dvs (WE Wx) (tIs K Wx ml) σ H Q := by
  obtain ⟨e, w, hw, ok, h⟩ := h
  subst hw
  refine tIs_run' ok .refl .nil h fun ws e1 w1 vs f1 em ok1 rs ss g1 go1 h1 => ?_
  have hlen := hl _ _ _ em
  unfold doCall at h1
  rw [hf] at h1
  dsimp only at h1
  split at h1
  rotate_left
  · exact h1.elim
  rename_i hn
  cases q : moves fd.asg ws e1 with
  | none => rw [q] at h1; exact h1.elim
  | some r =>
    obtain ⟨xs, e2⟩ := r
    rw [q] at h1
    dsimp only at h1
    simp only [List.nil_append] at ss go1
    obtain ⟨w2, fa, h2, ok2, rx, go2, sp2, le2⟩ := moves_ok (g := []) ok1 rs (by simpa using go1) (by simpa using ss) q
    simp only [List.append_nil] at go2 sp2
    rw [hlen] at h1
    have hvl : vs.length = nargs := by rw [← rs.len]; exact hlen
    generalize hdd : fd.defs.drop (nargs + fd.defs.length - fd.n) = dd at h1 hd
    have hsd : dd.all scalD = true := by
      rw [List.all_eq_true] at hs ⊢
      intro x hx
      rw [← hdd] at hx
      exact hs x (List.mem_of_mem_drop hx)
    have hdl : dd.length = fd.n - nargs := by rw [← hdd, List.length_drop]; omega
    subst hd
    have fl : (fa ++ dd.map fun _ => ([] : List Addr)).flatten = fa.flatten := by rw [List.flatten_append, flat_nil, List.append_nil]
    have okA : Ok K (xs ++ dd.map .d) ((vs ++ dd.map scalV).map some) ⟨w2.F, w2.H, fa ++ dd.map fun _ => []⟩ := by
      refine ⟨ok2.le, ?_, by rw [fl]; exact sp2.nd, by rw [fl]; exact sp2.out, ok2.fnt, ok2.tab⟩
      rw [List.map_append]
      exact RelE.append rx (scals_rel hsd)
    refine ⟨by rw [List.length_append, List.length_map]; omega, xs ++ dd.map .d, ⟨w2.F, w2.H, fa ++ dd.map fun _ => []⟩, h2, okA, ?_⟩
    cases qc : cl f (xs ++ dd.map .d) with
    | no => rw [qc] at h1; exact h1.elim
    | ok x fin =>
      rw [qc] at h1
      dsimp only at h1 ⊢
      intro σ' w' v fw ok' kp rv hx sp' go'
      obtain ⟨w3, h3, hF3, ok3, go3, sp3⟩ := call_back (wa := ⟨w2.F, w2.H, fa ++ dd.map fun _ => []⟩) ok2 go2 sp2 rs.refs rfl rfl fl ok' kp go' sp'
      have := h1 w3 v fw ok3 ⟨by rw [hF3, h3]; exact rv, hx⟩ sp3 go3
      rw [h3] at this
      exact this
    | exc x fin =>
      rw [qc] at h1
      dsimp only at h1 ⊢
      intro σ' w' cls d ok' kp go' rx'
      obtain ⟨w3, h3, hF3, ok3, go3, sp3⟩ := call_back (wa := ⟨w2.F, w2.H, fa ++ dd.map fun _ => []⟩) ok2 go2 sp2 rs.refs rfl rfl fl ok' kp go' .nil
      have := h1 w3 cls d ok3 go3 (by
        obtain ⟨c, C, f, y, dd, v, a1, a2, a3, a4, a5, a6⟩ := rx'
        exact ⟨c, C, f, y, dd, v, a1, a2, a3, a4, by rw [h3]; exact a5, by rw [hF3]; exact a6⟩)
      rw [h3] at this
      exact this
/-- f() -/
theorem I_call0 (hf : G.fns[f]? = some fd) (F : FnOk X.prog X.w X.K X.mg X.base CX k fa fdt ps (spI X.K fd.n (bwOf fd.asg) (cl f))) (hr : Room k X.A) (hg : Gl X x) (hm : X.mg x = some (.ref fa)) (hk : PySem.W.keepIn X.K (.ref fa) = true) (hs : fd.defs.all scalD = true)
    (hb : Binds X.K fdt ps ds) (hd : Vals ((fd.defs.drop (0 + fd.defs.length - fd.n)).map scalV) ds) (hx : ∀ σ, PassesAt CX X σ (WE Wx σ)) (hdb : (x == ("__debug__" : Str)) = false) :
    PE X (.Call (.Name x p) [] [] pos) (tI X.K Wx fun e => ((R.ok ([] : List W) e)).bind fun ws e => doCall G cl f ws e) := ⟨fun pins s σ H Q I h => by
  obtain ⟨e, w, hw, ok, h1⟩ := imp_call (ml := fun e => .ok [] e) (nargs := 0) fd hf hs (fun e xs e' q => by cases q; rfl) rfl h
  subst hw
  have h2 := h1 w [] [] ok rfl .nil .refl
  exact wpAny_Call_Name_kw (ld_glob I hg hm (PySem.W.callWith_K0 I.kIn hk (run_fnSD (us := []) (vs := []) F hr hb hd (hx σ) I .nil h2)) hdb)⟩
/-- f(e, ..) -/
theorem I_call (hf : G.fns[f]? = some fd) (F : FnOk X.prog X.w X.K X.mg X.base CX k fa fdt ps (spI X.K fd.n (bwOf fd.asg) (cl f))) (hr : Room k X.A) (hg : Gl X x) (hm : X.mg x = some (.ref fa)) (hk : PySem.W.keepIn X.K (.ref fa) = true) (hs : fd.defs.all scalD = true) {nargs : Nat}
    (hb : Binds X.K fdt ps ds) (hd : Vals ((fd.defs.drop (nargs + fd.defs.length - fd.n)).map scalV) ds) (hx : ∀ σ, PassesAt CX X σ (WE Wx σ)) (ha : PA X (e :: es) (tIs X.K Wx ml)) (hl : ∀ e xs e', ml e = .ok xs e' → xs.length = nargs)
    (hdb : (x == ("__debug__" : Str)) = false) (he : starEach (e :: es) X.env = (false, eval e X.env) :: starEach es X.env) (hpl : (backTo pos (starEach es X.env)).any (·.1) = false) :
    PE X (.Call (.Name x p) (e :: es) [] pos) (tI X.K Wx fun e => (ml e).bind fun ws e => doCall G cl f ws e) :=
  PE.imp (pe_callSD F hr hg hm hk hb hd hx ha hdb he hpl) fun σ H Q h => imp_call fd hf hs hl rfl h
end
end Ip
end

section
set_option linter.all false
set_option autoImplicit false
set_option maxHeartbeats 1000000
namespace Ip
open PySem PySem.Spec PyProof.Rows L2
variable [Tb]

theorem RelE.take {K : PySem.W.Frag} {F H : Hp} : ∀ (n : Nat) {e : Env} {σ : L2.St} {fs : List (List Addr)}, RelE K F H e σ fs → RelE K F H (e.take n) (σ.take n) (fs.take n)
  | 0, e, σ, fs, h => by cases e <;> cases σ <;> cases fs <;> first | exact h.elim | trivial
  | n + 1, [], [], [], h => trivial
  | n + 1, x :: e, o :: σ, f :: fs, h => ⟨h.1, RelE.take n h.2⟩
  | n + 1, [], [], _ :: _, h => h.elim
  | n + 1, [], _ :: _, _, h => h.elim
  | n + 1, _ :: _, [], _, h => h.elim
  | n + 1, _ :: _, _ :: _, [], h => h.elim
theorem flat_take {fs : List (List Addr)} {n : Nat} {b : Addr} (h : b ∈ (fs.take n).flatten) : b ∈ fs.flatten := by
  obtain ⟨l, h1, h2⟩ := List.mem_flatten.mp h
  exact List.mem_flatten.mpr ⟨l, List.mem_of_mem_take h1, h2⟩
theorem nd_take {fs : List (List Addr)} (n : Nat) (h : fs.flatten.Nodup) : (fs.take n).flatten.Nodup := by
  have := List.take_append_drop n fs
  rw [← this, List.flatten_append] at h
  exact (List.nodup_append.mp h).1
theorem RelE.uns {K : PySem.W.Frag} {F H : Hp} : ∀ (n : Nat), RelE K F H (List.replicate n .un) (List.replicate n none) (List.replicate n [])
  | 0 => trivial
  | n + 1 => ⟨rfl, RelE.uns n⟩
theorem flat_rep (n : Nat) : (List.replicate n ([] : List Addr)).flatten = [] := by
  induction n with
  | zero => rfl
  | succ n ih => simpa [List.replicate_succ] using ih
section
variable {P : Program} {w : World} {K : PySem.W.Frag} {mg : Str → Option Value} {base : Heap} {x qual : Str} {params : Arguments} {body : List Stmt} {scope : Scope} {dvs : List V} {kws : List (Str × V)} {f : Addr} {fdt : FuncData} {G : Cfg} {CX : CXT} {N ps : List Str} {k i : Nat} {fd : FnD}
theorem keep_take {bw : List Nat} {σ σ' : L2.St} {ys : L2.St} {n : Nat} (hn : σ.length = n) (hb : ∀ j ∈ bw, j < n) (h : Keep bw (σ ++ ys) σ') : Keep bw σ (σ'.take n) := by
  refine ⟨fun j hj => ?_, ?_⟩
  · have hjn := hb j hj
    rw [List.getElem?_take_of_lt hjn, h.1 j hj, List.getElem?_append_left (by omega)]
  · rw [List.length_take, h.2, List.length_append]; omega
theorem funD_okC {k : Nat} {sp : Sp} (F : FunD K x qual params body scope dvs kws f fdt) (S : FnScope N ps scope) (len : ∀ vs H Q E, sp vs H Q E → vs.length = ps.length)
    (hbody : ∀ (cdv : Value), fdt.code = cdv → ∀ (A : Around) (outer : List PySem.Env) (s : Shared) (H : Hp) (vs : List V) (Q : VK) (E : XK), Room k (A.deeper (envOfC qual scope s.heap.objs.size f cdv)) → sp vs H Q E →
      ∃ t, PSs (cxOf CX P w K mg base N qual scope f cdv A outer s H E) body t ∧ t { nx := fun _ H' => Q .non H', rt := Q } (L2.start N vs) H) : FnOk P w K mg base CX (k + 1) f fdt ps sp := by
  obtain ⟨oc, od, dV, kV, doc, pm, an, cdv, ct, osl, rfl, lk, hcd, _, _⟩ := F.ex
  exact fn_of lk hcd S len fun A outer s H vs Q E hr hsp => hbody cdv rfl A outer s H vs Q E hr hsp
theorem fn_I {j : Nat} (F : FunD K x qual params body scope dvs kws f fdt) (S : FnScope N ps scope) (hf : G.fns[i]? = some fd) (hm : N.length = fd.m) (hn : ps.length = fd.n) (ha : fd.asg.length = fd.n)
    (hB : ∀ (cdv : Value), fdt.code = cdv → ∀ (A : Around) (outer : List PySem.Env) (s : Shared) (H : Hp) (E : XK), Room j (A.deeper (envOfC qual scope s.heap.objs.size f cdv)) → PSs (cxOf CX P w K mg base N qual scope f cdv A outer s H E) body (tS K (fun cls d _ H => E cls d H) (bwOf fd.asg) (execSs G (callI G k) fd.n fd.body))) :
    FnOk P w K mg base CX (j + 1) f fdt ps (spI K fd.n (bwOf fd.asg) (callI G (k + 1) i)) := by
  refine funD_okC F S (fun vs H Q E h => h.1.trans hn.symm) fun cdv ec A outer s H vs Q E hr h => ⟨_, hB cdv ec A outer s H E hr, ?_⟩
  obtain ⟨hl, xs, w1, hw, ok, h⟩ := h
  subst hw
  have hx : xs.length = fd.n := by
    have := ok.rel.len.1
    rw [List.length_map] at this
    omega
  have hfs : w1.fs.length = fd.n := by
    have := ok.rel.len.2
    rw [List.length_map] at this
    omega
  have hbw : ∀ j ∈ bwOf fd.asg, j < fd.n := fun j hj => by
    have := (List.getElem?_eq_some_iff.mp (mem_bwOf.mp hj)).1
    omega
  have h : match (match execSs G (callI G k) fd.n fd.body (xs ++ List.replicate (fd.m - fd.n) .un) with
      | .nx e => RC.ok (.d .non) (e.take fd.n)
      | .rt w e => .ok w (e.take fd.n)
      | .exc x e => .exc x (e.take fd.n)
      | _ => .no) with
    | .ok x fin => ∀ σ' w' v f, Ok K fin σ' w' → Keep (bwOf fd.asg) (vs.map some) σ' → RelS K w'.F w'.H x v f → x ≠ .un → Sep w' f → Go w1 w' f → Q v w'.H
    | .exc x fin => ∀ σ' w' cls d, Ok K fin σ' w' → Keep (bwOf fd.asg) (vs.map some) σ' → Go w1 w' [] → RelX K w' x cls d → E cls d w'.H
    | .no => False := by
    have e : callI G (k + 1) i xs = (match execSs G (callI G k) fd.n fd.body (xs ++ List.replicate (fd.m - fd.n) .un) with
      | .nx e => RC.ok (.d .non) (e.take fd.n)
      | .rt w e => .ok w (e.take fd.n)
      | .exc x e => .exc x (e.take fd.n)
      | _ => .no) := by
      show (match G.fns[i]? with | none => RC.no | some fd => _) = _
      rw [hf]
      dsimp only
      rw [if_pos hx]
      all_goals (cases execSs G (callI G k) fd.n fd.body (xs ++ List.replicate (fd.m - fd.n) SV.un) <;> rfl)
    rw [e] at h
    exact h
  have fl : (w1.fs ++ List.replicate (fd.m - fd.n) ([] : List Addr)).flatten = w1.fs.flatten := by rw [List.flatten_append, flat_rep, List.append_nil]
  have hst : L2.start N vs = vs.map some ++ List.replicate (fd.m - fd.n) none := by
    unfold L2.start
    rw [hm, hl]
  rw [hst]
  refine ⟨xs ++ List.replicate (fd.m - fd.n) .un, ⟨w1.F, w1.H, w1.fs ++ List.replicate (fd.m - fd.n) []⟩, rfl, ⟨ok.le, RelE.append ok.rel (RelE.uns _), by rw [fl]; exact ok.nd, by rw [fl]; exact ok.out, ok.fnt, ok.tab⟩, ?_⟩
  -- an end's world
  have fin : ∀ {e : Env} {σ' : L2.St} {w' : Wld} {g : List Addr}, Ok K e σ' w' → Go ⟨w1.F, w1.H, w1.fs ++ List.replicate (fd.m - fd.n) []⟩ w' g → Keep (bwOf fd.asg) (vs.map some ++ List.replicate (fd.m - fd.n) none) σ' → Sep w' g →
      Ok K (e.take fd.n) (σ'.take fd.n) ⟨w'.F, w'.H, w'.fs.take fd.n⟩ ∧ Keep (bwOf fd.asg) (vs.map some) (σ'.take fd.n) ∧ Go w1 ⟨w'.F, w'.H, w'.fs.take fd.n⟩ g ∧ Sep ⟨w'.F, w'.H, w'.fs.take fd.n⟩ g := by
    intro e σ' w' g ok' go' kp' sp'
    refine ⟨⟨ok'.le, ok'.rel.take fd.n, nd_take _ ok'.nd, fun b hb => ok'.out b (flat_take hb), ok'.fnt, ok'.tab⟩, keep_take (by rw [List.length_map]; exact hl) hbw kp', ⟨fun b o z t n => go'.keep b o z t (by rw [fl]; exact n), fun b z => ?_, go'.le, fun b o z => ?_⟩, ⟨sp'.nd, fun b hb z => sp'.dis b hb (flat_take z), sp'.out, sp'.own⟩⟩
    · have := go'.new b (z.imp id flat_take)
      rw [fl] at this
      exact this
    · have := go'.frz b o z
      rw [fl] at this
      exact this
  cases q : execSs G (callI G k) fd.n fd.body (xs ++ List.replicate (fd.m - fd.n) .un) with
  | no => rw [q] at h; exact h.elim
  | bk e => rw [q] at h; exact h.elim
  | ct e => rw [q] at h; exact h.elim
  | nx e =>
    rw [q] at h
    intro σ' w' ok' go' kp'
    obtain ⟨a, b, c, d⟩ := fin ok' go' kp' .nil
    exact h _ ⟨w'.F, w'.H, w'.fs.take fd.n⟩ .non [] a b ⟨by unfold RelD; rfl, rfl⟩ (by simp) d c
  | rt x e =>
    rw [q] at h
    intro σ' w' v f ok' rx hx' sp' go' kp'
    obtain ⟨a, b, c, d⟩ := fin ok' go' kp' sp'
    exact h _ ⟨w'.F, w'.H, w'.fs.take fd.n⟩ v f a b rx hx' d c
  | exc x e =>
    rw [q] at h
    intro σ' w' cls d ok' go' kp' rx
    obtain ⟨a, b, c, d⟩ := fin ok' go' kp' .nil
    exact h _ ⟨w'.F, w'.H, w'.fs.take fd.n⟩ _ _ a b c rx
theorem fn_0 {F : FuncData} : FnOk P w K mg base CX 0 f F ps (spI K ps.length (bwOf fd.asg) (callI G 0 i)) :=
  ⟨fun vs H Q E h => h.1, fun A outer s H args us vs Q E hr e0 hb hv h => by
    obtain ⟨_, xs, w, _, _, h⟩ := h
    exact h.elim⟩
end
end Ip
end

section
set_option linter.all false
set_option autoImplicit false
set_option maxHeartbeats 1000000
namespace Ip
open PySem PySem.Spec PyProof.Rows L2
variable [Tb]

section
variable {K : PySem.W.Frag} {e e' : Env} {σ : L2.St} {w w0 : Wld} {v : V} {f g : List Addr} {vs : List V}
/-- a list that waits, or that a name holds, is written -/
theorem own_app (ok : Ok K e σ w) {i : Nat} {xs : List D} (h : RelW K σ w (.r i none) v f) (q : getP e i none = .lst xs) :
    ∃ a us, v = .ref a ∧ w.H a = some (.lst us) ∧ RelDs K w.F xs us ∧ xs.length ≤ sizeLine ∧
      ∀ ys ws, RelDs K w.F ys ws → ys.length ≤ sizeLine → Ok K (setP e i none (.lst ys)) σ ⟨w.F, upd w.H a (.lst ws), w.fs⟩ ∧
        (∀ f, Go w0 w f → Go w0 ⟨w.F, upd w.H a (.lst ws), w.fs⟩ f) ∧ (∀ f, Sep w f → Sep ⟨w.F, upd w.H a (.lst ws), w.fs⟩ f) := by
  obtain ⟨hv, rfl⟩ := h
  unfold getP at q
  cases he : e[i]? with
  | none => rw [he] at q; cases q
  | some s =>
    rw [he] at q
    dsimp only at q
    subst q
    obtain ⟨a, us, h1, h2, h3, h4, _, h5⟩ := own_list (w0 := w0) ok hv he
    exact ⟨a, us, h1, h2, h3, h4, h5⟩
/-- the interpreter's call of a changing method -/
theorem tyV_lst {w : Wld} {a : Addr} {us : List V} (h : w.H a = some (.lst us)) : L2.tyV K "list" (.ref a) w.H := .inl ⟨rfl, us, .inl (.inl h)⟩
end
theorem see_lst {e : Env} {i : Nat} {xs : List D} (h : getP e i none = .lst xs) : see e (.r i none) = some (.lst xs) := by
  show rd (getP e i none) = _
  rw [h]
  rfl
section
variable {X : Cx} {Wx : L2.WX} {mo : Env → R W} {ms : Env → R (List W)} {o a b : Expr} {es : List Expr} {p p2 p3 pos apos : Pos}
omit [Tb] in
theorem rm_app {x : D} {ys : List D} : rmeth .append x ys = none := by cases x <;> rfl
theorem rm_pop {x : D} {ys : List D} : rmeth .pop x ys = none := by cases x <;> rfl
theorem PR.if {α : Type} {K : PySem.W.Frag} {σ : L2.St} {w : Wld} {c : Bool} {r : R α} {k : α → Env → Prop} (h : PR K Wx σ w (if c = true then r else .no) k) : c = true ∧ PR K Wx σ w r k := by
  cases c
  · exact h.elim
  · exact ⟨rfl, h⟩
/-- the object of a method that writes a list -/
theorem okM_lst {m : MFn} {e : Env} {w : W} (hm : m = .append ∨ m = .extend ∨ m = .insert ∨ m = .reverse ∨ m = .pop) (h : okM m (con e w) = true) : ∃ xs, con e w = .lst xs := by
  cases q : con e w with
  | lst xs => exact ⟨xs, rfl⟩
  | _ => rw [q] at h; rcases hm with rfl | rfl | rfl | rfl | rfl <;> cases h
theorem tyV_of {K : PySem.W.Frag} {e : Env} {σ : L2.St} {w : Wld} {x : W} {v : V} {f : List Addr} {xs : List D} (ok : Ok K e σ w) (h : RelW K σ w x v f) (q : con e x = .lst xs) : L2.tyV K "list" v w.H := by
  have hs : see e x = some (.lst xs) := by
    unfold see
    rw [q]
    rfl
  obtain ⟨a, us, rfl, h1, _⟩ := see_ok ok h hs
  exact .inl ⟨rfl, us, h1⟩
/-- behind the arguments a list that a name holds is written -/
theorem meth_lst {K : PySem.W.Frag} {σ : L2.St} {w w1 : Wld} {Q : VK} {m : MFn} {e1 : Env} {x : W} {ws : List W} {v : V} {vs : List V} {fx fs : List Addr} (hm : ∀ y ys, rmeth m y ys = none) (hl : ∀ o ys r, mmeth m o ys = some r → ∃ xs zs, o = .lst xs ∧ r.2 = .lst zs)
    (ok : Ok K e1 σ w1) (rx : RelW K σ w1 x v fx) (rs : RelWs K σ w1 ws vs fs) (sp : Sep w1 (fx ++ fs)) (go : Go w w1 (fx ++ fs)) (h : PR K Wx σ w (methW e1 m x ws) (Got K σ w Q)) :
    ∃ (w2 : Wld) (e2 : Env) (a : Addr) (us : List V) (xs : List D) (ys : List D) (y : D) (zs : List D), w2.H = w1.H ∧ v = .ref a ∧ w1.H a = some (.lst us) ∧ RelDs K w2.F xs us ∧ xs.length ≤ sizeLine ∧ RelDs K w2.F ys vs ∧ mmeth m (.lst xs) ys = some (y, .lst zs) ∧
      ∀ u zus, RelDs K w2.F zs zus → zs.length ≤ sizeLine → RelD K w2.F y u → Q u (upd w1.H a (.lst zus)) := by
  unfold methW at h
  cases qs : seeAll e1 ws with
  | none => rw [qs] at h; exact h.elim
  | some xs0 =>
    cases qx : see e1 x with
    | none => rw [qs, qx] at h; exact h.elim
    | some y0 =>
      rw [qs, qx] at h
      dsimp only at h
      rw [hm] at h
      dsimp only at h
      cases qt : takeAll ws e1 with
      | none => rw [qt] at h; exact h.elim
      | some r =>
        obtain ⟨ys, e2⟩ := r
        rw [qt] at h
        dsimp only at h
        cases x with
        | v _ => exact h.elim
        | r i p =>
          cases p with
          | some _ => exact rx.elim
          | none =>
            dsimp only at h
            cases qm : mmeth m (getP e2 i none) ys with
            | none => rw [qm] at h; exact h.elim
            | some yo =>
              obtain ⟨y, o⟩ := yo
              rw [qm] at h
              obtain ⟨xs, zs, hxs, hzs⟩ := hl _ _ _ qm
              dsimp only at hzs h
              subst hzs
              have efx : fx = [] := rx.2
              subst efx
              obtain ⟨w2, h2, ok2, rd, go2, sp2, le2⟩ := takeAll_ok (g := []) ok rs (by simpa using go) (by simpa using sp) qt
              have rx2 : RelW K σ w2 (.r i none) v [] := rx
              obtain ⟨a, us, rfl, h3, h4, h5, wr⟩ := own_app (w0 := w) ok2 rx2 hxs
              rw [hxs] at qm
              refine ⟨w2, e2, a, us, xs, ys, y, zs, h2, rfl, by rw [← h2]; exact h3, h4, h5, rd, qm, fun u zus r l ry => ?_⟩
              obtain ⟨ok3, g3, s3⟩ := wr zs zus r l
              have := h ⟨w2.F, upd w2.H a (.lst zus), w2.fs⟩ u [] ok3 ⟨⟨ry, rfl⟩, by simp⟩ (s3 _ sp2) (g3 _ go2)
              rw [← h2]
              exact this
theorem mm_append {o : SV} {ys : List D} {r : D × SV} (h : mmeth .append o ys = some r) : ∃ xs x, o = .lst xs ∧ ys = [x] ∧ r = (.non, .lst (xs ++ [x])) ∧ xs.length < 1000000 := by
  unfold mmeth at h
  split at h
  · rename_i xs x _
    split at h
    · rename_i hl
      cases h
      exact ⟨xs, x, rfl, rfl, rfl, hl⟩
    · cases h
  all_goals first | (rename_i e1; cases e1; done) | cases h
/-- xs.append(e), xs a name -/
theorem I_append (ho : PE X o (tI X.K Wx mo)) (ha : PA X [a] (tIs X.K Wx ms)) (hbase : attributeBase o "append" X.env (eval o X.env) = eval o X.env) (hline : (apos.endLine == pos.line) = true) (hp : plainArg a = true) (cs : List CE) :
    PE X (.Call (.Attribute o "append" apos) [a] [] pos) (tI X.K Wx fun e => (mo e).bind fun w e => if okM .append (con e w) && calm w cs then (ms e).bind fun ws e => methW e .append w ws else .no) := by
  refine PE.imp (pe_bm PySem.F.plainAttrs_list PySem.F.slot_list_append PySem.F.type_list_append mt_append ho ha hbase (by rw [star_plain hp]; rfl) hline (star_plain hp) rfl) fun σ H Q ⟨e, w, hw, ok, h⟩ => ?_
  subst hw
  refine tI_run ok .refl .nil h fun x e1 w1 vx fx ok1 rx sx g1 go1 h1 => ?_
  obtain ⟨c, h1⟩ := PR.if h1
  obtain ⟨xs, hx⟩ := okM_lst (.inl rfl) (Bool.and_eq_true_iff.mp c).1
  refine ⟨tyV_of ok1 rx hx, tIs_run ok1 go1 sx h1 fun ws e2 w2 vs fs ok2 rs ss g2 go2 h2 => ?_⟩
  obtain ⟨w3, e3, b, us, zs, ys, y, zs2, h3, rfl, h4, h5, h6, h7, h8, fin⟩ := meth_lst (m := .append) (fun _ _ => rm_app) (fun o ys r q => by
    obtain ⟨xs, x, h1, _, h2, _⟩ := mm_append q
    exact ⟨xs, _, h1, by rw [h2]⟩) ok2 (rx.go sx g2) rs ss go2 h2
  obtain ⟨xs2, x2, q1, q2, q3, q4⟩ := mm_append h8
  cases q1
  subst q2
  cases q3
  cases vs with
  | nil => unfold RelDs at h7; exact h7.elim
  | cons u vs =>
    unfold RelDs at h7
    cases vs with
    | cons _ _ => exact (by have := h7.2; unfold RelDs at this; exact this.elim)
    | nil =>
      have hlen := h5.len
      refine ⟨b, us, u, rfl, rfl, h4, by rw [sizeLine_eq]; omega, fin .non _ (RelDs.append h5 (by unfold RelDs; exact ⟨h7.1, by unfold RelDs; trivial⟩)) (by simp [sizeLine_eq]; omega) (by unfold RelD; rfl)⟩
omit [Tb] in
theorem rm_ins {x : D} {ys : List D} : rmeth .insert x ys = none := by cases x <;> rfl
theorem mm_insert {o : SV} {ys : List D} {r : D × SV} (h : mmeth .insert o ys = some r) : ∃ xs i x, o = .lst xs ∧ ys = [.int i, x] ∧ r = (.non, .lst (xs.take i.toNat ++ [x] ++ xs.drop i.toNat)) ∧ 0 ≤ i ∧ i < 1000000 ∧ xs.length < 1000000 := by
  unfold mmeth at h
  split at h
  all_goals first | (rename_i e1; cases e1; done) | skip
  · rename_i xs i x _
    split at h
    · rename_i hl
      cases h
      simp only [Bool.and_eq_true, decide_eq_true_eq] at hl
      exact ⟨xs, i, x, rfl, rfl, rfl, hl.1.1, hl.1.2, hl.2⟩
    · cases h
  all_goals cases h
/-- xs.insert(i, e), xs a name -/
theorem I_insert (ho : PE X o (tI X.K Wx mo)) (ha : PA X [a, b] (tIs X.K Wx ms)) (hbase : attributeBase o "insert" X.env (eval o X.env) = eval o X.env) (hline : (apos.endLine == pos.line) = true) (hp : plainArg a = true) (hp2 : plainArg b = true) (cs : List CE) :
    PE X (.Call (.Attribute o "insert" apos) [a, b] [] pos) (tI X.K Wx fun e => (mo e).bind fun w e => if okM .insert (con e w) && calm w cs then (ms e).bind fun ws e => methW e .insert w ws else .no) := by
  refine PE.imp (pe_bm PySem.F.plainAttrs_list PySem.F.slot_list_insert PySem.F.type_list_insert mt_insert ho ha hbase (by rw [star_plain hp, star_plain hp2]; rfl) hline (star_plain hp) (by rw [star_plain hp2]; rfl)) fun σ H Q ⟨e, w, hw, ok, h⟩ => ?_
  subst hw
  refine tI_run ok .refl .nil h fun x e1 w1 vx fx ok1 rx sx g1 go1 h1 => ?_
  obtain ⟨c, h1⟩ := PR.if h1
  obtain ⟨xs, hx⟩ := okM_lst (.inr (.inr (.inl rfl))) (Bool.and_eq_true_iff.mp c).1
  refine ⟨tyV_of ok1 rx hx, tIs_run ok1 go1 sx h1 fun ws e2 w2 vs fs ok2 rs ss g2 go2 h2 => ?_⟩
  obtain ⟨w3, e3, b, us, zs, ys, y, zs2, h3, rfl, h4, h5, h6, h7, h8, fin⟩ := meth_lst (m := .insert) (fun _ _ => rm_ins) (fun o ys r q => by
    obtain ⟨xs, i, x, h1, _, h2, _⟩ := mm_insert q
    exact ⟨xs, _, h1, by rw [h2]⟩) ok2 (rx.go sx g2) rs ss go2 h2
  obtain ⟨xs2, i2, x2, q1, q2, q3, q4, q5, q6⟩ := mm_insert h8
  cases q1
  subst q2
  cases q3
  cases vs with
  | nil => unfold RelDs at h7; exact h7.elim
  | cons vi vs =>
    unfold RelDs at h7
    obtain ⟨ri, h7⟩ := h7
    cases vs with
    | nil => unfold RelDs at h7; exact h7.elim
    | cons u vs =>
      unfold RelDs at h7
      cases vs with
      | cons _ _ => exact (by have := h7.2; unfold RelDs at this; exact this.elim)
      | nil =>
        have hlen := h5.len
        unfold RelD at ri
        subst ri
        refine ⟨b, us, i2, u, rfl, rfl, h4, by rw [sizeLine_eq]; omega, q4, by omega, fin .non _ (RelDs.append (RelDs.append (h5.take _) (by unfold RelDs; exact ⟨h7.1, by unfold RelDs; trivial⟩)) (h5.drop _)) (by simp [sizeLine_eq]; omega) (by unfold RelD; rfl)⟩
theorem mm_pop {o : SV} {ys : List D} {r : D × SV} (h : mmeth .pop o ys = some r) : ∃ xs y, o = .lst xs ∧ ys = [] ∧ r = (y, .lst xs.dropLast) ∧ xs.getLast? = some y := by
  unfold mmeth at h
  split at h
  all_goals first | (rename_i e1; cases e1; done) | skip
  · rename_i xs _
    cases q : xs.getLast? with
    | none => rw [q] at h; cases h
    | some y =>
      rw [q] at h
      cases h
      exact ⟨xs, y, rfl, rfl, rfl, q⟩
  · cases h
/-- xs.pop(), xs a name -/
theorem I_pop (ho : PE X o (tI X.K Wx mo)) (hbase : attributeBase o "pop" X.env (eval o X.env) = eval o X.env) (hline : (apos.endLine == pos.line) = true) (cs : List CE) :
    PE X (.Call (.Attribute o "pop" apos) [] [] pos) (tI X.K Wx fun e => (mo e).bind fun w e => if okM .pop (con e w) && calm w cs then (R.ok [] e).bind fun ws e => methW e .pop w ws else .no) := by
  refine PE.imp (pe_bm0 PySem.F.plainAttrs_list PySem.F.slot_list_pop PySem.F.type_list_pop mt_pop ho hbase hline) fun σ H Q ⟨e, w, hw, ok, h⟩ => ?_
  subst hw
  refine tI_run ok .refl .nil h fun x e1 w1 vx fx ok1 rx sx g1 go1 h1 => ?_
  obtain ⟨c, h1⟩ := PR.if h1
  obtain ⟨xs, hx⟩ := okM_lst (.inr (.inr (.inr (.inr rfl)))) (Bool.and_eq_true_iff.mp c).1
  refine ⟨tyV_of ok1 rx hx, ?_⟩
  have h1 : PR X.K Wx σ w (methW e1 .pop x []) (Got X.K σ w Q) := h1
  obtain ⟨w3, e3, b, us, zs, ys, y, zs2, h3, rfl, h4, h5, h6, h7, h8, fin⟩ := meth_lst (m := .pop) (ws := []) (vs := []) (fs := []) (fun _ _ => rm_pop) (fun o ys r q => by
    obtain ⟨xs, x, h1, _, h2, _⟩ := mm_pop q
    exact ⟨xs, _, h1, by rw [h2]⟩) ok1 rx rfl (by simpa using sx) (by simpa using go1) h1
  obtain ⟨xs2, x2, q1, q2, q3, q4⟩ := mm_pop h8
  cases q1
  cases q3
  have hlen := h5.len
  rw [List.getLast?_eq_getElem?] at q4
  obtain ⟨u, hu, ru⟩ := h5.get q4
  refine ⟨b, us, u, rfl, rfl, h4, by rw [← hlen]; exact hu, ?_⟩
  refine fin u _ ?_ ?_ ru
  · rw [List.dropLast_eq_take, List.dropLast_eq_take, hlen]
    exact h5.take _
  · rw [List.length_dropLast]; omega
theorem idxI_get {i : Int} : ∀ {ns : List Int} {j : Nat}, idxI i ns = some j → ns[j]? = some i ∧ ∀ m z, m < j → ns[m]? = some z → z ≠ i
  | [], j, h => by cases h
  | n :: r, j, h => by
    unfold idxI at h
    by_cases q : n = i
    · rw [if_pos q] at h
      cases h
      exact ⟨by simp [q], fun m z hm => absurd hm (by omega)⟩
    · rw [if_neg q] at h
      cases q2 : idxI i r with
      | none => rw [q2] at h; cases h
      | some k =>
        rw [q2] at h
        obtain rfl : k + 1 = j := Option.some.inj h
        obtain ⟨h1, h2⟩ := idxI_get q2
        refine ⟨by simpa using h1, fun m z hm hz => ?_⟩
        cases m with
        | zero => simp at hz; rw [← hz]; exact q
        | succ m => exact h2 m z (by omega) (by simpa using hz)
theorem rm_index {x : D} {ys : List D} {y : SV} (h : rmeth .index x ys = some y) : ∃ xs ns i j, x = .lst xs ∧ ys = [.int i] ∧ intsD xs = some ns ∧ idxI i ns = some j ∧ y = .d (.int (j : Nat)) := by
  unfold rmeth at h
  split at h
  all_goals first | (rename_i e1 _ _; cases e1; done) | (rename_i e1; cases e1; done) | skip
  · rename_i xs i _
    cases q : intsD xs with
    | none => rw [q] at h; cases h
    | some ns =>
      rw [q] at h
      dsimp only at h
      cases q2 : idxI i ns with
      | none => rw [q2] at h; cases h
      | some j =>
        rw [q2] at h
        cases h
        exact ⟨xs, ns, i, j, rfl, rfl, q, q2, rfl⟩
  · cases h
theorem mm_index {o : SV} {ys : List D} : mmeth .index o ys = none := by
  unfold mmeth
  split
  all_goals first | rfl | (rename_i e1; cases e1; done) | (rename_i e1 _ _; cases e1; done)
theorem okM_idx {e : Env} {w : W} (h : okM .index (con e w) = true) : ∃ xs, see e w = some (.lst xs) := by
  unfold see
  cases q : con e w with
  | lst xs => exact ⟨xs, rfl⟩
  | d x => rw [q] at h; cases x <;> first | (cases h; done) | exact ⟨_, rfl⟩
  | _ => rw [q] at h; cases h
/-- xs.index(e) of ints -/
theorem I_index (ho : PE X o (tI X.K Wx mo)) (ha : PA X [a] (tIs X.K Wx ms)) (hbase : attributeBase o "index" X.env (eval o X.env) = eval o X.env) (hline : (apos.endLine == pos.line) = true) (hp : plainArg a = true) (cs : List CE) :
    PE X (.Call (.Attribute o "index" apos) [a] [] pos) (tI X.K Wx fun e => (mo e).bind fun w e => if okM .index (con e w) && calm w cs then (ms e).bind fun ws e => methW e .index w ws else .no) := by
  refine PE.imp (pe_bm PySem.F.plainAttrs_list PySem.F.slot_list_index PySem.F.type_list_index mt_index ho ha hbase (by rw [star_plain hp]; rfl) hline (star_plain hp) rfl) fun σ H Q ⟨e, w, hw, ok, h⟩ => ?_
  subst hw
  refine tI_run ok .refl .nil h fun x e1 w1 vx fx ok1 rx sx g1 go1 h1 => ?_
  obtain ⟨c, h1⟩ := PR.if h1
  obtain ⟨xs0, hx⟩ := okM_idx (Bool.and_eq_true_iff.mp c).1
  have ty : L2.tyV X.K "list" vx w1.H := by
    obtain ⟨a, us, rfl, h1, _⟩ := see_ok ok1 rx hx
    exact .inl ⟨rfl, us, h1⟩
  refine ⟨ty, tIs_run ok1 go1 sx h1 fun ws e2 w2 vs fs ok2 rs ss g2 go2 h2 => ?_⟩
  unfold methW at h2
  cases qs : seeAll e2 ws with
  | none => rw [qs] at h2; exact h2.elim
  | some ys =>
    cases qx : see e2 x with
    | none => rw [qs, qx] at h2; exact h2.elim
    | some y0 =>
      rw [qs, qx] at h2
      dsimp only at h2
      cases qr : rmeth .index y0 ys with
      | none =>
        rw [qr] at h2
        dsimp only at h2
        cases qt : takeAll ws e2 with
        | none => rw [qt] at h2; exact h2.elim
        | some r =>
          obtain ⟨zs, e3⟩ := r
          rw [qt] at h2
          dsimp only at h2
          cases x with
          | v _ => exact h2.elim
          | r i p =>
            dsimp only at h2
            rw [mm_index] at h2
            exact h2.elim
      | some y =>
        rw [qr] at h2
        obtain ⟨xs, ns, i, j, rfl, rfl, q1, q2, rfl⟩ := rm_index qr
        obtain ⟨b, us, rfl, s1, r1, l1⟩ := see_ok ok2 (rx.go sx g2) qx
        obtain ⟨u, rfl, ru⟩ := p1 (seeAll_ok ok2 rs qs)
        cases ru.int
        have hu := intsD_rel q1 r1
        subst hu
        obtain ⟨g3, g4⟩ := idxI_get q2
        refine ⟨b, ns.map V.int, .int i, j, .int i, rfl, rfl, s1, rfl, ?_, ?_, ?_, ?_, ?_⟩
        · rw [List.all_eq_true]
          intro z hz
          obtain ⟨n, _, rfl⟩ := List.mem_map.mp hz
          rfl
        · rw [List.getElem?_map, g3]
          rfl
        · show (i == i) = true
          simp
        · intro m z hm hz
          rw [List.getElem?_map] at hz
          cases q5 : ns[m]? with
          | none => rw [q5] at hz; cases hz
          | some n =>
            rw [q5] at hz
            cases hz
            show (n == i) = false
            simpa using g4 m n hm q5
        · exact (Got.fin h2 ok2 go2 (by intro h; cases h)).int
/-- gcd(a, b), by the name that the program's import binds -/
theorem I_gcd {x : Str} (hg : Gl X x) (hm : X.mg x = some (.builtin "math.gcd")) (hdb : (x == ("__debug__" : Str)) = false) (ha : PA X (a :: es) (tIs X.K Wx ms)) (hp : plainArg a = true) (hpl : (backTo pos (starEach es X.env)).any (·.1) = false) :
    PE X (.Call (.Name x p) (a :: es) [] pos) (tI X.K Wx fun e => (ms e).bind fun ws e => match seeAll e ws with
      | some xs => pure1 e (bfn .gcd xs)
      | none => .no) := by
  refine PE.imp (pe_callBfun cr_gcd hg hm ha hdb (star_plain hp) hpl) fun σ H Q ⟨e, w, hw, ok, h⟩ => ?_
  subst hw
  refine tIs_run ok .refl .nil h fun xs e1 w1 vs fs ok1 rs ss g1 go1 h1 => ?_
  cases qx : seeAll e1 xs with
  | none => rw [qx] at h1; exact h1.elim
  | some ys =>
    rw [qx] at h1
    cases qz : bfn .gcd ys with
    | none => simp only [qz, pure1] at h1; exact h1.elim
    | some z =>
      simp only [qz, pure1] at h1
      exact bfn_ok qz (seeAll_ok ok1 rs qx) (Got.fin h1 ok1 go1 (bfn_un qz))
end
end Ip
end

section
set_option linter.all false
set_option autoImplicit false
set_option maxHeartbeats 1000000
set_option maxRecDepth 100000
/-! enumerate of a tuple (and of a list) -/
namespace Ip
open PySem PySem.Spec PyProof.Rows L2
open PySem.Sem (wp)
theorem meets_enum_one {v : Value} {o : Obj} {H : Heap → Prop} (B : Begins v o H) :
    Meets (Builtin.«enumerate.__new__» ⟨[.type "enumerate", v], []⟩) (fun _ R s => H s.heap ∧
      R (.ok (.ret (.ref (s.heap.push o).objs.size))) { s with heap := (s.heap.push o).push { cls := .type "enumerate", data := .fields #[.none, .bool false, .ref s.heap.objs.size, rawInt 0, .none, .none] } }) :=
  .of_wp fun prog w A R s h => by
    obtain ⟨hp, g, d, tk, os⟩ := s; obtain ⟨h1, h⟩ := h
    have hsub := sub_enumerate
    have q1 : ∀ {A' : Around} {E : Value → Shared → Prop} {Q : Value → Shared → Prop}, Q (.ref hp.objs.size) ⟨hp.push o, g, d, tk, os⟩ → wpAny (model prog w) A' (pyIter v) Q E ⟨hp, g, d, tk, os⟩ :=
      fun q => B.iter prog w _ _ ⟨hp, g, d, tk, os⟩ _ h1 q
    wp_walk using q1
    refine wpAny_stack_any fun st => wpAny_pure ?_
    split
    · rename_i c _ _ _ _ _
      cases (c == Value.type "enumerate")
      · wp_walk using q1
        exact ⟨_, rfl, h⟩
      · wp_walk using q1
        exact ⟨_, rfl, h⟩
    · wp_walk using q1
      exact ⟨_, rfl, h⟩
theorem call_enum_one {prog : Program} {w : World} {A : Around} {E : Value → Shared → Prop} {s : Shared} {v : Value} {o : Obj} {H : Heap → Prop} {Q : Value → Shared → Prop} (B : Begins v o H) (h1 : H s.heap)
    (h : ∀ h', IsEnum h' (s.heap.objs.size + 1) s.heap.objs.size 0 .none → h'.get? s.heap.objs.size = some o → h'.objs.size = s.heap.objs.size + 2 →
      (∀ b o, s.heap.get? b = some o → h'.get? b = some o) → Q (.ref (s.heap.objs.size + 1)) { s with heap := h' }) :
    wpAny (model prog w) A (call (.type "enumerate") [v]) Q E s := by
  refine callType_new F.called_enumerate (by decide) (F.typeCall_enumerate_1 _) (F.newCall_enumerate_1 _) (fun obj => F.args_object_init_2 obj _) F.entry_enumerate_new
    (meets_enum_one B) ⟨h1, ?_⟩
  have hz : (s.heap.push o).objs.size = s.heap.objs.size + 1 := Heap.size_push ..
  show _ ∧ _
  rw [hz]
  have he : IsEnum ((s.heap.push o).push { cls := .type "enumerate", data := .fields #[.none, .bool false, .ref s.heap.objs.size, rawInt 0, .none, .none] }) (s.heap.objs.size + 1) s.heap.objs.size 0 .none := by
    have := Heap.get?_push_size (s.heap.push o) (o := { cls := .type "enumerate", data := .fields #[.none, .bool false, .ref s.heap.objs.size, rawInt 0, .none, .none] }) rfl
    rw [hz] at this; exact this
  exact ⟨⟨_, he, rfl⟩, h _ he (Heap.get?_push_of_some _ (Heap.get?_push_size _ B.free)) (by rw [Heap.size_push, hz]) fun b o x => Heap.get?_push_of_some _ (Heap.get?_push_of_some _ x)⟩

/-- the tuple at a as it stands at each turn, each item in a new pair -/
def IteT (K : PySem.W.Frag) (a : Addr) : L2.It :=
  ⟨fun i H => ∃ (xs : List V) (x : V), SqT K H a xs ∧ xs[i]? = some x, fun i H v H' => ∃ T x, v = .ref T ∧ H T = none ∧ H' = upd H T (.tup [.int (i : Nat), x]) ∧ ∀ xs, SqT K H a xs → xs[i]? = some x, fun i H => ∃ xs : List V, SqT K H a xs ∧ xs.length ≤ i⟩
theorem turn_enumT {P : Program} {w : World} {K : PySem.W.Frag} {elts : List Expr} {kk : Nat} {tpos : Pos} (a e it : Addr) (hai : a ≠ it) (hae : a ≠ e) :
    Turn P w K (.Tuple elts kk tpos) (IteT K a) [e, it] e (fun i h => (∃ old, IsEnum h e it ((i : Nat) : Int) old) ∧ h.IsTupleIter it a i ∧ e ≠ it) where
  mem := by simp
  obj := fun i h st b hb => by
    obtain ⟨⟨old, he⟩, ⟨o, ho, hc, hd⟩, _⟩ := st
    have e' : b = e ∨ b = it := by simpa using hb
    rcases e' with z | z
    · rw [z]; exact ⟨_, he, fun v q => nomatch q⟩
    · rw [z]; exact ⟨o, ho, fun v q => by rw [hd] at q; cases q⟩
  keep := fun i h h' st k => let ⟨⟨old, he⟩, hi, hne⟩ := st; ⟨⟨old, k e (by simp) _ he⟩, hi.at fun o q => k it (by simp) o q, hne⟩
  item := by
    intro X hP hw hK hc i pins s σ H E I hf st hg
    subst hP hw hK
    obtain ⟨⟨old, he⟩, hit, hne⟩ := st
    obtain ⟨xs, x, hq, hx⟩ := hg
    obtain ⟨its, rv, p, hz⟩ := I.tuple hq
    obtain ⟨u, hu, ru⟩ := rv.get hx
    have hel : e < s.heap.objs.size := Heap.lt_size he
    have hil : it < s.heap.objs.size := by obtain ⟨_, q, _⟩ := hit; exact Heap.lt_size q
    have hlt : i < its.toArray.size := by
      have := (List.getElem?_eq_some_iff.mp hu).1
      simpa using this
    have p' : s.heap.IsTuple a its.toArray := p
    have DD : Draws X.prog X.w X.A.in1 it [it, a] its.toArray.size (fun i v => its.toArray[i]? = some v) (fun i h => h.IsTupleIter it a i ∧ h.IsTuple a its.toArray) := Draws.tuple (A := X.A.in1) (I.ok.hd hc) it a hai its.toArray
    refine wpAny_pyNext_enum_itemD DD he ⟨hit, p'⟩ hlt hne (by simp; exact ⟨hne, fun q => hae q.symm⟩) fun v h' tk hv ho hit' hT hsz hk => ?_
    have ev : v = u := by
      have hv' : its.toArray[i]? = some v := hv
      have : its[i]? = some v := by simpa using hv'
      rw [hu] at this
      cases this
      rfl
    subst ev
    refine ⟨_, rfl, wpAny_letOwnedTupleGo_enum (s := { s with heap := h', toks := tk + 1 }) ho fun h'' he' sb => ?_⟩
    have hT2 : h''.get? s.heap.objs.size = some { cls := .type "tuple", data := .seq #[.int i tk, v] } := (sb.2 _ (Nat.ne_of_gt hel)).trans hT
    have new : ObjOk X.prog X.w (upd H s.heap.objs.size (.tup [.int (i : Nat), x])) h'' s.heap.objs.size (.tup [.int (i : Nat), x]) :=
      ⟨by show 2 ≤ sizeLine; decide, [.int i tk, v], .cons ⟨_, rfl⟩ (.cons ru .nil), ⟨_, hT2, rfl, _, rfl⟩⟩
    have I1 : Inv X pins σ (upd H s.heap.objs.size (.tup [.int (i : Nat), x])) { s with heap := h'', toks := tk + 1 } :=
      I.turnedNew (ch := [e, it]) (fun b ob hb q => (sb.2 b (fun z => hb (by simp [z]))).trans (hk b ob (fun z => hb (by simp [z])) (fun z => hb (by simp [z])) q)) hf (Nat.le_refl _) new
    refine ⟨.ref s.heap.objs.size, _, I1, rfl, ⟨_, x, rfl, I.hok.fresh (Nat.le_refl _), rfl, fun ys hy => by rw [I.tuple_inj hy hq]; exact hx⟩, ⟨⟨v, ?_⟩, hit'.1.at fun o q => (sb.2 it (Ne.symm hne)).trans q, hne⟩, fun b hb => ?_⟩
    · have e1 : ((i + 1 : Nat) : Int) = (i : Int) + 1 := by omega
      rw [e1]; exact he'
    · have hb' : b < s.heap.objs.size := by
        have e' : b = e ∨ b = it := by simpa using hb
        rcases e' with z | z
        · rw [z]; exact hel
        · rw [z]; exact hil
      rw [upd_ne (Nat.ne_of_lt hb')]
      exact (hf b hb).1
  done := by
    intro X hP hw hK hc i pins s σ H E I hf st hg
    subst hP hw hK
    obtain ⟨⟨old, he⟩, hit, hne⟩ := st
    obtain ⟨xs, hq, hx⟩ := hg
    obtain ⟨its, rv, p, hz⟩ := I.tuple hq
    obtain ⟨f0, f1, f2, f3, f4, f5⟩ := hf it (by simp)
    have hl := rv.length
    have p' : s.heap.IsTuple a its.toArray := p
    have hend : its.toArray[i]? = none := by simp; omega
    have hT : s.TypeIs (.ref e) "enumerate" := ⟨_, he, rfl⟩
    unfold pyNext
    refine wpAny_bind (wpAny_attempt (wpAny_callSpecial?_slot (name := Str.ofString "__next__") hT F.slot_enumerate_next
      (wpAny_call_entry F.slot_enumerate_next hT F.entry_enumerate_next ?_ (F.args_enumerate_next_1 _))))
    show wpAny _ _ (field (.ref e) 2 >>= _) _ _ _
    refine wpAny_bind (wpAny_field he rfl (x := .ref it) rfl ?_)
    refine wpAny_bind (wpAny_nextOf_tuple_end (by exact I.ok.hd hc) hit p' hend fun h' x he' hx' => ?_)
    obtain ⟨o, ho, hcx⟩ := hx'
    refine wpAny_bind (wpAny_isInstance (T := "StopIteration") (b := true) ⟨o, ho, hcx⟩ isSubtype_stop ?_)
    exact wpAny_pure ⟨rfl, I.turned (t' := s.toks) (fun b o hb q => he' b o hb q) f0 f1 f3 f4 f5⟩
  self := fun A i s Q E st h => let ⟨⟨_, he⟩, _⟩ := st; wpAny_pyIter_enum he h
def iEnumA (K : PySem.W.Frag) (ta : TA) : TI := fun σ H R => ta σ H fun vs H1 => ∃ a xs, vs = [.ref a] ∧ ((SqL K H1 a xs ∧ R (Ite K a) H1) ∨ (SqT K H1 a xs ∧ R (IteT K a) H1))
theorem pi_enumA {X : Cx} {e : Expr} {ta : TA} {p pos tpos : Pos} {elts : List Expr} {kk : Nat} (hg : Gl X "enumerate") (hm : X.mg "enumerate" = none) (ha : PA X [e] ta) (hs : starEach [e] X.env = [(false, eval e X.env)] := by rfl) :
    PI X (.Tuple elts kk tpos) (.Call (.Name "enumerate" p) [e] [] pos) (iEnumA X.K ta) := by
  refine ⟨fun pins s σ H R I h => ?_⟩
  refine Call_ (ld_blt I hg hm boot_enumerate (PyProof.Rows.callWith_type1 (thn (ha.run pos pins s σ H _ I h) fun us s1 ⟨vs, H1, I1, r1, q1⟩ => ?_) hs rfl))
  obtain ⟨a, xs, ex, q⟩ := q1
  subst ex
  cases r1 with
  | cons r rr =>
    cases rr
    cases r
    have fresh : ∀ b ∈ [s1.heap.objs.size + 1, s1.heap.objs.size], FpOk X pins H1 b := fun b hb => by
      have e' : b = s1.heap.objs.size + 1 ∨ b = s1.heap.objs.size := by simpa using hb
      have hle : s1.heap.objs.size ≤ b := by
        rcases e' with z | z
        · rw [z]; exact Nat.le_add_right _ _
        · rw [z]; exact Nat.le_refl _
      exact I1.fpOk hle (I1.hok.fresh hle)
    rcases q with ⟨hq, q⟩ | ⟨hq, q⟩
    · obtain ⟨its, rv, p', hz⟩ := I1.list hq
      refine call_enumerate_list p'.isList fun h' he hit hsz hk => wpAny_pyIter_enum he ?_
      have I2 : Inv X pins σ H1 { s1 with heap := h' } := I1.kept (t' := s1.toks) hk
      exact ⟨s1.heap.objs.size + 1, [s1.heap.objs.size + 1, s1.heap.objs.size], _, _, H1, rfl, I2, turn_enum a (s1.heap.objs.size + 1) s1.heap.objs.size, ⟨⟨.none, he⟩, hit, Nat.succ_ne_self _⟩, fresh, q⟩
    · obtain ⟨its, rv, p', hz⟩ := I1.tuple hq
      have pt : s1.heap.IsTuple a its.toArray := p'
      have hal : a < s1.heap.objs.size := by obtain ⟨_, q, _⟩ := pt; exact Heap.lt_size q
      refine call_enum_one (begins_tuple a its.toArray) pt fun h' he hob hsz hk => wpAny_pyIter_enum he ?_
      have I2 : Inv X pins σ H1 { s1 with heap := h' } := I1.kept (t' := s1.toks) hk
      exact ⟨s1.heap.objs.size + 1, [s1.heap.objs.size + 1, s1.heap.objs.size], _, _, H1, rfl, I2, turn_enumT a (s1.heap.objs.size + 1) s1.heap.objs.size (Nat.ne_of_lt hal) (Nat.ne_of_lt (Nat.lt_succ_of_lt hal)), ⟨⟨.none, he⟩, ⟨_, hob, rfl, rfl⟩, Nat.succ_ne_self _⟩, fresh, q⟩
end Ip
end

section
set_option linter.all false
set_option autoImplicit false
set_option maxHeartbeats 1000000
namespace Ip
open PySem PySem.Spec PyProof.Rows L2
variable [Tb]

section
variable {K : PySem.W.Frag} {F : Hp}
theorem rev_get {α : Type} {xs : List α} {i : Nat} {x : α} (h : xs.reverse[i]? = some x) : i < xs.length ∧ xs[xs.length - 1 - i]? = some x := by
  obtain ⟨hi, _⟩ := List.getElem?_eq_some_iff.mp h
  rw [List.length_reverse] at hi
  rw [List.getElem?_reverse hi] at h
  exact ⟨hi, h⟩
theorem walk_revL {a : Addr} {vs : List V} {xs : List D} (h1 : SqL K F a vs) (h2 : RelDs K F xs vs) : Walked K (Itv K a vs.length) F xs.reverse := by
  have hl := h2.len
  refine ⟨fun i H x le hx => ?_, fun i H x v H' le hx hy => ?_, fun i H le hi => by show vs.length ≤ i; rw [List.length_reverse] at hi; omega⟩
  · obtain ⟨hi, hx⟩ := rev_get hx
    obtain ⟨v, hv, _⟩ := h2.get hx
    exact ⟨by omega, vs, v, le.sql h1, by rw [← hl]; exact hv⟩
  · obtain ⟨hi, hx⟩ := rev_get hx
    obtain ⟨w, hw, r⟩ := h2.get hx
    obtain ⟨rfl, fv⟩ := hy
    have := fv vs (le.sql h1)
    rw [← hl, hw] at this
    cases this
    exact .inl ⟨rfl, r⟩
theorem walk_revT {a : Addr} {vs : List V} {xs : List D} (h1 : SqT K F a vs) (h2 : RelDs K F xs vs) : Walked K (RT.ItvT K a vs.length) F xs.reverse := by
  have hl := h2.len
  refine ⟨fun i H x le hx => ?_, fun i H x v H' le hx hy => ?_, fun i H le hi => by show vs.length ≤ i; rw [List.length_reverse] at hi; omega⟩
  · obtain ⟨hi, hx⟩ := rev_get hx
    obtain ⟨v, hv, _⟩ := h2.get hx
    exact ⟨by omega, vs, v, le.sqt h1, by rw [← hl]; exact hv⟩
  · obtain ⟨hi, hx⟩ := rev_get hx
    obtain ⟨w, hw, r⟩ := h2.get hx
    obtain ⟨rfl, fv⟩ := hy
    have := fv vs (le.sqt h1)
    rw [← hl, hw] at this
    cases this
    exact .inl ⟨rfl, r⟩
theorem enum_get : ∀ {xs : List D} {n i : Nat} {y : D}, (enumD n xs)[i]? = some y → ∃ x, xs[i]? = some x ∧ y = .tup [.int (n + i : Nat), x]
  | [], _, _, _, h => by simp [enumD] at h
  | x :: xs, n, 0, y, h => by
    simp [enumD] at h
    exact ⟨x, rfl, by rw [← h]; simp⟩
  | x :: xs, n, i + 1, y, h => by
    simp only [enumD, List.getElem?_cons_succ] at h
    obtain ⟨z, h1, h2⟩ := enum_get h
    exact ⟨z, by simpa using h1, by rw [h2, show n + 1 + i = n + (i + 1) by omega]⟩
theorem enum_len : ∀ (xs : List D) (n : Nat), (enumD n xs).length = xs.length
  | [], _ => rfl
  | x :: xs, n => by simp [enumD, enum_len xs]
theorem pair_rel {x y : D} {v u : V} {H : Hp} {p : Addr} (le : Le F H) (np : H p = none) (r : RelD K F x v) (r' : RelD K F y u) : RelD K (upd F p (.tup [v, u])) (.tup [x, y]) (.ref p) := by
  have l := upd_le (o := HO.tup [v, u]) (le.none np)
  unfold RelD
  refine ⟨p, [v, u], rfl, .inl (.of upd_same), ?_, by rw [sizeLine_eq]; simp⟩
  unfold RelDs
  refine ⟨r.mono l, ?_⟩
  unfold RelDs
  refine ⟨r'.mono l, ?_⟩
  unfold RelDs
  trivial
theorem walk_enum {a : Addr} {vs : List V} {xs : List D} (h1 : SqL K F a vs) (h2 : RelDs K F xs vs) : Walked K (Ite K a) F (enumD 0 xs) := by
  refine ⟨fun i H x le hx => ?_, fun i H x v H' le hx hy => ?_, fun i H le hi => ⟨vs, le.sql h1, by rw [← h2.len]; rw [enum_len] at hi; exact hi⟩⟩
  · obtain ⟨y, hy, _⟩ := enum_get hx
    obtain ⟨v, hv, _⟩ := h2.get hy
    exact ⟨vs, v, le.sql h1, hv⟩
  · obtain ⟨y, hy1, rfl⟩ := enum_get hx
    obtain ⟨u, hu, ru⟩ := h2.get hy1
    obtain ⟨T, z, rfl, nT, rfl, fz⟩ := hy
    have := fz vs (le.sql h1)
    rw [hu] at this
    cases this
    refine .inr ⟨T, _, nT, rfl, ?_⟩
    exact pair_rel le nT (by unfold RelD; simp) ru
theorem walk_enumT {a : Addr} {vs : List V} {xs : List D} (h1 : SqT K F a vs) (h2 : RelDs K F xs vs) : Walked K (IteT K a) F (enumD 0 xs) := by
  refine ⟨fun i H x le hx => ?_, fun i H x v H' le hx hy => ?_, fun i H le hi => ⟨vs, le.sqt h1, by rw [← h2.len]; rw [enum_len] at hi; exact hi⟩⟩
  · obtain ⟨y, hy, _⟩ := enum_get hx
    obtain ⟨v, hv, _⟩ := h2.get hy
    exact ⟨vs, v, le.sqt h1, hv⟩
  · obtain ⟨y, hy1, rfl⟩ := enum_get hx
    obtain ⟨u, hu, ru⟩ := h2.get hy1
    obtain ⟨T, z, rfl, nT, rfl, fz⟩ := hy
    have := fz vs (le.sqt h1)
    rw [hu] at this
    cases this
    refine .inr ⟨T, _, nT, rfl, ?_⟩
    exact pair_rel le nT (by unfold RelD; simp) ru
theorem zip_get : ∀ {xs ys : List D} {i : Nat} {z : D}, (zipD xs ys)[i]? = some z → ∃ x y, xs[i]? = some x ∧ ys[i]? = some y ∧ z = .tup [x, y]
  | [], _, _, _, h => by simp [zipD] at h
  | _ :: _, [], _, _, h => by simp [zipD] at h
  | x :: xs, y :: ys, 0, z, h => by
    simp [zipD] at h
    exact ⟨x, y, rfl, rfl, h.symm⟩
  | x :: xs, y :: ys, i + 1, z, h => by
    simp only [zipD, List.getElem?_cons_succ] at h
    obtain ⟨a, b, h1, h2, h3⟩ := zip_get h
    exact ⟨a, b, by simpa using h1, by simpa using h2, h3⟩
theorem zip_len : ∀ (xs ys : List D), (zipD xs ys).length = min xs.length ys.length
  | [], _ => by simp [zipD]
  | _ :: _, [] => by simp [zipD]
  | x :: xs, y :: ys => by simp only [zipD, List.length_cons, zip_len xs ys]; omega
theorem walk_zipL {a b : Addr} {vs us : List V} {xs ys : List D} (h1 : SqL K F a vs) (h2 : RelDs K F xs vs) (g1 : SqL K F b us) (g2 : RelDs K F ys us) : Walked K (Itz K a b) F (zipD xs ys) := by
  refine ⟨fun i H x le hx => ?_, fun i H x v H' le hx hy => ?_, fun i H le hi => ⟨vs, us, le.sql h1, le.sql g1, by rw [← h2.len, ← g2.len]; rw [zip_len] at hi; omega⟩⟩
  · obtain ⟨p, q, hp, hq, _⟩ := zip_get hx
    obtain ⟨v, hv, _⟩ := h2.get hp
    obtain ⟨u, hu, _⟩ := g2.get hq
    exact ⟨vs, us, v, u, le.sql h1, le.sql g1, hv, hu⟩
  · obtain ⟨p, q, hp, hq, rfl⟩ := zip_get hx
    obtain ⟨v', hv, rv⟩ := h2.get hp
    obtain ⟨u', hu, ru⟩ := g2.get hq
    obtain ⟨T, z1, z2, rfl, nT, rfl, f1, f2⟩ := hy
    have e1 := f1 vs (le.sql h1)
    have e2 := f2 us (le.sql g1)
    rw [hv] at e1
    rw [hu] at e2
    cases e1
    cases e2
    exact .inr ⟨T, _, nT, rfl, pair_rel le nT rv ru⟩
theorem walk_zipT {a b : Addr} {vs us : List V} {xs ys : List D} (h1 : SqT K F a vs) (h2 : RelDs K F xs vs) (g1 : SqT K F b us) (g2 : RelDs K F ys us) : Walked K (RZ.ItzT K a b) F (zipD xs ys) := by
  refine ⟨fun i H x le hx => ?_, fun i H x v H' le hx hy => ?_, fun i H le hi => ⟨vs, us, le.sqt h1, le.sqt g1, by rw [← h2.len, ← g2.len]; rw [zip_len] at hi; omega⟩⟩
  · obtain ⟨p, q, hp, hq, _⟩ := zip_get hx
    obtain ⟨v, hv, _⟩ := h2.get hp
    obtain ⟨u, hu, _⟩ := g2.get hq
    exact ⟨vs, us, v, u, le.sqt h1, le.sqt g1, hv, hu⟩
  · obtain ⟨p, q, hp, hq, rfl⟩ := zip_get hx
    obtain ⟨v', hv, rv⟩ := h2.get hp
    obtain ⟨u', hu, ru⟩ := g2.get hq
    obtain ⟨T, z1, z2, rfl, nT, rfl, f1, f2⟩ := hy
    have e1 := f1 vs (le.sqt h1)
    have e2 := f2 us (le.sqt g1)
    rw [hv] at e1
    rw [hu] at e2
    cases e1
    cases e2
    exact .inr ⟨T, _, nT, rfl, pair_rel le nT rv ru⟩
end
section
variable {X : Cx} {Wx : L2.WX} {ma : Env → R W} {ml : Env → R (List W)} {a b tg : Expr} {elts : List Expr} {kk : Nat} {p pos tpos : Pos}
theorem J_rev (hg : Gl X "reversed") (hm : X.mg "reversed" = none) (ha : PE X a (tI X.K Wx ma)) (hp : plainArg a = true) : PI X tg (.Call (.Name "reversed" p) [a] [] pos) (wI X.K Wx fun e => (ma e).bind fun w e => match Ip.take e w with
    | some (.lst xs, e1) => .ok xs.reverse e1
    | some (.tup xs, e1) => .ok xs.reverse e1
    | _ => .no) := by
  refine PI.imp (RT.pi_revA hg hm ha (star_plain hp)) fun σ H R ⟨e, w, hw, ok, h⟩ => ?_
  subst hw
  refine tI_run ok .refl .nil h fun x e1 w1 vx fx ok1 rx sx g1 go1 h1 => ?_
  cases q : Ip.take e1 x with
  | none => rw [q] at h1; exact h1.elim
  | some r =>
    obtain ⟨y, e2⟩ := r
    rw [q] at h1
    obtain ⟨w2, h2, ok2, rd, go2, sp2, le2⟩ := take_ok (g := []) ok1 rx (by simpa using go1) (by simpa using sx) q
    rw [← h2]
    cases y <;> first | exact h1.elim | skip
    · rename_i xs
      unfold RelD at rd
      obtain ⟨c, vs, rfl, s1, r1, l1⟩ := rd
      exact ⟨c, vs, rfl, .inr ⟨ok2.le.sqt s1, h1 w2 _ ok2 go2 (walk_revT s1 r1)⟩⟩
    · rename_i xs
      unfold RelD at rd
      obtain ⟨c, vs, rfl, s1, r1, l1⟩ := rd
      exact ⟨c, vs, rfl, .inl ⟨ok2.le.sql s1, h1 w2 _ ok2 go2 (walk_revL s1 r1)⟩⟩
theorem J_enum (hg : Gl X "enumerate") (hm : X.mg "enumerate" = none) (ha : PA X [a] (tIs X.K Wx ml)) (hp : plainArg a = true) : PI X (.Tuple elts kk tpos) (.Call (.Name "enumerate" p) [a] [] pos) (wI X.K Wx fun e => (ml e).bind fun ws e => match takeAll ws e with
    | some ([.lst xs], e1) => .ok (enumD 0 xs) e1
    | some ([.tup xs], e1) => .ok (enumD 0 xs) e1
    | _ => .no) := by
  refine PI.imp (pi_enumA hg hm ha (star_plain hp)) fun σ H R ⟨e, w, hw, ok, h⟩ => ?_
  subst hw
  refine tIs_run ok .refl .nil h fun xs e1 w1 vs fs ok1 rs ss g1 go1 h1 => ?_
  cases q : takeAll xs e1 with
  | none => rw [q] at h1; exact h1.elim
  | some r =>
    obtain ⟨ys, e2⟩ := r
    rw [q] at h1
    obtain ⟨w2, h2, ok2, rd, go2, sp2, le2⟩ := takeAll_ok (g := []) ok1 rs (by simpa using go1) (by simpa using ss) q
    rw [← h2]
    match ys, vs, h1, rd with
    | [.lst xs], [v], h1, rd =>
      unfold RelDs at rd
      have rd1 := rd.1
      unfold RelD at rd1
      obtain ⟨c, us, rfl, s1, r1, l1⟩ := rd1
      exact ⟨c, us, rfl, .inl ⟨ok2.le.sql s1, h1 w2 _ ok2 go2 (walk_enum s1 r1)⟩⟩
    | [.lst xs], [], h1, rd => unfold RelDs at rd; exact rd.elim
    | [.lst xs], _ :: _ :: _, h1, rd => unfold RelDs at rd; have := rd.2; unfold RelDs at this; exact this.elim
    | [.tup xs], [v], h1, rd =>
      unfold RelDs at rd
      have rd1 := rd.1
      unfold RelD at rd1
      obtain ⟨c, us, rfl, s1, r1, l1⟩ := rd1
      exact ⟨c, us, rfl, .inr ⟨ok2.le.sqt s1, h1 w2 _ ok2 go2 (walk_enumT s1 r1)⟩⟩
    | [.tup xs], [], h1, rd => unfold RelDs at rd; exact rd.elim
    | [.tup xs], _ :: _ :: _, h1, rd => unfold RelDs at rd; have := rd.2; unfold RelDs at this; exact this.elim
theorem J_zip (hg : Gl X "zip") (hm : X.mg "zip" = none) (ha : PA X [a, b] (tIs X.K Wx ml)) (hp : plainArg a = true) (hp2 : plainArg b = true) : PI X (.Tuple elts kk tpos) (.Call (.Name "zip" p) [a, b] [] pos) (wI X.K Wx fun e => (ml e).bind fun ws e => match takeAll ws e with
    | some ([.lst xs, .lst ys], e1) => .ok (zipD xs ys) e1
    | some ([.tup xs, .tup ys], e1) => .ok (zipD xs ys) e1
    | _ => .no) := by
  refine PI.imp (RZ.pi_zipA hg hm ha (star_plain hp) (by rw [star_plain hp2]; rfl)) fun σ H R ⟨e, w, hw, ok, h⟩ => ?_
  subst hw
  refine tIs_run ok .refl .nil h fun xs e1 w1 vs fs ok1 rs ss g1 go1 h1 => ?_
  cases q : takeAll xs e1 with
  | none => rw [q] at h1; exact h1.elim
  | some r =>
    obtain ⟨ys, e2⟩ := r
    rw [q] at h1
    obtain ⟨w2, h2, ok2, rd, go2, sp2, le2⟩ := takeAll_ok (g := []) ok1 rs (by simpa using go1) (by simpa using ss) q
    rw [← h2]
    have two : ∀ {x y : D} {vs : List V}, RelDs X.K w2.F [x, y] vs → ∃ v u, vs = [v, u] ∧ RelD X.K w2.F x v ∧ RelD X.K w2.F y u := fun {x y vs} h => by
      match vs, h with
      | [v, u], h =>
        unfold RelDs at h
        have h2 := h.2
        unfold RelDs at h2
        exact ⟨v, u, rfl, h.1, h2.1⟩
      | [], h => unfold RelDs at h; exact h.elim
      | [_], h => unfold RelDs at h; have := h.2; unfold RelDs at this; exact this.elim
      | _ :: _ :: _ :: _, h => unfold RelDs at h; have := h.2; unfold RelDs at this; have := this.2; unfold RelDs at this; exact this.elim
    match ys, h1, rd with
    | [.lst xs, .lst ys], h1, rd =>
      obtain ⟨v, u, rfl, r1, r2⟩ := two rd
      unfold RelD at r1 r2
      obtain ⟨c, us, rfl, s1, r1, l1⟩ := r1
      obtain ⟨d, ws, rfl, s2, r2, l2⟩ := r2
      exact ⟨c, d, us, ws, rfl, .inl ⟨ok2.le.sql s1, ok2.le.sql s2, h1 w2 _ ok2 go2 (walk_zipL s1 r1 s2 r2)⟩⟩
    | [.tup xs, .tup ys], h1, rd =>
      obtain ⟨v, u, rfl, r1, r2⟩ := two rd
      unfold RelD at r1 r2
      obtain ⟨c, us, rfl, s1, r1, l1⟩ := r1
      obtain ⟨d, ws, rfl, s2, r2, l2⟩ := r2
      exact ⟨c, d, us, ws, rfl, .inr ⟨ok2.le.sqt s1, ok2.le.sqt s2, h1 w2 _ ok2 go2 (walk_zipT s1 r1 s2 r2)⟩⟩
end
/-! ### dicts: new ones, ones that never change from now on -/
section
variable {K : PySem.W.Frag} {e : Env} {σ : L2.St} {w : Wld}
theorem lock_ok (ok : Ok K e σ w) {i : Nat} {kvs : List (D × D)} (q : e[i]? = some (.dct kvs)) : ∃ a ps, w.H a = some (.dK ps) ∧
    ∀ od, Ok K (e.set i (.d (.dct kvs))) σ ⟨upd w.F a (.frz od (.dK ps)), upd w.H a (.frz od (.dK ps)), w.fs.set i []⟩ ∧ Go w ⟨upd w.F a (.frz od (.dK ps)), upd w.H a (.frz od (.dK ps)), w.fs.set i []⟩ [] := by
  obtain ⟨o, f, h1, h2, h3⟩ := ok.rel.get q
  cases o with
  | none => exact h3.elim
  | some v =>
    obtain ⟨a, ps, rfl, e2, e3, rfl⟩ := h3
    have ha : a ∈ w.fs.flatten := mem_ofF h2 (by simp)
    have hF : w.F a = none := ok.out a ha
    refine ⟨a, ps, e2, fun od => ?_⟩
    have le : Le w.F (upd w.F a (.frz od (.dK ps))) := upd_le hF
    have rd : RelD K (upd w.F a (.frz od (.dK ps))) (.dct kvs) (.ref a) := by
      unfold RelD
      exact ⟨a, od, ps, rfl, upd_same, e3.mono le⟩
    have away : ∀ b ∈ (w.fs.set i []).flatten, b ≠ a := by
      rintro b hb rfl
      have := gone_setF ok.nd h2 (by simp) hb
      cases this
    have inn : ∀ b ∈ (w.fs.set i []).flatten, b ∈ w.fs.flatten := fun b hb => (mem_setF h2 hb).resolve_left (fun z => nomatch z)
    have r1 := (ok.rel.frame le fun _ _ _ z => z).set i (x := .d (.dct kvs)) (o := some (.ref a)) (f := []) ⟨rd, rfl⟩
    rw [st_set h1] at r1
    refine ⟨⟨upd_both ok.le, r1.frame (.refl _) fun b hb o' z => (upd_ne (away b hb)).trans z, nd_setF ok.nd h2 .nil (fun _ h => nomatch h), fun b hb => upd_none (ok.out b (inn b hb)) (away b hb), fun b o' z => (upd_cases z).elim (fun y => by rw [y.2]; exact fun _ z => nomatch z) fun y => ok.fnt b o' y.2, tabs_upd e2 trivial ok.tab⟩, ⟨fun b o' z t n => ?_, fun b z => ?_, le, fun b o' z => ?_⟩⟩
    · show upd w.H a _ b = some o'
      rw [upd_ne (fun y => n (by rw [y]; exact ha))]
      exact z
    · rcases z with z | z
      · cases z
      · exact .inl (inn b z)
    · rcases upd_cases z with ⟨rfl, rfl⟩ | ⟨_, z⟩
      · exact .inr (.inl ha)
      · exact .inl ⟨o', z⟩
end
section
variable {X : Cx} {Wx : L2.WX} {bw : List Nat} {ma mb : Env → R W} {a b : Expr} {pos : Pos}
theorem frzAt_or (i : Nat) (e : Env) : frzAt i e = e ∨ ∃ kvs, e[i]? = some (.dct kvs) ∧ frzAt i e = e.set i (.d (.dct kvs)) := by
  unfold frzAt
  split
  · rename_i kvs hq
    exact .inr ⟨kvs, hq, rfl⟩
  · exact .inl rfl
theorem I_lck {i : Nat} (h : PE X a (tI X.K Wx ma)) : PE X a (tI X.K Wx fun e => ma (frzAt i e)) := by
  refine ⟨fun pins s σ H Q I q => ?_⟩
  obtain ⟨e, w, rfl, ok, r⟩ := q
  dsimp only at r
  rcases frzAt_or i e with z | ⟨kvs, hq, z⟩ <;> rw [z] at r
  rotate_left
  · obtain ⟨a, ps, h1, h2⟩ := lock_ok ok hq
    obtain ⟨od, I1⟩ := I.lock h1 trivial
    obtain ⟨ok1, go1⟩ := h2 od
    exact h.run pins s σ _ Q I1 ⟨_, _, rfl, ok1, (r.go go1).mono fun x e' g w' v f ok' rx sx g' => g w' v f ok' rx sx ((go1.trans g').sub (by simp))⟩
  · exact h.run pins s σ _ Q I ⟨e, w, rfl, ok, r⟩
theorem S_lck {i : Nat} {st : Stmt} {ms : Env → SR} (h : PS X st (tS X.K Wx bw ms)) : PS X st (tS X.K Wx bw fun e => ms (frzAt i e)) := by
  refine ⟨fun pins s σ H D I q => ?_⟩
  obtain ⟨e, w, rfl, ok, r⟩ := q
  dsimp only at r
  rcases frzAt_or i e with z | ⟨kvs, hq, z⟩ <;> rw [z] at r
  rotate_left
  · obtain ⟨a, ps, h1, h2⟩ := lock_ok ok hq
    obtain ⟨od, I1⟩ := I.lock h1 trivial
    obtain ⟨ok1, go1⟩ := h2 od
    exact h.run pins s σ _ D I1 ⟨_, _, rfl, ok1, r.to go1 .refl⟩
  · exact h.run pins s σ _ D I ⟨e, w, rfl, ok, r⟩
theorem I_dnew : PE X (.Dict [] [] pos) (tI X.K Wx fun e => .ok (.v (.dct [])) e) := PE.imp pe_dnewK fun σ H Q ⟨e, w, hw, ok, h⟩ => by
  subst hw
  intro p np
  exact h ⟨w.F, upd w.H p (.dK []), w.fs⟩ (.ref p) [p] (ok.newH np) ⟨⟨p, [], rfl, upd_same, by unfold RelKs; trivial, rfl⟩, by simp⟩ (Sep.nil.newH ok np) (Go.refl.newH np)
theorem I_disp (ha : PE X a (tI X.K Wx ma)) (hb : PE X b (tI X.K Wx mb)) : PE X (.Dict [some a] [b] pos) (tI X.K Wx fun e => (ma e).bind fun x e => (mb e).bind fun y e => match takeAll [x, y] e with
    | some ([x, y], e) => if isKey x then .ok (.v (.dct (putD [] x y))) e else .no
    | _ => .no) := by
  refine PE.imp (pe_disp (pps_cons ha hb pps_nil) (by rfl) (by rfl) (fun z => by cases z) (by simp)) fun σ H Q ⟨e, w, hw, ok, h⟩ => ?_
  subst hw
  intro p np
  have ok0 := ok.newH (o := .dK []) np
  have sp0 := Sep.nil.newH (o := .dK []) ok np
  have go0 := (Go.refl (w := w)).newH (o := .dK []) np
  refine tI_run ok0 go0 sp0 h fun x e1 w1 vx fx ok1 rx sx g1 go1 h1 => ?_
  refine tI_run ok1 go1 sx h1 fun y e2 w2 vy fy ok2 ry sy g2 go2 h2 => ?_
  show _ ∧ _
  have sx' : Sep w1 fx := sx.right
  have rx2 := rx.go sx' g2
  have hp1 : w1.H p = some (.dK []) := g1.keep p _ upd_same (fun _ z => nomatch z) (sp0.dis p (by simp))
  have hp2 : w2.H p = some (.dK []) := g2.keep p _ hp1 (fun _ z => nomatch z) (sx.dis p (by simp))
  refine ⟨hp2, ?_⟩
  cases q : takeAll [x, y] e2 with
  | none => rw [q] at h2; exact h2.elim
  | some r =>
    obtain ⟨zs, e3⟩ := r
    have go2' : Go w w2 ((fx ++ (fy ++ [])) ++ [p]) := go2.sub (by simp +contextual [or_comm, or_left_comm, or_assoc])
    have sy' : Sep w2 ((fx ++ (fy ++ [])) ++ [p]) := sy.perm (by simpa using (List.perm_append_comm (l₁ := [p]) (l₂ := fx ++ fy)))
    obtain ⟨w3, h3, ok3, rd, go3, sp3, le3⟩ := takeAll_ok (ys := zs) ok2 (show RelWs X.K σ w2 [x, y] [vx, vy] (fx ++ (fy ++ [])) from ⟨fx, fy ++ [], rfl, rx2, ⟨fy, [], rfl, ry, rfl⟩⟩) go2' sy' q
    rw [q] at h2
    match zs, rd, h2 with
    | [z1, z2], rd, h2 =>
      dsimp only at h2
      obtain ⟨hk, h2⟩ := PR.if h2
      unfold RelDs at rd
      obtain ⟨r1, r2⟩ := rd
      unfold RelDs at r2
      obtain ⟨j, rfl, kj⟩ := key_of_rel r1 hk
      obtain ⟨ok4, go4, sp4⟩ := pend_write (o' := .dK [(j, vy)]) ok3 go3 sp3 (by rw [h3]; exact hp2)
      refine ⟨[(j, vy)], rfl, by simp, ?_⟩
      have e1 : mergeK [] [(j, vy)] = [(j, vy)] := by simp [mergeK, putK]
      have e2 : putD [] z1 z2 = [(z1, z2)] := by simp [putD, lkD]
      rw [e1, ← h3]
      rw [e2] at h2
      refine h2 ⟨w3.F, upd w3.H p (.dK [(j, vy)]), w3.fs⟩ (.ref p) [p] ok4 ⟨⟨p, [(j, vy)], rfl, upd_same, ?_, rfl⟩, by simp⟩ sp4 go4
      unfold RelKs
      exact ⟨kj, r2.1, by unfold RelKs; trivial⟩
    | [], rd, h2 => exact h2.elim
    | [_], rd, h2 => exact h2.elim
    | _ :: _ :: _ :: _, rd, h2 => exact h2.elim
end
end Ip
end

section
set_option linter.all false
set_option autoImplicit false
set_option maxRecDepth 100000
set_option maxHeartbeats 4000000
/-! ### exceptions of own classes below Exception whose __init__ stores one attribute -/
namespace Ip
open PySem PySem.Spec PyProof.Rows
abbrev exTl : List Value := [.type "Exception", .type "BaseException", .type "object"]
abbrev mroE (cs : List Addr) : List Value := cs.map Value.ref ++ exTl
theorem mroE_pass (me : Value) : ∀ cs : List Addr, refuseLoop me "__setattr__" (mroE cs) = pure ()
  | [] => F.store_Exception.passes me
  | c :: cs => by
    show refuseLoop me "__setattr__" (.ref c :: mroE cs) = _
    rw [refuseLoop_ref]
    exact mroE_pass me cs
theorem mroE_has (X : String) : ∀ cs : List Addr, (mroE cs).contains (.type X) = exTl.contains (.type X)
  | [] => rfl
  | c :: cs => by
    show (Value.ref c :: mroE cs).contains (.type X) = _
    rw [List.contains_cons, mroE_has X cs]
    rfl
theorem mroE_ne (cs : List Addr) : (mroE cs).isEmpty = false := by cases cs <;> rfl
section
open Builtin Builtin.ObjectAttr
variable {prog : Program} {w : World} {A : Around} {E : Value → Shared → Prop} {R : Result → Shared → Prop} {h0 : Heap} {ge : Array GenState} {dr : Drawn} {tn : Nat} {ox : OsState}
/-- self.name = v, self without a dict as yet -/
theorem osa_first {K : W.Frag} {name : Str} {tk : Tok} {v : Value} {me C : Addr} {fv : Array Value} {cd : ClassData} {cs : List Addr}
    (KI : K.In h0) (hme : h0.get? me = some { cls := .ref C, data := .fields fv }) (hcd : W.clsIn K C = some cd) (hmro : cd.mro = mroE cs) (hdi : cd.hasDict = true) (hno : W.findIn K (.ref C) name = some none)
    (fin : ∀ h' tk' dx, (∀ b o, b ≠ me → h0.get? b = some o → h'.get? b = some o) → h0.objs.size ≤ dx → dx ≠ me → h'.get? me = some { cls := .ref C, dict := some dx, data := .fields fv } →
      h'.Ns1 dx (fun y => if y = name then some v else none) → R (.ok (.ret .none)) ⟨h', ge, dr, tk', ox⟩) :
    codeAny (model prog w) A (.call (.builtin "object.__setattr__") ⟨[.ref me, .str name tk, v], []⟩) R ⟨h0, ge, dr, tn, ox⟩ := by
  have inst : W.InstAt h0 me { cls := .ref C, data := .fields fv } C none := ⟨hme, rfl, rfl, trivial⟩
  have sf := F.store_object
  have hobj : cd.mro.contains (.type "object") = true := by rw [hmro, mroE_has]; decide +kernel
  have hnew : me ≠ h0.objs.size := Nat.ne_of_lt (Heap.lt_size hme)
  have isObj : W.Looks (model prog w) h0 (isInstance (.ref me) (.type "object")) true := inst.type.andThen (W.looks_mroIn KI (by unfold W.mroIn; rw [hcd, Option.bind_some, if_neg (by rw [hmro, mroE_ne]; decide), hobj]))
  refine codeAny_call_builtin sf.slot.plain sf.entry (@W.check_slot (model prog w) _ _ ⟨h0, ge, dr, tn, ox⟩ "object.__setattr__" "object" "__setattr__" (.ref me) [.str name tk, v] [] _ sf.kind sf.split isObj (sf.args (.ref me) (.str name tk) v) ?_)
  have lm : W.Looks (model prog w) h0 (mroOf (.ref C)) cd.mro := (W.looks_clsIn KI hcd).andThen .now
  have lt : W.Looks (model prog w) h0 (storeTaker? none) none := .now
  have lc : W.Looks (model prog w) h0 (classData C) cd := W.looks_clsIn KI hcd
  rw [W.osa_eq, refuse_eq]
  refine wpAny_bind (wpAny_bind (inst.type.at (wpAny_bind (lm.at ?_))))
  rw [hmro, mroE_pass]
  refine wpAny_pure (wpAny_bind (inst.type.at (wpAny_bind ((W.looks_findIn KI hno).at (wpAny_bind (lt.at ?_))))))
  show wpAny _ _ (storeInOwnDict (.ref me) (.ref C) (.str name tk) name v false) _ _ _
  obtain ⟨nm, bs, mro, ns, qn, hd, sn, sb, ab, col, del⟩ := cd
  dsimp only at hdi
  subst hdi
  unfold storeInOwnDict ownDictForStores
  repeat (first | with_reducible refine HandSPX.store_in_new ?_ ?_ | with_reducible refine wpAny_loadPart_at hme ?_ | with_reducible refine lc.at ?_ | wp_step)
  · exact ⟨_, #[], _, (Heap.get?_update_ne _ _ _ _ hnew.symm).trans (Heap.get?_push_at rfl rfl), rfl, (fun e he => absurd he (by simp)), fun _ => rfl⟩
  · intro h' tk' hn' hs
    have hme1 : (h0.push { cls := .type "dict", data := .dict #[] }).get? me = some { cls := .ref C, data := .fields fv } := Heap.get?_push_of_some _ hme
    refine fin h' tk' h0.objs.size (fun b o hb ho => ?_) (Nat.le_refl _) hnew.symm ?_ hn'
    · exact (hs.2 b (Nat.ne_of_lt (Heap.lt_size ho))).trans ((Heap.get?_update_ne _ _ _ _ hb).trans (Heap.get?_push_of_some _ ho))
    · exact (hs.2 me hnew).trans (Heap.get?_update_self _ hme1 rfl)
end
open L2
/-- what the written part says of such a class -/
structure OexE (K : PySem.W.Frag) (C : Addr) : Prop where
  cls : ∃ nm q N bs cs sn sub ab col dd k0 k1 k2 k3 k5, K.lookup C = some (excClassObj nm q C N bs (mroE cs) true sn sub ab col dd k0 k1 k2 k3 k5 "Exception.__new__")
  sa : PySem.W.findIn K (.ref C) "__setattr__" = some (some (.builtin "object.__setattr__"))
  exC : PySem.W.subIn K (.ref C) (.type "BaseException") = some true
  tyC : PySem.W.typeIn K (.ref C) = some (.type "type")
  kC : PySem.W.keepIn K (.ref C) = true
section
variable {X : Cx} {pins : List (Addr × Obj)} {σ : L2.St} {H : Hp} {s : Shared} {a C : Addr} {f : Str} {y : V} {u : Value} {Q : Unit → Shared → Prop} {E : Value → Shared → Prop} {A : Around}
/-- self.f = y, the first attribute -/
theorem set_first (T : OexE X.K C) (I : Inv X pins σ H s) (ea : H a = some (exo a C none)) (hno : PySem.W.findIn X.K (.ref C) f = some none) (ry : RelV y u)
    (fin : ∀ dx s', H dx = none → dx ≠ a → Inv X pins σ (upd (upd H dx (exd dx [(f, y)])) a (exo a C (some dx))) s' → Q () s') : wpAny (model X.prog X.w) A (setAttr (.ref a) f u) Q E s := by
  obtain ⟨nm, q, N, bs, cs, sn, sub, ab, col, dd, k0, k1, k2, k3, k5, hC⟩ := T.cls
  have hcl : PySem.W.clsIn X.K C = some { name := nm, bases := bs, mro := .ref C :: mroE cs, ns := N, qualname := q, hasDict := true, slotNames := sn, subclasses := sub, abstract := ab, collection := col, hasDel := false } := by
    unfold PySem.W.clsIn
    rw [hC]
  obtain ⟨t1, ho⟩ := exo_at I.hok ea
  obtain ⟨h0, ge, dr, tn, ox⟩ := s
  refine PySem.W.set_plain I.kIn (ox := { cls := .ref C, dict := none, data := .fields #[.ref t1, .none, .none, .none, .bool false, .none] }) (od := none) ⟨ho, rfl, rfl, trivial⟩ T.sa ?_
  refine osa_first (cs := C :: cs) I.kIn ho hcl rfl rfl hno (fun h' tk' dx k dn dne hx hn => ?_)
  have hnd : H dx = none := I.hok.fresh dn
  have old : ∀ {b : Addr} {o : Obj}, h0.get? b = some o → b ≠ dx := fun {b o} q => Nat.ne_of_lt (Nat.lt_of_lt_of_le (Heap.lt_size q) dn)
  have non : ∀ {b : Addr}, H b = none → b ≠ a := fun {b} n z => by
    rw [z, ea] at n
    cases n
  have un : Un X.fs [] H (upd (upd H dx (exd dx [(f, y)])) a (exo a C (some dx))) h0 h' :=
    ⟨fun b o q n _ _ => k b o (non n) q, fun b o q n _ _ => ⟨o.slots, k b o (non n) q⟩, fun b o q n _ => by rw [upd_ne (non n), upd_ne (old q)]; exact n,
      fun b o q _ => by
        by_cases hb : b = a
        · exact ⟨_, by rw [hb]; exact hx⟩
        · exact ⟨o, k b o hb q⟩,
      fun b xs q => by rw [upd_ne (at_ne ea q exo_tup), upd_ne (ne_of_none q hnd)]; exact q,
      fun b o v q => by rw [upd_ne (at_ne ea q exo_frz), upd_ne (ne_of_none q hnd)]; exact q,
      fun b ps q => ⟨#[], by rw [upd_ne (at_ne ea q exo_tbl), upd_ne (ne_of_none q hnd), q]; simp⟩⟩
  refine fin dx _ hnd dne (I.un (t' := tk') un fun b o q => ?_)
  by_cases hb : b = a
  · subst hb
    rw [upd_same] at q
    cases q
    exact exo_ok hx
  · rw [upd_ne hb] at q
    by_cases hd : b = dx
    · subst hd
      rw [upd_same] at q
      cases q
      exact exd_ok hn (relO_put (fs := []) ry fun g => True.intro)
    · rw [upd_ne hd] at q
      refine (I.hok b o q).stay (fun c v hc z => k c v ?_ z) (fun c hc => ?_) fun c xs hc => ?_
      · rcases hc with hc | hc
        · rw [hc]
          exact hb
        · exact at_ne ea hc exo_own
      · rw [upd_ne (at_ne ea hc exo_own), upd_ne (ne_of_none hc hnd)]
        exact hc
      · rw [upd_ne (at_ne ea hc exo_tup), upd_ne (ne_of_none hc hnd)]
        exact hc
end
/-- self.f = e in an __init__ -/
def tSet1 (K : PySem.W.Frag) (f : Str) (to te : TE) : TS := fun D σ H => te σ H fun y H1 => to σ H1 fun x H2 => ∃ a C : Addr, x = .ref a ∧ OexE K C ∧ PySem.W.findIn K (.ref C) f = some none ∧
  H2 a = some (exo a C none) ∧ ∀ dx, H2 dx = none → dx ≠ a → D.nx σ (upd (upd H2 dx (exd dx [(f, y)])) a (exo a C (some dx)))
theorem ps_set1 {X : Cx} {o e : Expr} {to te : TE} {f : Str} {p' pos : Pos} (ho : PE X o to) (he : PE X e te) (hs : swapsWith e (some (.Attribute o f p')) pos.line X.env = pure false := by rfl) : PS X (.Assign [.Attribute o f p'] e pos) (tSet1 X.K f to te) := by
  refine ⟨fun pins s σ H D I h => ?_⟩
  refine plainObj_wpAny_Assign_Attribute (thn (he.run pins s σ H _ I h) fun v s1 ⟨y, H1, I1, r1, q1⟩ => thn (ho.run pins s1 σ H1 _ I1 q1) fun u s2 ⟨x, H2, I2, r2, a, C, ex, T, hno, ea, q⟩ => ?_) hs
  subst ex
  cases (show u = Value.ref a from r2)
  exact set_first T I2 ea hno r1 fun dx s' n ne J => ⟨σ, _, J, q dx n ne⟩
/-- C(e, ..), its __init__ keeping sp -/
def tMkE (C : Addr) (sp : Sp) (ta : TA) : L2.St → Hp → XK → Prop := fun σ H Q => ta σ H fun vs H1 => vs.length ≤ 1000 ∧ ∀ a, H1 a = none → sp (.ref a :: vs) (upd H1 a (exo a C none))
  (fun v H2 => v = .non ∧ ∃ (d : Addr) (fs : List (Str × V)), H2 a = some (exo a C (some d)) ∧ H2 d = some (exd d fs) ∧ H1 d = none ∧ Q (.ref C) (some d) (upd (del H2 a) d (.xd fs))) (fun _ _ _ => False)
theorem pmk_E {X : Cx} {e : Expr} {es : List Expr} {ta : TA} {p pos : Pos} {CX : CXT} {x : Str} {C fI : Addr} {k : Nat} {fd : FuncData} {ps : List Str} {sp : Sp} (T : OexE X.K C) (iC : PySem.W.findIn X.K (.ref C) "__init__" = some (some (.ref fI))) (tyI : PySem.W.typeIn X.K (.ref fI) = some (.type "function"))
    (F1 : FnOk X.prog X.w X.K X.mg X.base CX k fI fd ps sp) (hr : Room (k + 1) X.A) (hb : Binds X.K fd ps []) (hx : Passes CX X (fun _ _ _ => False)) (hg : Gl X x) (hm : X.mg x = some (.ref C)) (ha : PA X (e :: es) ta)
    (hdb : (x == ("__debug__" : Str)) = false) (hse : starEach (e :: es) X.env = (false, eval e X.env) :: starEach es X.env) (hpl : (backTo pos (starEach es X.env)).any (·.1) = false) :
    PMk X (.Call (.Name x p) (e :: es) [] pos) (tMkE C sp ta) := by
  intro pins s σ H Q I h
  obtain ⟨nm, q, N, bs, cs, sn, sub, ab, col, dd, k0, k1, k2, k3, k5, hC⟩ := T.cls
  refine wpAny_Call_Name_kw (ld_glob I hg hm ?_ hdb)
  refine PySem.W.callWith_K (h₀ := X.base) I.ok.mod.kin T.kC (thn (ha.run pos pins s σ H _ I h) fun us s1 ⟨vs, H1, I1, r1, hz, q1⟩ => ⟨I1.kIn, ?_⟩) hse hpl
  show wpAny _ _ (call (.ref C) us) _ _ _
  obtain ⟨h0, ge, dr, tn, ox⟩ := s1
  have up1 : h0.objs.size ≤ h0.objs.size + 1 := Nat.le_succ _
  have noE : H1 (h0.objs.size + 1) = none := I1.hok.fresh up1
  have q2 := q1 (h0.objs.size + 1) noE
  have kk : ∀ b o, h0.get? b = some o → ((h0.push (PySem.W.kdv_tup us)).push (PySem.HandSPX.excO C h0.objs.size)).get? b = some o := fun b o z => Heap.get?_push_of_some _ (Heap.get?_push_of_some _ z)
  have atE : ((h0.push (PySem.W.kdv_tup us)).push (PySem.HandSPX.excO C h0.objs.size)).get? (h0.objs.size + 1) = some (PySem.HandSPX.excO C h0.objs.size) := by heap_get
  have I2 : Inv X pins σ (upd H1 (h0.objs.size + 1) (exo (h0.objs.size + 1) C none)) ⟨(h0.push (PySem.W.kdv_tup us)).push (PySem.HandSPX.excO C h0.objs.size), ge, dr, tn, ox⟩ :=
    I1.laid (t' := tn) (a := h0.objs.size + 1) (o := exo (h0.objs.size + 1) C none) (h' := (h0.push (PySem.W.kdv_tup us)).push (PySem.HandSPX.excO C h0.objs.size)) kk up1 (exo_ok atE)
  have r2 : Vals (V.ref (h0.objs.size + 1) :: vs) (Value.ref (h0.objs.size + 1) :: us) := .cons rfl r1
  have hlen : (Value.ref (h0.objs.size + 1) :: us ++ []).length = ps.length := by
    have z := r2.length
    rw [F1.len _ _ _ _ q2] at z
    rw [List.append_nil]
    exact z.symm
  have hus : us.length ≤ sizeLine := by
    rw [← Paired.length r1, sizeLine_eq]
    omega
  refine wpAny_call (PySem.HandSPX.call_own F.excBase_Exception (fun Y => mroE_has Y cs) (I1.kIn _ _ hC) (PySem.W.looks_findIn I1.kIn iC) (fun self => PySem.W.bind_fn I1.kIn self tyI) hus
    (codeAny_mono (F1.run _ X.stack _ _ ⟨Value.ref (h0.objs.size + 1) :: us, []⟩ (Value.ref (h0.objs.size + 1) :: us) _ _ (fun _ _ _ => False) (hr.make C us []) (I2.env0.make C us []) (by
      have z := hb _ (Value.ref (h0.objs.size + 1) :: us) I2.kIn hlen
      rw [List.append_nil] at z
      exact z) r2 q2) fun r s' hq' => ?_))
  cases r with
  | error er => exact hx pins σ _ _ er s' I2 hq'
  | ok fl =>
    cases fl with
    | ret u =>
      obtain ⟨v, H2, os2, bare2, un2, hok2, rv, ev, d, fs, ea, ed, hd1, q3⟩ := hq'
      subst ev
      obtain ⟨h2, g2, d2, t2, os'⟩ := s'
      exact ⟨rv, mk_end (raises_own T.exC T.tyC) I1 up1 kk un2 hok2 os2 bare2 ea ed hd1 q3⟩
    | next => exact False.elim hq'
    | brk => exact False.elim hq'
    | cont => exact False.elim hq'
end Ip
end

section
set_option linter.all false
set_option autoImplicit false
set_option maxRecDepth 100000
set_option maxHeartbeats 2000000
namespace Ip
open PySem PySem.Spec PyProof.Rows L2
variable [Tb]
/-! ### raise C(e) -/
theorem par_vis {N ps : List Str} {sc : Scope} (S : FnScope N ps sc) {x : Str} (h : x ∈ ps) : Vis sc x := by
  rcases S.par x h with z | z
  · exact .inl z
  · exact .inr (.inl z)
def spInit (K : PySem.W.Frag) (f : Str) : Sp := fun vs H Q E => ∃ (a C : Addr) (y : V), vs = [.ref a, y] ∧ OexE K C ∧ PySem.W.findIn K (.ref C) f = some none ∧ H a = some (exo a C none) ∧
  ∀ dx, H dx = none → dx ≠ a → Q .non (upd (upd H dx (exd dx [(f, y)])) a (exo a C (some dx)))
theorem init_ok {P : Program} {w : World} {K : PySem.W.Frag} {mg : Str → Option Value} {base : Heap} {CX : CXT} {x qual me arg f : Str} {params : Arguments} {scope : Scope} {dvs : List V} {kws : List (Str × V)} {fI : Addr} {fdt : FuncData} {k : Nat} {p1 p2 p3 p4 : Pos}
    (F : FunD K x qual params [.Assign [.Attribute (.Name me p1) f p2] (.Name arg p3) p4] scope dvs kws fI fdt) (S : FnScope [me, arg] [me, arg] scope) (h1 : (me == ("__debug__" : Str)) = false) (h2 : (me == ("__classdict__" : Str)) = false) (h3 : (arg == ("__debug__" : Str)) = false) (h4 : (arg == ("__classdict__" : Str)) = false) :
    FnOk P w K mg base CX (k + 1) fI fdt [me, arg] (spInit K f) := by
  refine F.ok S (fun vs H Q E ⟨a, C, y, e, _⟩ => by subst e; rfl) fun cdv A outer s H vs Q E hr ⟨a, C, y, e, T, hno, ha, hq⟩ => ?_
  subst e
  refine ⟨_, pss_one (ps_set1 (pe_var (i := 0) rfl (par_vis S (by simp)) h1 h2) (pe_var (i := 1) rfl (par_vis S (by simp)) h3 h4)), ?_⟩
  exact ⟨y, rfl, .ref a, rfl, a, C, rfl, T, hno, ha, hq⟩
section
variable {X : Cx} {Wx : L2.WX} {bw : List Nat} {ml : Env → R (List W)} {CX : CXT} {x f : Str} {C fI : Addr} {k c : Nat} {fdt : FuncData} {ps : List Str} {e : Expr} {es : List Expr} {p pos pos2 : Pos}
theorem S_raise (hc : X.calm = true) (tk : Takes X Wx) (T : OexE X.K C) (iC : PySem.W.findIn X.K (.ref C) "__init__" = some (some (.ref fI))) (tyI : PySem.W.typeIn X.K (.ref fI) = some (.type "function"))
    (F1 : FnOk X.prog X.w X.K X.mg X.base CX k fI fdt ps (spInit X.K f)) (hr : Room (k + 1) X.A) (hb : Binds X.K fdt ps []) (hx : Passes CX X (fun _ _ _ => False)) (hg : Gl X x) (hm : X.mg x = some (.ref C)) (ha : PA X (e :: es) (tIs X.K Wx ml))
    (hdb : (x == ("__debug__" : Str)) = false) (hse : starEach (e :: es) X.env = (false, eval e X.env) :: starEach es X.env) (hpl : (backTo pos (starEach es X.env)).any (·.1) = false)
    (hX : Tb.X[c]? = some (C, f)) (hno : PySem.W.findIn X.K (.ref C) f = some none) :
    PS X (.Raise (some (.Call (.Name x p) (e :: es) [] pos)) none pos2) (tS X.K Wx bw fun e => (ml e).st fun ws e => match takeAll ws e with
      | some ([x], e) => .exc (.ins c [(0, x)]) e
      | _ => .no) := by
  refine PS.imp (ps_raise hc tk (pmk_E T iC tyI F1 hr hb hx hg hm ha hdb hse hpl)) fun D σ H ⟨e0, w, hw, ok, h⟩ => ?_
  subst hw
  refine ⟨e0, w, rfl, ok, ?_⟩
  dsimp only at h
  cases q : ml e0 with
  | no => rw [q] at h; exact h.elim
  | exc x e1 =>
    rw [q] at h
    exact fun w' cls d ok' go' rx => h σ w' cls d ok' go' .refl rx
  | ok ws e1 =>
    rw [q] at h
    intro w' vs g ok' rs sp go'
    have h : SPo X.K Wx bw σ w D (match takeAll ws e1 with
      | some ([x], e) => .exc (.ins c [(0, x)]) e
      | _ => .no) := h
    match ws, rs, h with
    | [], _, h => exact h.elim
    | w0 :: w1 :: r, _, h =>
      exfalso
      revert h
      unfold takeAll
      cases Ip.take e1 w0 with
      | none => exact fun h => h
      | some a =>
        dsimp only
        unfold takeAll
        cases Ip.take a.2 w1 with
        | none => exact fun h => h
        | some b =>
          dsimp only
          cases takeAll r b.2 with
          | none => exact fun h => h
          | some c => exact fun h => h
    | [w0], rs, h =>
      match vs, rs with
      | [], rs => exact rs.elim
      | _ :: _ :: _, ⟨_, _, _, _, rs⟩ => exact rs.elim
      | [v], ⟨g1, g2, eg, rv, rs⟩ =>
        have rs : g2 = [] := rs
        subst rs eg
        cases qt : Ip.take e1 w0 with
        | none =>
          exfalso
          revert h
          unfold takeAll
          rw [qt]
          exact fun h => h
        | some a =>
          obtain ⟨y, e2⟩ := a
          have h : SPo X.K Wx bw σ w D (.exc (.ins c [(0, y)]) e2) := by
            revert h
            unfold takeAll
            rw [qt]
            exact fun h => h
          obtain ⟨w2, hH, ok2, rd, go2, sp2, le2⟩ := take_ok (g := []) ok' rv (by simpa using go') (by simpa using sp) qt
          refine ⟨by simp, fun a ha => ⟨a, C, v, rfl, T, hno, upd_same, fun dx hdx hne => ?_⟩⟩
          rw [upd_ne hne] at hdx
          refine ⟨rfl, dx, [(f, v)], upd_same, by rw [upd_ne hne, upd_same], hdx, ?_⟩
          have ee : upd (del (upd (upd (upd w'.H a (exo a C none)) dx (exd dx [(f, v)])) a (exo a C (some dx))) a) dx (.xd [(f, v)]) = upd w2.H dx (.xd [(f, v)]) := by
            funext b
            by_cases h1 : b = dx
            · subst h1; rw [upd_same, upd_same]
            · rw [upd_ne h1, upd_ne h1, hH]
              by_cases h2 : b = a
              · subst h2; rw [del_same, ha]
              · rw [del_ne h2, upd_ne h2, upd_ne h1, upd_ne h2]
          rw [ee]
          have hdx2 : w2.H dx = none := by rw [hH]; exact hdx
          exact h σ ⟨w2.F, upd w2.H dx (.xd [(f, v)]), w2.fs⟩ (.ref C) (some dx) (ok2.newH hdx2) ((go2.newH hdx2).sub (by simp)) .refl ⟨c, C, f, y, dx, v, rfl, hX, rfl, rfl, upd_same, rd⟩
end
end Ip
end

section
set_option linter.all false
set_option autoImplicit false
set_option maxRecDepth 100000
set_option maxHeartbeats 4000000
namespace Ip
open PySem PySem.Spec PyProof.Rows L2
/-! ### try: .. except C as n: .., of several clauses the first -/
def wFst (K : PySem.W.Frag) (c : Value) (i : Nat) (ts : Addr → Value → Option Addr → TS) (D : Ends) : WX := fun cls d σ H => PySem.W.exmOne K cls c = some true ∧
  ∀ a, H a = none → ts a cls d { nx := fun σ' H' => D.nx (σ'.set i none) H', rt := D.rt, bk := fun σ' H' => D.bk (σ'.set i none) H', ct := fun σ' H' => D.ct (σ'.set i none) H' } (σ.set i (some (.ref a))) H
section
variable {X : Cx} {x n : Str} {c : Value} {i : Nat} {body suite : List Stmt} {s1st : Stmt} {more : List ExceptHandler} {np pos pos' : Pos} {tb : WX → TS} {ts : Addr → Value → Option Addr → TS}
theorem ps_try_first (hst : X.stack = X.env :: X.outer) (hfr : X.env.frame = some X.env.locals) (hnd : X.N.Nodup) (hin : X.N[i]? = some n) (hlo : X.env.kindOf n = some .local) (hnm : Names X x c)
    (hbo : ∀ (W : WX) (pn : List (Addr × Obj)) (xe : Value → Shared → Prop), Takes (X.tr pn xe) W → PassesOwn (model X.prog X.w) X.A X.env xe → PSs (X.tr pn xe) body (tb W))
    (hsu : ∀ (a : Addr) (oe : Obj) (cls : Value) (d : Option Addr) (pn : List (Addr × Obj)), Zc cls d oe → (∃ vs, oe.data = .fields vs) → PSs (X.suite a ((a, oe) :: pn)) (s1st :: suite) (ts a cls d)) :
    PS X (.Try body (.ExceptHandler (some (.Name x np)) (some n) (s1st :: suite) pos' :: more) [] [] pos) (fun D σ H => tb (wFst X.K c i ts D) D σ H) := by
  refine ⟨fun pins s σ H D I hyp => ?_⟩
  have okX := I.ok
  have frA : X.A.frames = some (X.env :: X.outer) := by rw [okX.frames, hst]
  refine wpAny_Try_except ?_
  have run1 := (hbo (wFst X.K c i ts D) (X.pn ++ pins) (fun e s₁ => wpAny (model X.prog X.w) X.A (noteFrame e X.env) (fun _ s₂ => wpAny (model X.prog X.w) X.A (setFlight e none) (fun _ s₃ =>
    wpAny (model X.prog X.w) X.A (handleBy e X.env (.ExceptHandler (some (.Name x np)) (some n) (s1st :: suite) pos' :: more)) (SP X pins D) X.xe s₃) X.xe s₂) X.xe s₁)
    (fun u s' xx => by
      obtain ⟨a, B, sI, pins', σ', H', cls, d, rfl, J', nb, up, sky, na, os, ag, hb1, hyes⟩ := xx
      have J : Inv X pins σ' H' sI := J'.ofTry okX
      have sky1 : Sky B (X.env :: X.outer) a (Zc cls d) X.env.locals s'.heap := by rw [← hst]; exact sky
      show wpAny (model X.prog X.w) X.A (noteFrame (.ref a) X.env) _ _ _
      refine Sky.land Zc.steady frA hfr sky1 fun hp3 fl3 up3 => ?_
      have J3 : Inv X pins σ' H' { s' with heap := hp3 } := J.landed nb fl3.1 (up.trans up3) os ag
      obtain ⟨ob3, vs3, at3, zc3, fd3⟩ := fl3.there
      have nfr : a ∉ frs (X.env :: X.outer) := fun hm => by
        obtain ⟨_, o', e', hnf⟩ := fl3.2.2.1.mem hm
        rw [at3] at e'
        cases e'
        exact hnf _ fd3
      have nloc : a ≠ X.env.locals := fun z => nfr (List.mem_filterMap.mpr ⟨X.env, List.mem_cons_self, by rw [hfr, z]⟩)
      have nfs : a ∉ X.fs := fun hm => by
        obtain ⟨e, he, q⟩ := List.mem_filterMap.mp hm
        exact nfr (List.mem_filterMap.mpr ⟨e, List.mem_cons_of_mem _ he, q⟩)
      have S3 := J3.suite at3 fd3 na nloc nfs
      refine wpAny_handleBy_cons (codeAny_handlers_test ?_) (by intro q; cases q)
      have lkT : PySem.W.Looks (model X.prog X.w) hp3 (typeOf (.ref a)) cls := fun A Q E s k q => wpAny_typeOf_ref (k _ _ at3) (by rw [zc3.1]; exact q)
      have lkM := PySem.W.exm_one (M := model X.prog X.w) (J3.kIn) lkT hb1
      have named : ∀ {Q : Value → Shared → Prop} {E : Value → Shared → Prop}, Q c { s' with heap := hp3 } → wpAny (model X.prog X.w) (X.A.mark (some (.ref a))) (eval (.Name x np) X.env) Q E { s' with heap := hp3 } := fun {Q E} q => by
        obtain ⟨hg, hdb, hm | ⟨hm, hv, hnn⟩⟩ := hnm
        · exact ld_glob (X := X.suite a ((a, ob3) :: (X.pn ++ pins))) S3 hg hm q hdb
        · exact ld_blt (X := X.suite a ((a, ob3) :: (X.pn ++ pins))) S3 hg hm hv q hnn hdb
      refine named (lkM.here ?_)
      refine codeAny_handlers_suite_as ?_
      refine HandSPX.lands_againZ fl3 fun hp4 fl4 up4 => ?_
      have J4 : Inv X pins σ' H' { s' with heap := hp4 } := J.landed nb fl4.1 ((up.trans up3).trans up4) os ag
      obtain ⟨ob4, vs4, at4, zc4, fd4⟩ := fl4.there
      have S4 := J4.suite at4 fd4 na nloc nfs
      refine store_ok (X := X.suite a ((a, ob4) :: (X.pn ++ pins))) (v := .ref a) S4 hnd hin (.inl hlo) rfl (fun s5 S5 => ?_) (.inr hlo)
      refine wpAny_mono ((hsu a ob4 cls d (X.pn ++ pins) zc4 ⟨_, fd4⟩).run [] s5 _ H' _ S5 (hyes a na)) (fun fl s6 hsp => ?_) (fun _ _ z => False.elim z)
      have leave : ∀ {σ6 : L2.St} {H6 : Hp} {Q : Shared → Prop}, Inv (X.suite a ((a, ob4) :: (X.pn ++ pins))) [] σ6 H6 s6 → (∀ s7, Inv X pins (σ6.set i none) H6 s7 → Q s7) →
          wpAny (model X.prog X.w) X.A (do bindName X.env n .none; unbindBehindTheSuite X.env n pos') (fun _ s7 => Q s7) X.xe s6 := fun {σ6 H6 Q} S6 hq => gone_ok (S6.unsuite okX) hnd hin hlo hq
      cases fl with
      | ret u =>
        obtain ⟨v6, σ6, H6, S6, r6, q6⟩ := hsp
        exact leave S6 fun s7 J7 => ⟨_, _, _, J7, r6, q6⟩
      | next =>
        obtain ⟨σ6, H6, S6, q6⟩ := hsp
        exact leave S6 fun s7 J7 => ⟨_, _, J7, q6⟩
      | brk =>
        obtain ⟨σ6, H6, S6, q6⟩ := hsp
        exact leave S6 fun s7 J7 => ⟨_, _, J7, q6⟩
      | cont =>
        obtain ⟨σ6, H6, S6, q6⟩ := hsp
        exact leave S6 fun s7 J7 => ⟨_, _, J7, q6⟩) PassesOwn.looking).run [] s σ H D (I.toTry _) hyp
  refine wpAny_mono run1 (fun fl s1 hsp => ?_) (fun e s1 he => he)
  cases fl with
  | ret u =>
    obtain ⟨v, σ', H', J', r, q⟩ := hsp
    exact ⟨v, σ', H', J'.ofTry okX, r, q⟩
  | next =>
    obtain ⟨σ', H', J', q⟩ := hsp
    exact wpAny_execs_nil ⟨σ', H', J'.ofTry okX, q⟩
  | brk =>
    obtain ⟨σ', H', J', q⟩ := hsp
    exact ⟨σ', H', J'.ofTry okX, q⟩
  | cont =>
    obtain ⟨σ', H', J', q⟩ := hsp
    exact ⟨σ', H', J'.ofTry okX, q⟩
end
/-! ### the laws' own try: ("value", a()), or (its class's name, the attribute) -/
def okT (v : V) (txt : Str) (Q : VK) (H : Hp) : Prop := ([V.str txt, v] : List V).length ≤ sizeLine ∧ ∀ p, H p = none → Q (.ref p) (upd H p (.tup [.str txt, v]))
/-- what the told def makes of a lambda's reading -/
def TTry (C : Addr) (f okS exS : Str) : (XK → Hp → VK → Prop) → Hp → VK → Prop := fun tl H Q =>
  tl (fun cls d H' => cls = .ref C ∧ ∃ dd v, d = some dd ∧ H' dd = some (.xd [(f, v)]) ∧ okT v exS Q H') H (fun v H' => okT v okS Q H')
/-- .. knowing how many names there are -/
def tLen (n : Nat) (t : TS) : TS := fun D σ H => σ.length = n → t D σ H
theorem pss_len {X : Cx} {ss : List Stmt} {t : TS} (h : PSs X ss t) : PSs X ss (tLen X.N.length t) := ⟨fun pins s σ H D I q => h.run pins s σ H D I (q I.len)⟩
theorem told_try {X : Cx} {Ng : List Str} {x a n e q okS exS f : Str} {sg : Scope} {g C : Addr} {cdg : Value} {j1 j2 y1 y2 : Nat} {more : List ExceptHandler} {p1 p2 p3 p4 p5 p6 p7 p8 p9 p10 p11 p12 p13 : Pos}
    (hge : sg.names.lookup e = some .globalImplicit) (hme : X.mg e = some (.ref C)) (hde : (e == ("__debug__" : Str)) = false) (hN : Ng = [a, n]) (hnd : Ng.Nodup) (hln : sg.names.lookup n = some .local)
    (h1 : (n == ("__debug__" : Str)) = false) (h2 : (n == ("__classdict__" : Str)) = false) (hex : PySem.W.exmOne X.K (.ref C) (.ref C) = some true) (T : XfC X.K C) (hno : PySem.W.findIn X.K (.ref C) f = some none) :
    LamX.GivesTo X Ng x sg g cdg [.Try [.Return (some (.Tuple [.Constant (.str okS) j1 p1, .Call (.Name a p2) [] [] p3] y1 p4)) p5] (.ExceptHandler (some (.Name e p6)) (some n) [.Return (some (.Tuple [.Constant (.str exS) j2 p7, .Attribute (.Name n p8) f p9] y2 p10)) p11] p12 :: more) [] [] p13] a q (TTry C f okS exS) := by
  intro fa c' s H Q tl act hc h
  have hgl : Gl (cxOf C8.CX0 X.prog X.w X.K X.mg X.base Ng x sg g cdg X.A X.stack s H C8.E0).nox e := hge
  refine ⟨_, pss_one (ps_try_first (X := (cxOf C8.CX0 X.prog X.w X.K X.mg X.base Ng x sg g cdg X.A X.stack s H C8.E0).nox) (c := .ref C) (i := 1) (n := n)
      (tb := fun W D σ H => ∃ Ech : XK, (∀ cls d σ' H', Ech cls d H' → W cls d σ' H') ∧ σ[0]? = some (some (.ref fa)) ∧ H c' = some (LamX.CodeO c' q) ∧ tl Ech H (fun v H' => okT v okS D.rt H'))
      (ts := fun b cls d => tLen 2 (tRet (tTup (tCons (tC (.str exS)) (tCons (tXf b cls d C f (tVar 1)) tNil)))))
      rfl rfl hnd (by show Ng[1]? = some n; rw [hN]; rfl) hln ⟨hgl, hde, .inl hme⟩ (fun W pn xe tk _ => ?_) (fun b oe cls d pn hz hf => ?_)), ?_⟩
  · refine ⟨fun pins s' σ H' D I hh => ?_⟩
    obtain ⟨Ech, hW, e1, e2, e3⟩ := hh
    have call := act W pn xe Ech p2 p3 tk hW
    exact (pss_one (ps_ret (pos := p5) (pe_tup (pos := p4) (x1 := y1) (pa_cons (pe_str (x := okS) (j := j1) (pos := p1)) (pa_cons call pa_nil))))).run pins s' σ H' D I ⟨e1, e2, e3⟩
  · have lenN : (Cx.suite ((cxOf C8.CX0 X.prog X.w X.K X.mg X.base Ng x sg g cdg X.A X.stack s H C8.E0).nox) b ((b, oe) :: pn)).N.length = 2 := by
      show Ng.length = 2
      rw [hN]
      rfl
    have nm : PE (Cx.suite ((cxOf C8.CX0 X.prog X.w X.K X.mg X.base Ng x sg g cdg X.A X.stack s H C8.E0).nox) b ((b, oe) :: pn)) (.Name n p8) (tVar 1) :=
      pe_var (by show Ng[1]? = some n; rw [hN]; rfl) (.inl hln) h1 h2
    have at_ := pe_xf (X := (cxOf C8.CX0 X.prog X.w X.K X.mg X.base Ng x sg g cdg X.A X.stack s H C8.E0).nox) (pos := p9) T hno hz hf nm
    have all_ := pss_len (pss_one (ps_ret (pos := p11) (pe_tup (pos := p10) (x1 := y2) (pa_cons (pe_str (x := exS) (j := j2) (pos := p7)) (pa_cons at_ pa_nil)))))
    rw [lenN] at all_
    exact all_
  · refine ⟨fun cls d H' => cls = .ref C ∧ ∃ dd v, d = some dd ∧ H' dd = some (.xd [(f, v)]) ∧ okT v exS Q H', fun cls d σ' H' hE => ?_, by rw [hN]; rfl, hc, h⟩
    obtain ⟨ec, dd, v, ed, hx, ok⟩ := hE
    refine ⟨by rw [ec]; exact hex, fun b hb hl => ⟨.ref b, ?_, rfl, ec, dd, [(f, v)], v, ed, hx, by simp, ok⟩⟩
    rw [List.length_set] at hl
    exact List.getElem?_set_self (by omega)
end Ip
end

section
set_option linter.all false
set_option autoImplicit false
set_option maxRecDepth 100000
set_option maxHeartbeats 4000000
namespace Ip
open PySem PySem.Spec PyProof.Rows L2
variable [Tb]
/-! ### _law_told(lambda: e) -/
theorem ok_ext {K : PySem.W.Frag} {e : Env} {σ : L2.St} {w : Wld} {H1 : Hp} (ok : Ok K e σ w) (eN : LamX.ExtN w.H H1) (tb : LamX.Tabs Tb.T H1) : Ok K e σ ⟨w.F, H1, w.fs⟩ ∧ Go w ⟨w.F, H1, w.fs⟩ [] :=
  ⟨⟨fun b o z => eN b o (ok.le b o z) (ok.fnt b o z), ok.rel.frame (.refl _) (fun b hb o z => eN b o z (by
    obtain ⟨o1, h1, m⟩ := ok.rel.own b hb
    rw [z] at h1
    cases h1
    exact Nt.mut m)), ok.nd, ok.out, ok.fnt, tb⟩, ⟨fun b o z t n => eN b o z t, fun b z => .inl (by simpa using z), .refl _, fun b o z => .inl ⟨o, z⟩⟩⟩
/-- a new pair of a text and of data -/
theorem okT_of {K : PySem.W.Frag} {e : Env} {σ : L2.St} {w0 w : Wld} {Q : VK} {s : List Nat} {y : D} {v : V} (ok : Ok K e σ w) (go : Go w0 w []) (rd : RelD K w.F y v) (ht : TxtOk s) (h : Got K σ w0 Q (.v (.d (.tup [.str s, y]))) e) : okT v (txt s) Q w.H := by
  refine ⟨by rw [sizeLine_eq]; simp, fun p np => ?_⟩
  refine h ⟨upd w.F p (.tup [.str (txt s), v]), upd w.H p (.tup [.str (txt s), v]), w.fs⟩ (.ref p) [] (ok.newF np) ⟨⟨?_, rfl⟩, by simp⟩ .nil (go.newF np ok.le)
  unfold RelD
  refine ⟨p, [.str (txt s), v], rfl, .of upd_same, ?_, by rw [sizeLine_eq]; simp⟩
  unfold RelDs
  refine ⟨by unfold RelD; exact ⟨rfl, ht⟩, ?_⟩
  unfold RelDs
  exact ⟨rd.mono (upd_le (ok.le.none np)), by unfold RelDs; trivial⟩
abbrev valS : List Nat := [118, 97, 108, 117, 101]
theorem valS_ok : TxtOk valS := ⟨by rw [sizeLine_eq]; decide, by decide⟩
section
variable {G : Cfg} {X : Cx} {Wx : L2.WX} {ma : Env → R W}
theorem I_told {x a f : Str} {exS : Str} {g c P C : Addr} {k : Nat} {pg : Arguments} {bg : List Stmt} {sg : Scope} {dV kV doc pm cdv ct oc : Value} {an od : Option Addr} {osl : Array (Option Value)} {Ng : List Str}
    {params : Arguments} {body : Expr} {scope : Scope} {p lpos pos : Pos} (hg : Gl X x) (hm : X.mg x = some (.ref g)) (hk : PySem.W.keepIn X.K (.ref g) = true)
    (lk : X.K.lookup g = some ⟨oc, od, .func (PySem.W.fnOf x x pg bg sg dV kV doc pm an cdv ct), osl⟩) (hcg : PySem.W.codeIn X.K cdv x = true) (hb : L2.Binds X.K (PySem.W.fnOf x x pg bg sg dV kV doc pm an cdv ct) [a] []) (Sg : FnScope Ng [a] sg) (hNg : Ng[0]? = some a) (hva : Vis sg a)
    (hG : LamX.GivesTo X Ng x sg g cdv bg a (X.env.qual ++ "<lambda>") (TTry C f (txt valS) exS))
    (TB : LamX.TabB X.base X.mg c P) (hcode : X.env.code = .ref c) (hmT : (P, X.env.qual ++ "<lambda>") ∈ Tb.T) (hu : ∀ p ∈ Tb.T, p.1 = P → p.2 = X.env.qual ++ "<lambda>") (hr : Room (k + 2) X.A) (L : LamX.LamS X.env.scope scope) (hdef : defaultsOf params X.env = ([], []))
    (hbind : ∀ (q : Str) (cl : List (Str × Addr)) (pm cv ctv : Value), bindArgs (PySem.W.kla_fn "<lambda>" q params body scope cl pm cv ctv) ⟨[], []⟩ = pure [])
    (hbody : ∀ (A : Around) (outer : List PySem.Env) (s : Shared) (H : Hp) (E : XK) (fa c' : Addr), Room k (A.deeper (LamX.lamEnv X scope s.heap.objs.size fa c')) → PE (LamX.lamCx X A outer s H E scope fa c') body (tI X.K (fun cls d _ H => E cls d H) ma))
    (hdb : (x == ("__debug__" : Str)) = false) (hd : (a == ("__debug__" : Str)) = false) (hcd : (a == ("__classdict__" : Str)) = false)
    (hE : ∀ (i : Nat) (s : List Nat), G.exn[i]? = some s → Tb.X[i]? = some (C, f) ∧ txt s = exS ∧ TxtOk s) :
    PE X (.Call (.Name x p) [.Lambda params body scope lpos] [] pos) (tI X.K Wx fun e => toldW G (ma e)) := by
  refine PE.imp (LamX.pe_lamcall (T := Tb.T) (TT := TTry C f (txt valS) exS) (t := fun E => tI X.K (fun cls d _ H => E cls d H) ma) hg hm hk lk hcg hb Sg hNg hva hG TB hcode hmT hu hr L hdef hbind hbody hdb hd hcd) fun σ H Q ⟨e, w, hw, ok, h⟩ => ?_
  subst hw
  refine ⟨ok.tab, fun H1 eN tb => ?_⟩
  obtain ⟨ok1, go1⟩ := ok_ext ok eN tb
  refine ⟨e, ⟨w.F, H1, w.fs⟩, rfl, ok1, ?_⟩
  dsimp only at h
  cases q : ma e with
  | no => rw [q] at h; exact h.elim
  | ok x0 e1 =>
    rw [q] at h
    unfold toldW at h
    dsimp only at h
    intro w' v fx ok' rx sp go'
    cases qt : Ip.take e1 x0 with
    | none => rw [qt] at h; exact h.elim
    | some b =>
      obtain ⟨y, e2⟩ := b
      rw [qt] at h
      obtain ⟨w2, hH, ok2, rd, go2, sp2, le2⟩ := take_ok (g := []) ok' rx (by simpa using go1.trans go') (by simpa using sp) qt
      have := okT_of ok2 go2 rd valS_ok h
      rw [hH] at this
      exact this
  | exc x0 e1 =>
    rw [q] at h
    intro w' cls d ok' go' rx
    obtain ⟨i, C', f', y, dd, v, rfl, hX', rfl, rfl, hdd, rd⟩ := rx
    have h : PR X.K Wx σ w (match G.exn[i]? with
      | some s => R.ok (.v (.d (.tup [.str s, y]))) e1
      | none => .no) (Got X.K σ w Q) := h
    cases q2 : G.exn[i]? with
    | none => rw [q2] at h; exact h.elim
    | some s =>
      rw [q2] at h
      obtain ⟨hx2, ht, htx⟩ := hE i s q2
      rw [hX'] at hx2
      cases hx2
      refine ⟨rfl, dd, v, rfl, hdd, ?_⟩
      rw [← ht]
      exact okT_of ok' ((go1.trans go').sub (by simp)) rd htx h
end
end Ip
end

section
set_option linter.all false
set_option autoImplicit false
set_option maxHeartbeats 1000000
namespace Ip
open PySem PySem.Spec PyProof.Rows L2
variable [Tb]

/-! ### a look at a text: is it what the interpreter runs? -/
structure NM where
  /-- the defs' names -/
  fn : List Str
  /-- the constants' names -/
  glb : List Str
  /-- names that the top does not bind -/
  free : List Str
  /-- the name of math.gcd -/
  gcd : Option Str := none
  /-- the constants that are tuples of ints -/
  tups : List (Str × List Int) := []
  /-- the laws' own try -/
  told : Option Str := none
  /-- the classes of exceptions that are raised -/
  exn : List Str := []
  /-- the defs with lambdas -/
  lams : List Str := []
structure Ctx where
  N : List Str
  sc : Scope
  fns : Str → Bool
  np : Nat
  bw : List Nat
  /-- lambdas stand in it -/
  lam : Bool
  /-- a def's own text -/
  st : Bool
def eqS (a b : Str) : Bool := decide (a = b)
def atS (l : List Str) (i : Nat) (x : Str) : Bool := match l[i]? with
  | some y => eqS y x
  | none => false
theorem atS_ok {l : List Str} {i : Nat} {x : Str} (h : atS l i x = true) : l[i]? = some x := by
  unfold atS at h
  cases q : l[i]? with
  | none => rw [q] at h; cases h
  | some y => rw [q] at h; rw [of_decide_eq_true h]
def nameB (x : Str) : Bool := !(x == ("__debug__" : Str)) && !(x == ("__classdict__" : Str)) && !eqS x "__name__"
def visB (sc : Scope) (x : Str) : Bool := match sc.names.lookup x with
  | some .local => true
  | some .cell => true
  | some .free => true
  | _ => false
def globB (sc : Scope) (x : Str) : Bool := decide (sc.names.lookup x = some .globalImplicit)
def locB (Γ : Ctx) (x : Str) : Bool := match Γ.sc.names.lookup x with
  | some .local => true
  | some .cell => Γ.fns x
  | _ => false
def cstB : Const → D → Bool
  | .none, .non => true
  | .bool b, .bl c => b == c
  | .int i, .int j => decide (i = j)
  | .str s, .str x => eqS s (txt x) && scalD (.str x)
  | _, _ => false
def tyB (M : NM) (sc : Scope) (t : Ty) (T : Str) : Bool := (match t with
  | .int => eqS T "int"
  | .bool => eqS T "bool"
  | .str => eqS T "str"
  | .tuple => eqS T "tuple"
  | .list => eqS T "list"
  | .cls _ => false) && globB sc T && M.free.contains T
def noSlice : Expr → Bool
  | .Slice _ _ _ _ => false
  | _ => true
def noComp : Expr → Bool
  | .ListComp _ _ _ _ => false
  | .SetComp _ _ _ _ => false
  | .DictComp _ _ _ _ _ => false
  | _ => true
def noSet : Expr → Bool
  | .Set _ _ _ => false
  | _ => true
def noCall : Expr → Bool
  | .Call _ _ _ _ => false
  | _ => true
def isTup : Expr → Bool
  | .Tuple _ _ _ => true
  | .List _ _ => true
  | _ => false
def isName : Expr → Bool
  | .Name _ _ => true
  | _ => false
def plainT : Expr → Bool
  | .UnaryOp op _ _ => !decide (op = .Not)
  | .BoolOp _ _ _ => false
  | .IfExp _ _ _ _ => false
  | .Compare _ _ _ _ => false
  | _ => true
def restB (op : BoolOp) (y : Expr) (r : List Expr) (p : Pos) : Expr := match r with
  | [] => y
  | z :: r => .BoolOp op (y :: z :: r) p
/-- does name = [..] swap? -/
def swapB (sc : Scope) (scope : Scope) (t : Str) (l1 l2 : Nat) : Bool := decide (sc.names.lookup t = some .local) && l1 == l2 && !(scope.names.any fun (n, k) => n == t && (k == .local || k == .cell))
def ownOf (N : List Str) (own : List Nat) : List (Str × Nat) := own.map fun i => (N.getD i Str.empty, i)
def blkB (N : List Str) (sc scope : Scope) (own : List Nat) : Bool :=
  decide (scope.kind = .function) && scope.names.all (fun y => decide (scope.names.lookup y.1 = some y.2)) && own.all (fun i => decide (i < N.length)) &&
  scope.names.all (fun y => match y.2 with
    | .free => (match sc.names.lookup y.1 with | some .cell => true | some .free => true | _ => false)
    | .local => (ownOf N own).any (fun p => eqS p.1 y.1) || !(N.any fun z => eqS z y.1)
    | .cell => (ownOf N own).any (fun p => eqS p.1 y.1) || !(N.any fun z => eqS z y.1)
    | _ => true)
def inner (Γ : Ctx) (scope : Scope) (own : List Nat) : Ctx := { Γ with sc := relS scope Γ.sc, fns := fun x => scope.names.lookup x == some .cell, bw := bwB Γ.N.length own, lam := false, st := false }
/-- .. of a lambda's text -/
def lamC (Γ : Ctx) (scope : Scope) : Ctx := ⟨Γ.N, scope, fun _ => false, Γ.np, [], false, false⟩
section
variable (M : NM) (G : Cfg)
def arB (f n : Nat) : Bool := match G.fns[f]? with
  | some fd => decide (n ≤ fd.n) && decide (fd.n ≤ n + fd.defs.length)
  | none => false
def freeB (sc : Scope) (x : Str) (y : Str) : Bool := eqS x y && globB sc x && M.free.contains y
mutual
def chkE : CE → Ctx → Expr → Bool
  | .cst x, Γ, e => match e with
    | .Constant c _ _ => cstB c x
    | _ => false
  | .var i, Γ, e => match e with
    | .Name x _ => atS Γ.N i x && visB Γ.sc x && nameB x
    | _ => false
  | .glb n, Γ, e => match e with
    | .Name x _ => atS M.glb n x && globB Γ.sc x && nameB x
    | _ => false
  | .tup es, Γ, e => match e with
    | .Tuple es' _ _ => decide (es'.length ≤ 1000000) && chkEs es Γ es'
    | _ => false
  | .lst es, Γ, e => match e with
    | .List es' _ => decide (es'.length ≤ 1000000) && chkEs es Γ es'
    | _ => false
  | .dct [], Γ, e => match e with
    | .Dict [] [] _ => true
    | _ => false
  | .dct [(k, v)], Γ, e => match e with
    | .Dict [some k'] [v'] _ => chkE k Γ k' && chkE v Γ v'
    | _ => false
  | .dct _, _, _ => false
  | .bin op a b, Γ, e => match e with
    | .BinOp a' op' b' _ => decide (op' = oper op) && chkE a Γ a' && chkE b Γ b'
    | _ => false
  | .neg a, Γ, e => match e with
    | .UnaryOp op a' _ => decide (op = .USub) && chkE a Γ a'
    | _ => false
  | .not a, Γ, e => match e with
    | .UnaryOp op a' _ => decide (op = .Not) && chkE a Γ a'
    | _ => false
  | .cmp op a b, Γ, e => match e with
    | .Compare a' [op'] [b'] _ => decide (op' = cmpr op) && !behindInMarks op' b' && chkE a Γ a' && chkE b Γ b'
    | _ => false
  | .cmp2 op1 op2 a b c, Γ, e => match e with
    | .Compare a' [o1, o2] [b', c'] _ => decide (o1 = cmpr op1) && decide (o2 = cmpr op2) && !lastMarks [o1, o2] [b', c'] && chkE a Γ a' && chkE b Γ b' && chkE c Γ c'
    | _ => false
  | .and a b, Γ, e => match e with
    | .BoolOp op (x :: y :: r) p => decide (op = .And) && chkE a Γ x && chkE b Γ (restB .And y r p)
    | _ => false
  | .or a b, Γ, e => match e with
    | .BoolOp op (x :: y :: r) p => decide (op = .Or) && chkE a Γ x && chkE b Γ (restB .Or y r p)
    | _ => false
  | .ite c a b, Γ, e => match e with
    | .IfExp c' a' b' _ => chkE c Γ c' && chkE a Γ a' && chkE b Γ b'
    | _ => false
  | .idx a i, Γ, e => match e with
    | .Subscript a' i' _ => noSlice i' && chkE a Γ a' && chkE i Γ i'
    | _ => false
  | .slc a lo hi, Γ, e => match e with
    | .Subscript a' (.Slice lo' hi' none _) _ => chkE a Γ a' && chkO lo Γ lo' && chkO hi Γ hi'
    | _ => false
  | .rev a, Γ, e => match e with
    | .Subscript a' (.Slice none none (some (.UnaryOp op (.Constant (.int i) _ _) _)) _) _ => decide (op = .USub) && decide (i = 1) && chkE a Γ a'
    | _ => false
  | .call f as, Γ, e => match e with
    | .Call (.Name x _) (a :: es) [] _ => atS M.fn f x && globB Γ.sc x && nameB x && arB G f as.length && chkEs as Γ (a :: es)
    | .Call (.Name x _) [] [] _ => as.isEmpty && atS M.fn f x && globB Γ.sc x && nameB x && arB G f 0
    | _ => false
  | .new _ _, _, _ => false
  | .bi f as, Γ, e => match e with
    | .Call (.Name x _) (a :: es) [] _ => ((okB f && freeB M Γ.sc x (bname f)) || (decide (f = .gcd) && decide (M.gcd = some x) && globB Γ.sc x && nameB x)) && chkEs as Γ (a :: es)
    | _ => false
  | .isin a ts, Γ, e => match e with
    | .Call (.Name x _) [a', .Name T _] [] _ => freeB M Γ.sc x "isinstance" && plainArg a' && chkE a Γ a' && (match ts with
      | [t] => tyB M Γ.sc t T
      | _ => false)
    | .Call (.Name x _) [a', .Tuple [.Name T _, .Name U _] _ _] [] _ => freeB M Γ.sc x "isinstance" && plainArg a' && chkE a Γ a' && (match ts with
      | [t, u] => tyB M Γ.sc t T && tyB M Γ.sc u U
      | _ => false)
    | _ => false
  | .meth m o as, Γ, e => match e with
    | .Call (.Attribute o' name ap) [a'] [] p => (match m with | .append => eqS name "append" | .index => eqS name "index" | _ => false) && noCall o' && (ap.endLine == p.line) && plainArg a' && chkE o Γ o' && chkEs as Γ [a']
    | .Call (.Attribute o' name ap) [a', b'] [] p => decide (m = .insert) && eqS name "insert" && noCall o' && (ap.endLine == p.line) && (plainArg a' && plainArg b') && chkE o Γ o' && chkEs as Γ [a', b']
    | .Call (.Attribute o' name ap) [] [] p => decide (m = .pop) && eqS name "pop" && noCall o' && (ap.endLine == p.line) && chkE o Γ o' && chkEs as Γ []
    | _ => false
  | .omth _ _ _, _, _ => false
  | .attr _ _, _, _ => false
  | .comp own t it ifs elt, Γ, e => match e with
    | .ListComp elt' [⟨tg, iter, ifs', k⟩] scope _ => decide (k = 0) && noSet iter && blkB Γ.N Γ.sc scope own && chkI it Γ tg iter && chkG t (inner Γ scope own) tg && chkIfs ifs (inner Γ scope own) ifs' && chkE elt (inner Γ scope own) elt'
    | _ => false
  | .dcomp _ _ _ _ _ _, _, _ => true
  | .frz a, Γ, e => plainT e && chkE a Γ e
  | .lck _ a, Γ, e => plainT e && chkE a Γ e
  | .told a, Γ, e => match e with
    | .Call (.Name x _) [.Lambda ⟨[], [], none, [], [], none, []⟩ body scope _] [] _ => decide (M.told = some x) && globB Γ.sc x && nameB x && (Γ.lam && Γ.st) && LamX.lamSB Γ.sc scope && chkE a (lamC Γ scope) body
    | _ => false
termination_by structural x => x
def chkEs : List CE → Ctx → List Expr → Bool
  | [], Γ, [] => true
  | c :: cs, Γ, e :: es => plainArg e && chkE c Γ e && chkEs cs Γ es
  | _, _, _ => false
termination_by structural x => x
def chkO : Option CE → Ctx → Option Expr → Bool
  | none, Γ, none => true
  | some c, Γ, some e => chkE c Γ e
  | _, _, _ => false
termination_by structural x => x
def chkIfs : List CE → Ctx → List Expr → Bool
  | [], Γ, [] => true
  | c :: cs, Γ, [e] => cs.isEmpty && chkE c Γ e
  | _, _, _ => false
termination_by structural x => x
def chkI : It → Ctx → Expr → Expr → Bool
  | .e a, Γ, tg, e => chkE a Γ e
  | .range as, Γ, tg, e => match e with
    | .Call (.Name x _) [a'] [] _ => freeB M Γ.sc x "range" && chkEs as Γ [a']
    | .Call (.Name x _) [a', b'] [] _ => freeB M Γ.sc x "range" && chkEs as Γ [a', b']
    | .Call (.Name x _) [a', b', c'] [] _ => freeB M Γ.sc x "range" && chkEs as Γ [a', b', c']
    | _ => false
  | .revR _, _, _, _ => true
  | .rev a, Γ, tg, e => match e with
    | .Call (.Name x _) [a'] [] _ => freeB M Γ.sc x "reversed" && plainArg a' && chkE a Γ a'
    | _ => false
  | .enum as, Γ, tg, e => match tg, e with
    | .Tuple _ _ _, .Call (.Name x _) [a'] [] _ => freeB M Γ.sc x "enumerate" && chkEs as Γ [a']
    | _, _ => false
  | .zip as, Γ, tg, e => match tg, e with
    | .Tuple _ _ _, .Call (.Name x _) [a', b'] [] _ => freeB M Γ.sc x "zip" && chkEs as Γ [a', b']
    | _, _ => false
  | .items _, _, _, _ => true
  | .values _, _, _, _ => true
termination_by structural x => x
def chkG : Tg → Ctx → Expr → Bool
  | .name i, Γ, e => match e with
    | .Name x _ => atS Γ.N i x && locB Γ x && !Γ.bw.contains i
    | _ => false
  | .tup ts, Γ, e => match e with
    | .Tuple es _ _ => chkGs ts Γ es
    | _ => false
  | .idx o i, Γ, e => match e with
    | .Subscript o' i' _ => noSlice i' && chkE o Γ o' && chkE i Γ i'
    | _ => false
  | .attr _ _, _, _ => false
termination_by structural x => x
def chkGs : List Tg → Ctx → List Expr → Bool
  | [], Γ, [] => true
  | t :: ts, Γ, e :: es => plainArg e && chkG t Γ e && chkGs ts Γ es
  | _, _, _ => false
termination_by structural x => x
end
/-- a statement name = [..] that swaps -/
def asgB (Γ : Ctx) (tg e : Expr) : Bool := match e with
  | .ListComp _ _ scope p => (match tg with
    | .Name y py => decide (Γ.sc.kind = .function) && !swapB Γ.sc scope y py.line p.line
    | _ => true) && !isTup tg
  | .SetComp _ _ _ _ => false
  | .DictComp _ _ _ _ _ => false
  | .Tuple _ _ _ => !isTup tg
  | _ => true
mutual
def chkS : CS → Ctx → Stmt → Bool
  | .pass, Γ, s => match s with
    | .Pass _ => true
    | _ => false
  | .brk, Γ, s => match s with
    | .Break _ => true
    | _ => false
  | .cont, Γ, s => match s with
    | .Continue _ => true
    | _ => false
  | .expr a, Γ, s => match s with
    | .Expr e _ => noComp e && chkE M G a Γ e
    | _ => false
  | .asg t a, Γ, s => match s with
    | .Assign [tg] e _ => plainArg tg && chkG M G t Γ tg && chkE M G a Γ e && (asgB Γ tg e || (match a, t, tg, e with
      | .comp _ _ _ _ _, .name _, .Name y py, .ListComp _ [_] scope p => decide (Γ.sc.kind = .function) && swapB Γ.sc scope y py.line p.line
      | _, _, _, _ => false))
    | _ => false
  | .aug i op a, Γ, s => match s with
    | .AugAssign (.Name x _) op' e _ => (decide (op = .add) || decide (op = .sub)) && decide (op' = oper op) && atS Γ.N i x && locB Γ x && !Γ.bw.contains i && chkE M G a Γ e
    | _ => false
  | .augI _ _ _ _, _, _ => false
  | .ret none, Γ, s => match s with
    | .Return none _ => true
    | _ => false
  | .ret (some a), Γ, s => match s with
    | .Return (some e) _ => chkE M G a Γ e
    | _ => false
  | .ite c a b, Γ, s => match s with
    | .If c' a' b' _ => chkE M G c Γ c' && chkSs a Γ a' && chkSs b Γ b'
    | _ => false
  | .whl c a, Γ, s => match s with
    | .While c' a' [] _ => chkE M G c Γ c' && chkSs a Γ a'
    | _ => false
  | .for t it a, Γ, s => match s with
    | .For tg iter a' [] _ => noSet iter && chkI M G it Γ tg iter && chkG M G t Γ tg && chkSs a Γ a'
    | _ => false
  | .raise c as, Γ, s => match s with
    | .Raise (some (.Call (.Name x _) (a :: es) [] _)) none _ => atS M.exn c x && globB Γ.sc x && nameB x && Γ.st && chkEs M G as Γ (a :: es)
    | _ => false
  | .tryE _ _, _, _ => true
  | .lck _ a, Γ, s => chkS a Γ s
termination_by structural x => x
def chkSs : List CS → Ctx → List Stmt → Bool
  | [], Γ, [] => true
  | c :: cs, Γ, s :: ss => chkS c Γ s && chkSs cs Γ ss
  | _, _, _ => false
termination_by structural x => x
end
end
end Ip
end

section
set_option linter.all false
set_option autoImplicit false
set_option maxHeartbeats 2000000
namespace Ip
open PySem PySem.Spec PyProof.Rows L2
variable [Tb]

/-! ### what is known of the program's top -/
structure CallOk (G : Cfg) (cl : Nat → List SV → RC) (P : Program) (w : World) (K : PySem.W.Frag) (mg : Str → Option Value) (base : Heap) (CX : CXT) (k f : Nat) (x : Str) : Prop where
  ex : ∀ fd, G.fns[f]? = some fd → ∃ (fa : Addr) (fdt : FuncData) (ps : List Str), FnOk P w K mg base CX (3 * k) fa fdt ps (spI K fd.n (bwOf fd.asg) (cl f)) ∧ mg x = some (.ref fa) ∧ PySem.W.keepIn K (.ref fa) = true ∧ fd.defs.all scalD = true ∧
    ∀ nargs, nargs ≤ fd.n → fd.n ≤ nargs + fd.defs.length → ∃ ds, Binds K fdt ps ds ∧ Vals ((fd.defs.drop (nargs + fd.defs.length - fd.n)).map scalV) ds
/-- a class of exceptions -/
structure ExOk (P : Program) (w : World) (K : PySem.W.Frag) (mg : Str → Option Value) (base : Heap) (CX : CXT) (c : Nat) (x : Str) : Prop where
  ex : ∃ (C fI : Addr) (fdt : FuncData) (ps : List Str) (f : Str), mg x = some (.ref C) ∧ Tb.X[c]? = some (C, f) ∧ OexE K C ∧ PySem.W.findIn K (.ref C) "__init__" = some (some (.ref fI)) ∧ PySem.W.typeIn K (.ref fI) = some (.type "function") ∧
    FnOk P w K mg base CX 1 fI fdt ps (spInit K f) ∧ Binds K fdt ps [] ∧ PySem.W.findIn K (.ref C) f = some none
/-- the laws' own try -/
structure TlOk (G : Cfg) (K : PySem.W.Frag) (mg : Str → Option Value) (x : Str) : Prop where
  ex : ∃ (a f exS : Str) (g C : Addr) (pg : Arguments) (bg : List Stmt) (sg : Scope) (dV kV doc pm cdv ct oc : Value) (an od : Option Addr) (osl : Array (Option Value)) (Ng : List Str),
    mg x = some (.ref g) ∧ PySem.W.keepIn K (.ref g) = true ∧ K.lookup g = some ⟨oc, od, .func (PySem.W.fnOf x x pg bg sg dV kV doc pm an cdv ct), osl⟩ ∧ PySem.W.codeIn K cdv x = true ∧ L2.Binds K (PySem.W.fnOf x x pg bg sg dV kV doc pm an cdv ct) [a] [] ∧ FnScope Ng [a] sg ∧ Ng[0]? = some a ∧
    (∀ (X : Cx) (q : Str), X.K = K → X.mg = mg → LamX.GivesTo X Ng x sg g cdv bg a q (TTry C f (txt valS) exS)) ∧ (a == ("__debug__" : Str)) = false ∧ (a == ("__classdict__" : Str)) = false ∧
    ∀ (i : Nat) (s : List Nat), G.exn[i]? = some s → Tb.X[i]? = some (C, f) ∧ txt s = exS ∧ TxtOk s
structure GF (M : NM) (G : Cfg) (cl : Nat → List SV → RC) (P : Program) (w : World) (K : PySem.W.Frag) (mg : Str → Option Value) (base : Heap) (CX : CXT) (k : Nat) : Prop where
  free : ∀ x : Str, x ∈ M.free → mg x = none
  glb : ∀ (n : Nat) (x : Str) (d : D), M.glb[n]? = some x → G.consts[n]? = some d → ∃ u v, mg x = some u ∧ RelV v u ∧ ∀ F, RelD K F d v
  gcd : ∀ x : Str, M.gcd = some x → mg x = some (.builtin "math.gcd")
  calls : ∀ (f : Nat) (x : Str), M.fn[f]? = some x → CallOk G cl P w K mg base CX k f x
  cx : ∀ outer H s e s', CX outer H s (fun _ _ _ => False) e s' → False
  cxe : CX = L2.CX P w
  exs : ∀ (c : Nat) (x : Str), M.exn[c]? = some x → ExOk P w K mg base CX c x
  tld : ∀ x : Str, M.told = some x → TlOk G K mg x
structure Gd (M : NM) (G : Cfg) (cl : Nat → List SV → RC) (k : Nat) (CX : CXT) (Γ : Ctx) (X : Cx) (Wx : L2.WX) : Prop where
  gf : GF M G cl X.prog X.w X.K X.mg X.base CX k
  room : Room (3 * k + if Γ.st then 2 else 0) X.A
  sc : X.env.scope = Γ.sc
  N : X.N = Γ.N
  nd : Γ.N.Nodup
  calm : X.calm = true
  fn : ∀ x : Str, Γ.fns x = true → X.fn x = true
  pass : PassesOwn (model X.prog X.w) X.A X.env X.xe
  tk : Takes X Wx
  lam : Γ.lam = true → ∃ c P, LamX.TabB X.base X.mg c P ∧ X.env.code = .ref c ∧ (P, X.env.qual ++ "<lambda>") ∈ Tb.T ∧ ∀ p ∈ Tb.T, p.1 = P → p.2 = X.env.qual ++ "<lambda>"
section
variable {M : NM} {G : Cfg} {cl : Nat → List SV → RC} {k : Nat} {CX : CXT} {Γ : Ctx} {X : Cx} {Wx : L2.WX}
theorem Gd.thr (g : Gd M G cl k CX Γ X Wx) (σ : L2.St) : PassesAt CX X σ (WE Wx σ) := by
  have := passAt g.tk σ
  rw [← g.gf.cxe] at this
  exact this
theorem Gd.rm (g : Gd M G cl k CX Γ X Wx) : Room (3 * k) X.A := g.room.mono (by omega)
theorem Gd.rm2 (g : Gd M G cl k CX Γ X Wx) (h : Γ.st = true) : Room (3 * k + 2) X.A := by
  have := g.room
  rw [h] at this
  exact this
theorem Gd.units (g : Gd M G cl k CX Γ X Wx) : X.A.units + 65 < cLine := by have := g.room.un; omega
theorem Gd.blk (g : Gd M G cl k CX Γ X Wx) (scope : Scope) (own : List Nat) (s : Shared) (H : Hp) (C : Addr) (cc : List (Str × Addr)) (fp : List Addr) : Gd M G cl k CX (inner Γ scope own) (X.blk s H scope (compEnvC scope cc C X.env) fp) WF where
  gf := g.gf
  room := g.room.mono (by show 3 * k + 0 ≤ _; omega)
  sc := by
    show relS scope X.env.scope = relS scope Γ.sc
    rw [g.sc]
  N := g.N
  nd := g.nd
  calm := g.calm
  fn := fun x h => h
  pass := PassesOwn.never
  tk := LamX.takes0
  lam := fun h => by cases (show false = true from h)
theorem vis_ok {sc : Scope} {x : Str} (h : visB sc x = true) : Vis sc x := by
  unfold visB at h
  unfold Vis
  cases q : sc.names.lookup x with
  | none => rw [q] at h; cases h
  | some y => rw [q] at h; cases y <;> first | (cases h; done) | simp
theorem glob_ok (g : Gd M G cl k CX Γ X Wx) {x : Str} (h : globB Γ.sc x = true) : Gl X x := by
  have h : Γ.sc.names.lookup x = some .globalImplicit := of_decide_eq_true h
  show X.env.scope.names.lookup x = _
  rw [g.sc]
  exact h
theorem free_ok (g : Gd M G cl k CX Γ X Wx) {x y : Str} (h : freeB M Γ.sc x y = true) : x = y ∧ Gl X y ∧ X.mg y = none := by
  unfold freeB at h
  simp only [Bool.and_eq_true] at h
  obtain ⟨⟨h1, h2⟩, h3⟩ := h
  have e : x = y := of_decide_eq_true h1
  subst e
  exact ⟨rfl, glob_ok g h2, g.gf.free x (by simpa using h3)⟩
theorem name_ok {x : Str} (h : nameB x = true) : (x == ("__debug__" : Str)) = false ∧ (x == ("__classdict__" : Str)) = false ∧ x ≠ "__name__" := by
  unfold nameB eqS at h
  simp only [Bool.and_eq_true, Bool.not_eq_true'] at h
  exact ⟨h.1.1, h.1.2, of_decide_eq_false h.2⟩
theorem loc_ok (g : Gd M G cl k CX Γ X Wx) {x : Str} (h : locB Γ x = true) : L2.Loc X.env.scope x ∧ (X.fn x = true ∨ X.env.scope.names.lookup x = some .local) := by
  unfold locB at h
  rw [g.sc]
  unfold L2.Loc
  cases q : Γ.sc.names.lookup x with
  | none => rw [q] at h; cases h
  | some y =>
    rw [q] at h
    cases y <;> first | (cases h; done) | skip
    · exact ⟨.inl rfl, .inr rfl⟩
    · exact ⟨.inr rfl, .inl (g.fn x h)⟩
theorem and2 {a b : Bool} (h : (a && b) = true) : a = true ∧ b = true := Bool.and_eq_true_iff.mp h
/-- an expression is what the interpreter runs: as a value, as a test -/
def isBool : Expr → Bool
  | .BoolOp _ _ _ => true
  | _ => false
structure PP (X : Cx) (Wx : L2.WX) (e : Expr) (m : Env → R W) : Prop where
  pe : PE X e (tI X.K Wx m)
  pt : PT X e (tT X.K Wx m)
  pw : isBool e = true → PW X e (tT X.K Wx m)
theorem PP.plain {e : Expr} {m : Env → R W} (h : PE X e (tI X.K Wx m)) (p : plainT e = true) : PP X Wx e m := by
  refine ⟨h, T_val h fun whole => ?_, fun b => ?_⟩
  · cases e <;> first | rfl | (cases p; done) | skip
    rename_i op _ _
    cases op <;> first | rfl | (cases p; done)
  · cases e <;> first | (cases b; done) | cases p
theorem eval_one {op : BoolOp} {a : Expr} {pos : Pos} {env : PySem.Env} : eval (.BoolOp op [a] pos) env = eval a env := rfl
theorem PP.one {op : BoolOp} {a : Expr} {pos : Pos} {m : Env → R W} (h : PP X Wx a m) : PE X (.BoolOp op [a] pos) (tI X.K Wx m) ∧ PW X (.BoolOp op [a] pos) (tT X.K Wx m) := by
  refine ⟨⟨fun pins s σ H Q I q => ?_⟩, ?_⟩
  · rw [eval_one]
    exact h.pe.run pins s σ H Q I q
  · cases op
    · exact T_and1 h.pt
    · exact T_or1 h.pt
/-- the rest of an and, an or -/
theorem PP.rest {op : BoolOp} {y : Expr} {r : List Expr} {p : Pos} {m : Env → R W} (h : PP X Wx (restB op y r p) m) : PE X (.BoolOp op (y :: r) p) (tI X.K Wx m) ∧ PW X (.BoolOp op (y :: r) p) (tT X.K Wx m) := by
  cases r with
  | nil => exact PP.one h
  | cons z r => exact ⟨h.pe, h.pw rfl⟩
theorem T_ite {c a b : Expr} {pos : Pos} {mc ma mb : Env → R W} (hc : PT X c (tT X.K Wx mc)) (ha : PT X a (tT X.K Wx ma)) (hb : PT X b (tT X.K Wx mb)) : PT X (.IfExp c a b pos) (tT X.K Wx fun e => (mc e).bind fun x e => match (see e x).bind truD with
    | some true => ma e
    | some false => mb e
    | none => .no) := by
  refine ⟨fun pins s σ H Q I ⟨e, w, hw, ok, h⟩ => ?_⟩
  subst hw
  have h : PR X.K Wx σ w ((tst mc e).bind fun b e => if b then tst ma e else tst mb e) fun b e' => ∀ w', Ok X.K e' σ w' → Go w w' [] → Q b w'.H := by
    refine cast ?_ h
    congr 1
    rw [tst_bind]
    unfold tst
    dsimp only
    cases mc e with
    | no => rfl
    | exc x e1 => rfl
    | ok x e1 =>
      simp only [R.bind]
      cases (see e1 x).bind truD with
      | none => rfl
      | some b => cases b <;> rfl
  have key := hc.run pins s σ w.H _ I (tT_run (Q := fun b H1 => if b = true then tT X.K Wx ma σ H1 Q else tT X.K Wx mb σ H1 Q) ok .refl .nil h fun b e1 w1 ok1 s1 g1 go1 h1 => by
    cases b with
    | true => rw [if_pos rfl] at h1; exact tT_end ok1 g1 h1
    | false => rw [if_neg (by simp)] at h1; exact tT_end ok1 g1 h1)
  show wpAny _ _ (PySem.isTrue (.IfExp c a b pos) X.env _) _ _ _
  rw [PySem.isTrue]
  refine wpAny_bind (thn key fun b s1 ⟨H1, I1, q1⟩ => ?_)
  cases b with
  | true => exact ha.run pins s1 σ H1 Q I1 q1
  | false => exact hb.run pins s1 σ H1 Q I1 q1
end
end Ip
end

section
set_option linter.all false
set_option autoImplicit false
set_option maxHeartbeats 4000000
namespace Ip
open PySem PySem.Spec PyProof.Rows L2
variable [Tb]

section
variable {M : NM} {G : Cfg} {cl : Nat → List SV → RC} {k : Nat} {CX : CXT}
theorem evalEs_len : ∀ (cs : List CE) {e : Env} {xs : List W} {e' : Env}, evalEs G cl cs e = .ok xs e' → xs.length = cs.length
  | [], e, xs, e', h => by
    rw [evalEs] at h
    cases h
    rfl
  | c :: cs, e, xs, e', h => by
    rw [evalEs] at h
    obtain ⟨w, e1, _, h⟩ := bind_ok h
    obtain ⟨ws, e2, h2, h⟩ := bind_ok h
    cases h
    simp [evalEs_len cs h2]
theorem chkEs_len : ∀ {cs : List CE} {Γ : Ctx} {es : List Expr}, chkEs M G cs Γ es = true → cs.length = es.length
  | [], Γ, [], h => rfl
  | c :: cs, Γ, e :: es, h => by
    rw [chkEs] at h
    exact congrArg (· + 1) (chkEs_len (and2 h).2)
  | [], Γ, _ :: _, h => by have h : false = true := h; cases h
  | _ :: _, Γ, [], h => by have h : false = true := h; cases h
theorem chkGs_len : ∀ {ts : List Tg} {Γ : Ctx} {es : List Expr}, chkGs M G ts Γ es = true → ts.length = es.length
  | [], Γ, [], h => rfl
  | c :: cs, Γ, e :: es, h => by
    rw [chkGs] at h
    exact congrArg (· + 1) (chkGs_len (and2 h).2)
  | [], Γ, _ :: _, h => by have h : false = true := h; cases h
  | _ :: _, Γ, [], h => by have h : false = true := h; cases h
theorem chkGs_plain : ∀ {ts : List Tg} {Γ : Ctx} {es : List Expr}, chkGs M G ts Γ es = true → ∀ e ∈ es, plainArg e = true
  | [], Γ, [], h => fun e he => nomatch he
  | c :: cs, Γ, e :: es, h => by
    rw [chkGs] at h
    obtain ⟨h1, h2⟩ := and2 h
    intro z hz
    rcases List.mem_cons.mp hz with rfl | hz
    · exact (and2 h1).1
    · exact chkGs_plain h2 z hz
  | [], Γ, _ :: _, h => by have h : false = true := h; cases h
  | _ :: _, Γ, [], h => by have h : false = true := h; cases h
theorem star_all : ∀ {es : List Expr} {env : PySem.Env}, (∀ e ∈ es, plainArg e = true) → (starEach es env).any (·.1) = false
  | [], env, h => rfl
  | e :: es, env, h => by
    rw [star_plain (h e (by simp))]
    simp only [List.any_cons, Bool.false_or]
    exact star_all fun z hz => h z (by simp [hz])
theorem back_any {pos : Pos} {ts : List (Bool × Sem Value)} (h : ts.any (·.1) = false) : (backTo pos ts).any (·.1) = false := by
  unfold backTo
  rw [List.any_map]
  exact h
theorem chkEs_plain : ∀ {cs : List CE} {Γ : Ctx} {es : List Expr}, chkEs M G cs Γ es = true → ∀ e ∈ es, plainArg e = true
  | [], Γ, [], h => fun e he => nomatch he
  | c :: cs, Γ, e :: es, h => by
    rw [chkEs] at h
    obtain ⟨h1, h2⟩ := and2 h
    intro z hz
    rcases List.mem_cons.mp hz with rfl | hz
    · exact (and2 h1).1
    · exact chkEs_plain h2 z hz
  | [], Γ, _ :: _, h => by have h : false = true := h; cases h
  | _ :: _, Γ, [], h => by have h : false = true := h; cases h
theorem ass_plain {e : Expr} {es : List Expr} {env : PySem.Env} (h : plainArg e = true) : assignEach (e :: es) env = (false, PySem.assign e env) :: assignEach es env := by
  cases e <;> first | rfl | cases h
theorem ass_none : ∀ {es : List Expr} {env : PySem.Env}, (∀ e ∈ es, plainArg e = true) → (assignEach es env).findIdx? (·.1) = none
  | [], env, h => rfl
  | e :: es, env, h => by
    rw [ass_plain (h e (by simp))]
    have := ass_none (es := es) (env := env) fun z hz => h z (by simp [hz])
    simp [List.findIdx?_cons, this]
theorem ass_len : ∀ {es : List Expr} {env : PySem.Env}, (assignEach es env).length = es.length
  | [], env => rfl
  | e :: es, env => by
    have := ass_len (es := es) (env := env)
    cases e <;> (show _ + 1 = _ + 1; rw [this]) 
theorem noSet_ok {e : Expr} (h : noSet e = true) (env : PySem.Env) (x : Value) : foldedSetIterable e env x = pure x := by
  cases e <;> first | rfl | cases h
theorem noCall_ok {o : Expr} {name : Str} {env : PySem.Env} (h : noCall o = true) : attributeBase o name env (eval o env) = eval o env := by
  cases o <;> first | rfl | cases h
theorem noSlice_ix {b : Expr} (h : noSlice b = true) : PlainIx b := by
  refine plainIx_of ?_
  cases b <;> first | rfl | cases h
theorem noSlice_as {a b : Expr} {pos : Pos} {env : PySem.Env} (h : noSlice b = true) (v : Value) : PySem.assign (.Subscript a b pos) env v = (do
      let ov ← holding [v] (eval a env)
      let iv ← holding [v, ov] (eval b env)
      standAt pos
      holding [v, ov, iv] (setItem ov iv v)
      release [v, ov, iv] []) := by
  cases b <;> first | rfl | cases h
theorem own_snd (N : List Str) (own : List Nat) : (ownOf N own).map (·.2) = own := by
  unfold ownOf
  rw [List.map_map]
  exact List.map_id'' (fun _ => rfl) own
theorem blk_ok {N : List Str} {sc scope : Scope} {own : List Nat} (h : blkB N sc scope own = true) : BlkOk N sc scope (ownOf N own) := by
  unfold blkB at h
  simp only [Bool.and_eq_true, List.all_eq_true] at h
  obtain ⟨⟨⟨h1, h2⟩, h3⟩, h4⟩ := h
  refine ⟨of_decide_eq_true h1, fun y hy => of_decide_eq_true (h2 y hy), fun p hp => ?_, fun y hy e => ?_, fun y hy e => ?_⟩
  · unfold ownOf at hp
    obtain ⟨i, hi, rfl⟩ := List.mem_map.mp hp
    have := of_decide_eq_true (h3 i hi)
    rw [List.getElem?_eq_getElem this]
    simp [List.getD_eq_getElem?_getD, List.getElem?_eq_getElem this]
  · have := h4 y hy
    rw [e] at this
    dsimp only at this
    cases q : sc.names.lookup y.1 with
    | none => rw [q] at this; cases this
    | some z => rw [q] at this; cases z <;> first | (cases this; done) | simp
  · have := h4 y hy
    have this : ((ownOf N own).any (fun p => eqS p.1 y.1) || !(N.any fun z => eqS z y.1)) = true := by
      rcases e with e | e <;> (rw [e] at this; exact this)
    rw [Bool.or_eq_true] at this
    rcases this with this | this
    · obtain ⟨p, hp, hq⟩ := List.any_eq_true.mp this
      exact .inl (List.mem_map.mpr ⟨p, hp, of_decide_eq_true hq⟩)
    · refine .inr fun hm => ?_
      rw [Bool.not_eq_true'] at this
      have := List.any_eq_false.mp this y.1 hm
      exact this (decide_eq_true rfl)
theorem cst_ok {X : Cx} {Wx : L2.WX} {c : Const} {n : Nat} {x : D} {pos : Pos} (h : cstB c x = true) : PE X (.Constant c n pos) (tI X.K Wx fun e => .ok (.v (.d x)) e) := by
  unfold cstB at h
  split at h
  · exact I_cst pe_non fun F => by unfold RelD; rfl
  · rename_i b c
    have : b = c := eq_of_beq h
    subst this
    exact I_cst pe_bl fun F => by unfold RelD; rfl
  · rename_i i j
    have : i = j := of_decide_eq_true h
    subst this
    exact I_cst pe_int fun F => by unfold RelD; rfl
  · rename_i s y
    obtain ⟨h1, h2⟩ := and2 h
    have : s = txt y := of_decide_eq_true h1
    subst this
    exact I_cst pe_str fun F => scal_rel h2
  · cases h
theorem ty_ok {X : Cx} {Wx : L2.WX} {Γ : Ctx} (g : Gd M G cl k CX Γ X Wx) {t : Ty} {T : Str} (h : tyB M Γ.sc t T = true) : Gl X T ∧ X.mg T = none ∧ bootBuiltins T = some (.type (tyStr t)) ∧ T ≠ "__name__" ∧ (T == ("__debug__" : Str)) = false ∧ ∀ c, t ≠ .cls c := by
  unfold tyB at h
  obtain ⟨h1, h2⟩ := and2 h
  obtain ⟨h0, h1⟩ := and2 h1
  refine ⟨glob_ok g h1, g.gf.free T (by simpa using h2), ?_⟩
  cases t <;> first | (cases h0; done) | skip
  · have : T = "int" := of_decide_eq_true h0
    subst this
    exact ⟨boot_int, by decide, by decide, fun c h => by cases h⟩
  · have : T = "bool" := of_decide_eq_true h0
    subst this
    exact ⟨boot_bool, by decide, by decide, fun c h => by cases h⟩
  · have : T = "str" := of_decide_eq_true h0
    subst this
    exact ⟨boot_str, by decide, by decide, fun c h => by cases h⟩
  · have : T = "tuple" := of_decide_eq_true h0
    subst this
    exact ⟨boot_tuple, by decide, by decide, fun c h => by cases h⟩
  · have : T = "list" := of_decide_eq_true h0
    subst this
    exact ⟨boot_list, by decide, by decide, fun c h => by cases h⟩
end
end Ip
end

section
set_option linter.all false
set_option autoImplicit false
set_option maxHeartbeats 4000000
namespace Ip
open PySem PySem.Spec PyProof.Rows L2
variable [Tb]

section
variable {M : NM} {G : Cfg} {cl : Nat → List SV → RC} {k : Nat} {CX : CXT}
theorem lam_bind {q : Str} {body : Expr} {scope : Scope} {cl : List (Str × Addr)} {pm cv ctv : Value} : bindArgs (PySem.W.kla_fn "<lambda>" q ⟨[], [], none, [], [], none, []⟩ body scope cl pm cv ctv) ⟨[], []⟩ = pure [] := by
  rfl
theorem Gd.lamGd {Γ : Ctx} {X : Cx} {Wx : L2.WX} (g : Gd M G cl k CX Γ X Wx) {A : Around} {outer : List PySem.Env} {s : Shared} {H : Hp} {E : XK} {scope : Scope} {fa c' : Addr} (hr : Room (3 * k) (A.deeper (LamX.lamEnv X scope s.heap.objs.size fa c'))) :
    Gd M G cl k CX (lamC Γ scope) (LamX.lamCx X A outer s H E scope fa c') (fun cls d _ H => E cls d H) where
  gf := g.gf
  room := hr
  sc := rfl
  N := g.N
  nd := g.nd
  calm := rfl
  fn := fun x h => by cases (show false = true from h)
  pass := L2.passes_of (K := fun e s'' => L2.CX X.prog X.w outer H s E e s'') rfl
  tk := takes_of rfl rfl rfl rfl
  lam := fun h => by cases (show false = true from h)
mutual
theorem chkE_ok : ∀ (ce : CE) {Γ : Ctx} {X : Cx} {Wx : L2.WX} {e : Expr}, Gd M G cl k CX Γ X Wx → chkE M G ce Γ e = true → PP X Wx e (evalE G cl ce)
  | .cst x, Γ, X, Wx, e, g, h => by
    unfold chkE at h
    split at h
    · exact .plain (cst_ok h) rfl
    · cases h
  | .var i, Γ, X, Wx, e, g, h => by
    unfold chkE at h
    split at h
    · obtain ⟨h1, h3⟩ := and2 h
      obtain ⟨h1, h2⟩ := and2 h1
      obtain ⟨n1, n2, n3⟩ := name_ok h3
      exact .plain (I_var (by rw [g.N]; exact atS_ok h1) (by rw [g.sc]; exact vis_ok h2) n1 n2) rfl
    · cases h
  | .glb n, Γ, X, Wx, e, g, h => by
    unfold chkE at h
    split at h
    · rename_i x pos
      obtain ⟨h1, h3⟩ := and2 h
      obtain ⟨h1, h2⟩ := and2 h1
      obtain ⟨n1, n2, n3⟩ := name_ok h3
      refine .plain ?_ rfl
      cases q : G.consts[n]? with
      | none =>
        refine ⟨fun pins s σ H Q I h => ?_⟩
        obtain ⟨e, w, _, _, h⟩ := h
        rw [evalE, q] at h
        exact h.elim
      | some d =>
        obtain ⟨u, v, m1, m2, m3⟩ := g.gf.glb n x d (atS_ok h1) q
        refine PE.imp (pe_glob (glob_ok g h2) m1 m2 n1) fun σ H Q ⟨e, w, hw, ok, h⟩ => ?_
        subst hw
        rw [evalE, q] at h
        exact h w v [] ok ⟨⟨m3 _, rfl⟩, by simp⟩ .nil .refl
    · cases h
  | .tup es, Γ, X, Wx, e, g, h => by
    unfold chkE at h
    split at h
    · obtain ⟨h1, h2⟩ := and2 h
      exact .plain (I_tup (chkEs_ok es g h2) (of_decide_eq_true h1) fun e xs e' q => (evalEs_len es q).trans (chkEs_len h2)) rfl
    · cases h
  | .lst es, Γ, X, Wx, e, g, h => by
    unfold chkE at h
    split at h
    · obtain ⟨h1, h2⟩ := and2 h
      exact .plain (I_lst (chkEs_ok es g h2) (of_decide_eq_true h1) fun e xs e' q => (evalEs_len es q).trans (chkEs_len h2)) rfl
    · cases h
  | .dct [], Γ, X, Wx, e, g, h => by
    unfold chkE at h
    split at h
    · exact .plain I_dnew rfl
    · cases h
  | .dct [(k, v)], Γ, X, Wx, e, g, h => by
    unfold chkE at h
    split at h
    · obtain ⟨h1, h2⟩ := and2 h
      exact .plain (I_disp (chkE_ok k g h1).pe (chkE_ok v g h2).pe) rfl
    · cases h
  | .dct (_ :: _ :: _), Γ, X, Wx, e, g, h => by unfold chkE at h; cases h
  | .bin op a b, Γ, X, Wx, e, g, h => by
    unfold chkE at h
    split at h
    · obtain ⟨h1, h3⟩ := and2 h
      obtain ⟨h1, h2⟩ := and2 h1
      have := of_decide_eq_true h1
      subst this
      exact .plain (I_bin (chkE_ok a g h2).pe (chkE_ok b g h3).pe) rfl
    · cases h
  | .neg a, Γ, X, Wx, e, g, h => by
    unfold chkE at h
    split at h
    · obtain ⟨h1, h2⟩ := and2 h
      have := of_decide_eq_true h1
      subst this
      exact .plain (I_neg (chkE_ok a g h2).pe) rfl
    · cases h
  | .not a, Γ, X, Wx, e, g, h => by
    unfold chkE at h
    split at h
    · obtain ⟨h1, h2⟩ := and2 h
      have := of_decide_eq_true h1
      subst this
      exact ⟨I_not (chkE_ok a g h2).pe, T_not (chkE_ok a g h2).pt, fun b => by cases b⟩
    · cases h
  | .cmp op a b, Γ, X, Wx, e, g, h => by
    unfold chkE at h
    split at h
    · obtain ⟨h1, h4⟩ := and2 h
      obtain ⟨h1, h3⟩ := and2 h1
      obtain ⟨h1, h2⟩ := and2 h1
      have := of_decide_eq_true h1
      subst this
      have h2 := (Bool.not_eq_true' _).mp h2
      exact ⟨I_cmp g.units (chkE_ok a g h3).pe (chkE_ok b g h4).pe h2, T_cmp g.units (chkE_ok a g h3).pe (chkE_ok b g h4).pe h2, fun b => by cases b⟩
    · cases h
  | .cmp2 op1 op2 a b c, Γ, X, Wx, e, g, h => by
    unfold chkE at h
    split at h
    · obtain ⟨h1, h6⟩ := and2 h
      obtain ⟨h1, h5⟩ := and2 h1
      obtain ⟨h1, h4⟩ := and2 h1
      obtain ⟨h1, h3⟩ := and2 h1
      obtain ⟨h1, h2⟩ := and2 h1
      have := of_decide_eq_true h1
      subst this
      have := of_decide_eq_true h2
      subst this
      have h3 := (Bool.not_eq_true' _).mp h3
      exact ⟨I_cmp2 g.units (chkE_ok a g h4).pe (chkE_ok b g h5).pe (chkE_ok c g h6).pe h3, T_cmp2 g.units (chkE_ok a g h4).pe (chkE_ok b g h5).pe (chkE_ok c g h6).pe h3, fun b => by cases b⟩
    · cases h
  | .and a b, Γ, X, Wx, e, g, h => by
    unfold chkE at h
    split at h
    · obtain ⟨h1, h3⟩ := and2 h
      obtain ⟨h1, h2⟩ := and2 h1
      have := of_decide_eq_true h1
      subst this
      obtain ⟨r1, r2⟩ := (chkE_ok b g h3).rest
      exact ⟨I_and (chkE_ok a g h2).pe r1, (T_and (chkE_ok a g h2).pt r2).pt, fun _ => T_and (chkE_ok a g h2).pt r2⟩
    · cases h
  | .or a b, Γ, X, Wx, e, g, h => by
    unfold chkE at h
    split at h
    · obtain ⟨h1, h3⟩ := and2 h
      obtain ⟨h1, h2⟩ := and2 h1
      have := of_decide_eq_true h1
      subst this
      obtain ⟨r1, r2⟩ := (chkE_ok b g h3).rest
      exact ⟨I_or (chkE_ok a g h2).pe r1, (T_or (chkE_ok a g h2).pt r2).pt, fun _ => T_or (chkE_ok a g h2).pt r2⟩
    · cases h
  | .ite c a b, Γ, X, Wx, e, g, h => by
    unfold chkE at h
    split at h
    · obtain ⟨h1, h3⟩ := and2 h
      obtain ⟨h1, h2⟩ := and2 h1
      exact ⟨I_ite (chkE_ok c g h1).pt (chkE_ok a g h2).pe (chkE_ok b g h3).pe, T_ite (chkE_ok c g h1).pt (chkE_ok a g h2).pt (chkE_ok b g h3).pt, fun b => by cases b⟩
    · cases h
  | .idx a i, Γ, X, Wx, e, g, h => by
    unfold chkE at h
    split at h
    · obtain ⟨h1, h3⟩ := and2 h
      obtain ⟨h1, h2⟩ := and2 h1
      exact .plain (I_idx g.units (chkE_ok a g h2).pe (chkE_ok i g h3).pe (noSlice_ix h1)) rfl
    · cases h
  | .slc a lo hi, Γ, X, Wx, e, g, h => by
    unfold chkE at h
    split at h
    · obtain ⟨h1, h3⟩ := and2 h
      obtain ⟨h1, h2⟩ := and2 h1
      exact .plain (I_slc (chkE_ok a g h1).pe (chkO_ok lo g h2) (chkO_ok hi g h3)) rfl
    · cases h
  | .rev a, Γ, X, Wx, e, g, h => by
    unfold chkE at h
    split at h
    · obtain ⟨h1, h3⟩ := and2 h
      obtain ⟨h1, h2⟩ := and2 h1
      have := of_decide_eq_true h1
      subst this
      have := of_decide_eq_true h2
      subst this
      exact .plain (I_rev (p4 := ⟨0, 0, 0, 0⟩) (chkE_ok a g h3).pe) rfl
    · cases h
  | .call f as, Γ, X, Wx, e, g, h => by
    unfold chkE at h
    split at h
    · rename_i x p a es pos
      obtain ⟨h1, h5⟩ := and2 h
      obtain ⟨h1, h4⟩ := and2 h1
      obtain ⟨h1, h3⟩ := and2 h1
      obtain ⟨h1, h2⟩ := and2 h1
      obtain ⟨n1, n2, n3⟩ := name_ok h3
      refine .plain ?_ rfl
      have hc := g.gf.calls f x (atS_ok h1)
      have ha := chkEs_ok as g h5
      have pl := chkEs_plain h5
      unfold arB at h4
      cases q : G.fns[f]? with
      | none => rw [q] at h4; cases h4
      | some fd =>
        rw [q] at h4
        obtain ⟨a1, a2⟩ := and2 h4
        obtain ⟨fa, fdt, ps, F, mf, kf, sf, bf⟩ := hc.ex fd q
        obtain ⟨ds, b1, b2⟩ := bf as.length (of_decide_eq_true a1) (of_decide_eq_true a2)
        exact I_call q F g.rm (glob_ok g h2) mf kf sf b1 b2 g.thr ha (fun e xs e' q => evalEs_len as q) n1 (star_plain (pl a (by simp))) (back_any (star_all fun z hz => pl z (by simp [hz])))
    · rename_i x p pos
      obtain ⟨h1, h5⟩ := and2 h
      obtain ⟨h1, h4⟩ := and2 h1
      obtain ⟨h1, h3⟩ := and2 h1
      obtain ⟨h0, h2⟩ := and2 h1
      obtain ⟨n1, n2, n3⟩ := name_ok h4
      have e0 : as = [] := by cases as <;> first | rfl | cases h0
      subst e0
      refine .plain ?_ rfl
      have hc := g.gf.calls f x (atS_ok h2)
      unfold arB at h5
      cases q : G.fns[f]? with
      | none => rw [q] at h5; cases h5
      | some fd =>
        rw [q] at h5
        obtain ⟨a1, a2⟩ := and2 h5
        obtain ⟨fa, fdt, ps, F, mf, kf, sf, bf⟩ := hc.ex fd q
        obtain ⟨ds, b1, b2⟩ := bf 0 (of_decide_eq_true a1) (of_decide_eq_true a2)
        exact I_call0 q F g.rm (glob_ok g h3) mf kf sf b1 b2 g.thr n1
    · cases h
  | .new _ _, Γ, X, Wx, e, g, h => by unfold chkE at h; cases h
  | .bi f as, Γ, X, Wx, e, g, h => by
    unfold chkE at h
    split at h
    · rename_i x p a es pos
      obtain ⟨h1, h2⟩ := and2 h
      have ha := chkEs_ok as g h2
      have pl := chkEs_plain h2
      rcases (Bool.or_eq_true _ _).mp h1 with h1 | h1
      · obtain ⟨h4, h3⟩ := and2 h1
        obtain ⟨rfl, gl, mf⟩ := free_ok g h3
        exact .plain (I_bi g.calm (by have := g.units; omega) h4 gl mf ha (pl a (by simp)) (back_any (star_all fun z hz => pl z (by simp [hz])))) rfl
      · obtain ⟨h1, h5⟩ := and2 h1
        obtain ⟨h1, h4⟩ := and2 h1
        obtain ⟨h1, h3⟩ := and2 h1
        obtain ⟨n1, n2, n3⟩ := name_ok h5
        have := of_decide_eq_true h1
        subst this
        exact .plain (I_gcd (glob_ok g h4) (g.gf.gcd x (of_decide_eq_true h3)) n1 ha (pl a (by simp)) (back_any (star_all fun z hz => pl z (by simp [hz])))) rfl
    · cases h
  | .isin a ts, Γ, X, Wx, e, g, h => by
    unfold chkE at h
    split at h
    · obtain ⟨h1, h4⟩ := and2 h
      obtain ⟨h1, h3⟩ := and2 h1
      obtain ⟨h1, h2⟩ := and2 h1
      obtain ⟨rfl, gl, mf⟩ := free_ok g h1
      split at h4
      · obtain ⟨t1, t2, t3, t4, t5, t6⟩ := ty_ok g h4
        exact .plain (I_isin gl mf t1 t2 t3 t4 t5 t6 (chkE_ok a g h3).pe h2) rfl
      · cases h4
    · obtain ⟨h1, h4⟩ := and2 h
      obtain ⟨h1, h3⟩ := and2 h1
      obtain ⟨h1, h2⟩ := and2 h1
      obtain ⟨rfl, gl, mf⟩ := free_ok g h1
      split at h4
      · obtain ⟨h4, h5⟩ := and2 h4
        obtain ⟨t1, t2, t3, t4, t5, t6⟩ := ty_ok g h4
        obtain ⟨u1, u2, u3, u4, u5, u6⟩ := ty_ok g h5
        exact .plain (I_isin2 gl mf t1 t2 t3 t4 t5 t6 u1 u2 u3 u4 u5 u6 (chkE_ok a g h3).pe h2) rfl
      · cases h4
    · cases h
  | .meth m o as, Γ, X, Wx, e, g, h => by
    unfold chkE at h
    split at h
    · obtain ⟨h1, h7⟩ := and2 h
      obtain ⟨h1, h6⟩ := and2 h1
      obtain ⟨h1, h5⟩ := and2 h1
      obtain ⟨h1, h4⟩ := and2 h1
      obtain ⟨h1, h3⟩ := and2 h1
      cases m <;> first | (cases h1; done) | skip
      all_goals (have := of_decide_eq_true h1; subst this)
      · exact .plain (I_append (chkE_ok o g h6).pe (chkEs_ok as g h7) (noCall_ok h3) h4 h5 as) rfl
      · exact .plain (I_index (chkE_ok o g h6).pe (chkEs_ok as g h7) (noCall_ok h3) h4 h5 as) rfl
    · obtain ⟨h1, h7⟩ := and2 h
      obtain ⟨h1, h6⟩ := and2 h1
      obtain ⟨h1, h5⟩ := and2 h1
      obtain ⟨h1, h4⟩ := and2 h1
      obtain ⟨h1, h3⟩ := and2 h1
      obtain ⟨h1, h2⟩ := and2 h1
      obtain ⟨h5, h8⟩ := and2 h5
      have := of_decide_eq_true h1
      subst this
      have := of_decide_eq_true h2
      subst this
      exact .plain (I_insert (chkE_ok o g h6).pe (chkEs_ok as g h7) (noCall_ok h3) h4 h5 h8 as) rfl
    · obtain ⟨h1, h6⟩ := and2 h
      obtain ⟨h1, h5⟩ := and2 h1
      obtain ⟨h1, h4⟩ := and2 h1
      obtain ⟨h1, h3⟩ := and2 h1
      obtain ⟨h1, h2⟩ := and2 h1
      have := of_decide_eq_true h1
      subst this
      have := of_decide_eq_true h2
      subst this
      have hl := chkEs_len h6
      have : as = [] := by cases as <;> first | rfl | (simp at hl; done)
      subst this
      exact .plain (I_pop (chkE_ok o g h5).pe (noCall_ok h3) h4 []) rfl
    · cases h
  | .omth _ _ _, Γ, X, Wx, e, g, h => by unfold chkE at h; cases h
  | .attr _ _, Γ, X, Wx, e, g, h => by unfold chkE at h; cases h
  | .comp own t it ifs elt, Γ, X, Wx, e, g, h => by
    unfold chkE at h
    split at h
    · rename_i elt' tg iter ifs' kk scope pos
      obtain ⟨h1, h7⟩ := and2 h
      obtain ⟨h1, h6⟩ := and2 h1
      obtain ⟨h1, h5⟩ := and2 h1
      obtain ⟨h1, h4⟩ := and2 h1
      obtain ⟨h1, h3⟩ := and2 h1
      obtain ⟨h1, h2⟩ := and2 h1
      have := of_decide_eq_true h1
      subst this
      have bo : BlkOk X.N X.env.scope scope (ownOf Γ.N own) := by rw [g.N, g.sc]; exact blk_ok h3
      have hbw : bwB X.N.length ((ownOf Γ.N own).map (·.2)) = (inner Γ scope own).bw := by rw [own_snd, g.N]; rfl
      have base := I_comp (own := ownOf Γ.N own) (mg := assign G cl t) (mt := tests G cl ifs) (me := evalE G cl elt) g.calm (by rw [g.N]; exact g.nd) (chkI_ok it g h4) bo (pos := pos)
        (fun s H C cc fp => by rw [hbw]; exact chkG_ok t (g.blk scope own s H C cc fp) h5)
        (fun s H C cc fp => chkIfs_ok ifs (g.blk scope own s H C cc fp) h6)
        (fun s H C cc fp => (chkE_ok elt (g.blk scope own s H C cc fp) h7).pe) (noSet_ok h2 X.env)
      rw [own_snd] at base
      exact .plain base rfl
    · cases h
  | .dcomp _ _ _ _ _ _, Γ, X, Wx, e, g, h => by
    refine ⟨⟨fun pins s σ H Q I ⟨e, w, _, _, h⟩ => ?_⟩, ⟨fun pins s σ H Q I ⟨e, w, _, _, h⟩ => ?_⟩, fun _ => ⟨fun wh pins s σ H Q I ⟨e, w, _, _, h⟩ => ?_⟩⟩
    · rw [evalE] at h; exact h.elim
    · unfold tst at h; rw [evalE] at h; exact h.elim
    · unfold tst at h; rw [evalE] at h; exact h.elim
  | .frz a, Γ, X, Wx, e, g, h => by
    unfold chkE at h
    obtain ⟨h1, h2⟩ := and2 h
    exact .plain (I_frz (chkE_ok a g h2).pe) h1
  | .lck i a, Γ, X, Wx, e, g, h => by
    unfold chkE at h
    obtain ⟨h1, h2⟩ := and2 h
    exact .plain (I_lck (chkE_ok a g h2).pe) h1
  | .told a, Γ, X, Wx, e, g, h => by
    unfold chkE at h
    split at h
    · rename_i x p body scope lpos pos
      obtain ⟨h1, h6⟩ := and2 h
      obtain ⟨h1, h5⟩ := and2 h1
      obtain ⟨h1, h4⟩ := and2 h1
      obtain ⟨h1, h3⟩ := and2 h1
      obtain ⟨h1, h2⟩ := and2 h1
      obtain ⟨n1, n2, n3⟩ := name_ok h3
      obtain ⟨pa, f, exS, gg, C, pg, bg, sg, dV, kV, doc, pm, cdv, ct, oc, an, od, osl, Ng, t1, t2, t3, t4, t5, t6, t7, t8, t9, t10, t11⟩ := (g.gf.tld x (of_decide_eq_true h1)).ex
      obtain ⟨h4, h7⟩ := and2 h4
      obtain ⟨c, P, TB, hcode, hmT, hu⟩ := g.lam h4
      have hroom := g.rm2 h7
      refine .plain ?_ rfl
      exact I_told (k := 3 * k) (glob_ok g h2) t1 t2 t3 t4 t5 t6 t7 (par_vis t6 (by simp)) (t8 X _ rfl rfl) TB hcode hmT hu hroom (by rw [g.sc]; exact LamX.lamS_by h5) rfl (fun q cl pm cv ctv => lam_bind)
        (fun A outer s H E fa c' hr => (chkE_ok a (g.lamGd hr) h6).pe) n1 t9 t10 t11
    · cases h
theorem chkEs_ok : ∀ (cs : List CE) {Γ : Ctx} {X : Cx} {Wx : L2.WX} {es : List Expr}, Gd M G cl k CX Γ X Wx → chkEs M G cs Γ es = true → PA X es (tIs X.K Wx (evalEs G cl cs))
  | [], Γ, X, Wx, [], g, h => I_nil
  | c :: cs, Γ, X, Wx, e :: es, g, h => by
    rw [chkEs] at h
    obtain ⟨h1, h3⟩ := and2 h
    obtain ⟨h1, h2⟩ := and2 h1
    exact I_cons (chkE_ok c g h2).pe (chkEs_ok cs g h3) h1
  | [], Γ, X, Wx, _ :: _, g, h => by have h : false = true := h; cases h
  | _ :: _, Γ, X, Wx, [], g, h => by have h : false = true := h; cases h
theorem chkO_ok : ∀ (cs : Option CE) {Γ : Ctx} {X : Cx} {Wx : L2.WX} {es : Option Expr}, Gd M G cl k CX Γ X Wx → chkO M G cs Γ es = true → PO X es (tO X.K Wx (evalO G cl cs))
  | none, Γ, X, Wx, none, g, h => I_oN
  | some c, Γ, X, Wx, some e, g, h => by
    rw [chkO] at h
    exact I_oS (chkE_ok c g h).pe
  | none, Γ, X, Wx, some _, g, h => by have h : false = true := h; cases h
  | some _, Γ, X, Wx, none, g, h => by have h : false = true := h; cases h
theorem chkIfs_ok : ∀ (cs : List CE) {Γ : Ctx} {X : Cx} {Wx : L2.WX} {es : List Expr}, Gd M G cl k CX Γ X Wx → chkIfs M G cs Γ es = true → PTs X es (tB X.K Wx (tests G cl cs))
  | [], Γ, X, Wx, [], g, h => B_nil
  | c :: cs, Γ, X, Wx, [e], g, h => by
    rw [chkIfs] at h
    obtain ⟨h1, h2⟩ := and2 h
    have : cs = [] := by cases cs <;> first | rfl | cases h1
    subst this
    exact B_one (chkE_ok c g h2).pt
  | [], Γ, X, Wx, _ :: _, g, h => by have h : false = true := h; cases h
  | _ :: _, Γ, X, Wx, [], g, h => by have h : false = true := h; cases h
  | _ :: _, Γ, X, Wx, _ :: _ :: _, g, h => by have h : false = true := h; cases h
theorem chkI_ok : ∀ (it : It) {Γ : Ctx} {X : Cx} {Wx : L2.WX} {tg e : Expr}, Gd M G cl k CX Γ X Wx → chkI M G it Γ tg e = true → PI X tg e (wI X.K Wx (evalI G cl it))
  | .e a, Γ, X, Wx, tg, e, g, h => by
    unfold chkI at h
    exact J_e (chkE_ok a g h).pe
  | .range as, Γ, X, Wx, tg, e, g, h => by
    unfold chkI at h
    split at h
    · obtain ⟨h1, h2⟩ := and2 h
      obtain ⟨rfl, gl, mf⟩ := free_ok g h1
      exact J_range1 gl mf (chkEs_plain h2 _ (by simp)) (chkEs_ok as g h2) fun e xs e' q => (evalEs_len as q).trans (chkEs_len h2)
    · obtain ⟨h1, h2⟩ := and2 h
      obtain ⟨rfl, gl, mf⟩ := free_ok g h1
      exact J_range2 gl mf (chkEs_plain h2 _ (by simp)) (chkEs_plain h2 _ (by simp)) (chkEs_ok as g h2) fun e xs e' q => (evalEs_len as q).trans (chkEs_len h2)
    · obtain ⟨h1, h2⟩ := and2 h
      obtain ⟨rfl, gl, mf⟩ := free_ok g h1
      exact J_range3 gl mf (chkEs_plain h2 _ (by simp)) (chkEs_plain h2 _ (by simp)) (chkEs_plain h2 _ (by simp)) (chkEs_ok as g h2) fun e xs e' q => (evalEs_len as q).trans (chkEs_len h2)
    · cases h
  | .revR _, Γ, X, Wx, tg, e, g, h => ⟨fun pins s σ H Q I ⟨e, w, _, _, h⟩ => by rw [evalI] at h; exact h.elim⟩
  | .rev a, Γ, X, Wx, tg, e, g, h => by
    unfold chkI at h
    split at h
    · obtain ⟨h1, h3⟩ := and2 h
      obtain ⟨h1, h2⟩ := and2 h1
      obtain ⟨rfl, gl, mf⟩ := free_ok g h1
      exact J_rev gl mf (chkE_ok a g h3).pe h2
    · cases h
  | .enum as, Γ, X, Wx, tg, e, g, h => by
    unfold chkI at h
    split at h
    · obtain ⟨h1, h2⟩ := and2 h
      obtain ⟨rfl, gl, mf⟩ := free_ok g h1
      exact J_enum gl mf (chkEs_ok as g h2) (chkEs_plain h2 _ (by simp))
    · cases h
  | .zip as, Γ, X, Wx, tg, e, g, h => by
    unfold chkI at h
    split at h
    · obtain ⟨h1, h2⟩ := and2 h
      obtain ⟨rfl, gl, mf⟩ := free_ok g h1
      exact J_zip gl mf (chkEs_ok as g h2) (chkEs_plain h2 _ (by simp)) (chkEs_plain h2 _ (by simp))
    · cases h
  | .items _, Γ, X, Wx, tg, e, g, h => ⟨fun pins s σ H Q I ⟨e, w, _, _, h⟩ => by rw [evalI] at h; exact h.elim⟩
  | .values _, Γ, X, Wx, tg, e, g, h => ⟨fun pins s σ H Q I ⟨e, w, _, _, h⟩ => by rw [evalI] at h; exact h.elim⟩
theorem chkG_ok : ∀ (t : Tg) {Γ : Ctx} {X : Cx} {Wx : L2.WX} {e : Expr}, Gd M G cl k CX Γ X Wx → chkG M G t Γ e = true → PG X e (gI X.K Wx Γ.bw (assign G cl t))
  | .name i, Γ, X, Wx, e, g, h => by
    unfold chkG at h
    split at h
    · obtain ⟨h1, h3⟩ := and2 h
      obtain ⟨h1, h2⟩ := and2 h1
      obtain ⟨l1, l2⟩ := loc_ok g h2
      exact G_name (by rw [g.N]; exact g.nd) (by rw [g.N]; exact atS_ok h1) l1 l2 (by simpa using h3)
    · cases h
  | .tup ts, Γ, X, Wx, e, g, h => by
    unfold chkG at h
    split at h
    · exact G_tup g.calm (chkGs_ok ts g h) (ass_len.trans (chkGs_len h).symm) (ass_none (chkGs_plain h))
    · cases h
  | .idx o i, Γ, X, Wx, e, g, h => by
    unfold chkG at h
    split at h
    · obtain ⟨h1, h3⟩ := and2 h
      obtain ⟨h1, h2⟩ := and2 h1
      exact G_idx g.units (chkE_ok o g h2).pe (chkE_ok i g h3).pe (noSlice_as h1) i
    · cases h
  | .attr _ _, Γ, X, Wx, e, g, h => by unfold chkG at h; cases h
theorem chkGs_ok : ∀ (ts : List Tg) {Γ : Ctx} {X : Cx} {Wx : L2.WX} {es : List Expr}, Gd M G cl k CX Γ X Wx → chkGs M G ts Γ es = true → PGs X es (gIs X.K Wx Γ.bw (assigns G cl ts))
  | [], Γ, X, Wx, [], g, h => by
    have := G_nil (X := X) (Wx := Wx) (bw := Γ.bw)
    refine PGs.imp this fun vs σ H Q ⟨e, w, w0, σ0, xs, hw, ok, r, go, kp, h⟩ => ⟨e, w, w0, σ0, xs, hw, ok, r, go, kp, ?_⟩
    cases xs with
    | nil => exact h
    | cons _ _ => exact h
  | c :: cs, Γ, X, Wx, e :: es, g, h => by
    rw [chkGs] at h
    obtain ⟨h1, h3⟩ := and2 h
    obtain ⟨h1, h2⟩ := and2 h1
    have := G_cons (chkG_ok c g h2) (chkGs_ok cs g h3) (by rw [ass_plain h1]; rfl)
    refine PGs.imp this fun vs σ H Q ⟨e, w, w0, σ0, xs, hw, ok, r, go, kp, h⟩ => ⟨e, w, w0, σ0, xs, hw, ok, r, go, kp, ?_⟩
    cases xs with
    | nil => exact h
    | cons _ _ => exact h
  | [], Γ, X, Wx, _ :: _, g, h => by have h : false = true := h; cases h
  | _ :: _, Γ, X, Wx, [], g, h => by have h : false = true := h; cases h
end
end
end Ip
end

section
set_option linter.all false
set_option autoImplicit false
set_option maxHeartbeats 4000000
namespace Ip
open PySem PySem.Spec PyProof.Rows L2
variable [Tb]

section
variable {M : NM} {G : Cfg} {cl : Nat → List SV → RC} {k : Nat} {CX : CXT}
theorem swap_none {e : Expr} {line : Nat} {env : PySem.Env} (t : Option Expr) (h : noComp e = true) : swapsWith e t line env = pure false := by
  cases e <;> first | rfl | cases h
theorem sole {t e : Expr} {line : Nat} {env : PySem.Env} : swapsWithSole [t] e line env = swapsWith e (some t) line env := rfl
theorem swap_lc {elt : Expr} {gs : List Comprehension} {scope : Scope} {p py : Pos} {y : Str} {line : Nat} {env : PySem.Env} (hk : env.scope.kind = .function) :
    swapsWith (.ListComp elt gs scope p) (some (.Name y py)) line env = pure (swapB env.scope scope y py.line p.line) := by
  unfold swapsWith swapB
  have hb : env.blockKind = .function := by
    unfold PySem.Env.blockKind
    rw [hk]
    rfl
  simp only [hb, show (Expr.ListComp elt gs scope p).pos = p from rfl]
  have : (env.kindOf y == some NameKind.local) = decide (List.lookup y env.scope.names = some NameKind.local) := by
    show (List.lookup y env.scope.names == some NameKind.local) = _
    cases q : List.lookup y env.scope.names with
    | none => rfl
    | some z => cases z <;> rfl
  rw [this]
  rfl
theorem swap_lc2 {elt tg : Expr} {gs : List Comprehension} {scope : Scope} {p : Pos} {line : Nat} {env : PySem.Env} (h : isName tg = false) :
    swapsWith (.ListComp elt gs scope p) (some tg) line env = pure false := by
  cases tg <;> first | rfl | cases h
theorem stores_none {tg e : Expr} {env : PySem.Env} (h : isTup tg = false ∨ (match e with | .Tuple _ _ _ => false | _ => true) = true) : swappedStores [tg] e env = pure none := by
  rcases h with h | h
  · cases tg <;> first | rfl | cases h
  · cases tg <;> first | rfl | skip
    · cases e <;> first | rfl | cases h
    · cases e <;> first | rfl | cases h
theorem asg_ok {Γ : Ctx} {env : PySem.Env} {tg e : Expr} {line : Nat} (hs : env.scope = Γ.sc) (h : asgB Γ tg e = true) : swapsWithSole [tg] e line env = pure false ∧ swappedStores [tg] e env = pure none := by
  rw [sole]
  cases e <;> first | (cases h; done) | exact ⟨rfl, stores_none (.inr rfl)⟩ | skip
  · rename_i elt gs scope p
    unfold asgB at h
    obtain ⟨h1, h2⟩ := and2 h
    refine ⟨?_, stores_none (.inl ((Bool.not_eq_true' _).mp h2))⟩
    by_cases hn : isName tg = true
    · cases tg <;> first | (cases hn; done) | skip
      rename_i y py
      obtain ⟨h3, h4⟩ := and2 h1
      rw [swap_lc (by rw [hs]; exact of_decide_eq_true h3), hs, (Bool.not_eq_true' _).mp h4]
    · exact swap_lc2 (by simpa using hn)
  · have h : (!isTup tg) = true := h
    exact ⟨rfl, stores_none (.inl ((Bool.not_eq_true' _).mp h))⟩
/-- name = [..] on one line -/
theorem setLc_ok {Γ : Ctx} {X : Cx} {Wx : L2.WX} {own : List Nat} {t : Tg} {it : It} {ifs : List CE} {elt : CE} {i : Nat} {y : Str} {py p pos : Pos} {elt' : Expr} {g0 : Comprehension} {scope : Scope} (g : Gd M G cl k CX Γ X Wx) (hk : Γ.sc.kind = .function) (hs : swapB Γ.sc scope y py.line p.line = true)
    (h2 : chkG M G (.name i) Γ (.Name y py) = true) (h : chkE M G (.comp own t it ifs elt) Γ (.ListComp elt' [g0] scope p) = true) :
    PS X (.Assign [.Name y py] (.ListComp elt' [g0] scope p) pos) (tS X.K Wx Γ.bw (execS G cl Γ.np (.asg (.name i) (.comp own t it ifs elt)))) := by
  unfold chkG at h2
  obtain ⟨a2, b3⟩ := and2 h2
  obtain ⟨b1, b2⟩ := and2 a2
  obtain ⟨tg, iter, ifs', kk⟩ := g0
  unfold chkE at h
  obtain ⟨c6, h7⟩ := and2 h
  obtain ⟨c5, h6⟩ := and2 c6
  obtain ⟨c4, h5⟩ := and2 c5
  obtain ⟨c3, h4⟩ := and2 c4
  obtain ⟨c2, h3⟩ := and2 c3
  obtain ⟨c1, h1⟩ := and2 c2
  have := of_decide_eq_true c1
  subst this
  have hlc : Γ.sc.names.lookup y = some .local := by
    unfold swapB at hs
    exact of_decide_eq_true (and2 (and2 hs).1).1
  have bo : BlkOk X.N X.env.scope scope (ownOf Γ.N own) := by rw [g.N, g.sc]; exact blk_ok h3
  have hbw : bwB X.N.length ((ownOf Γ.N own).map (·.2)) = (inner Γ scope own).bw := by rw [own_snd, g.N]; rfl
  have base := S_setLc (bw := Γ.bw) (i := i) (y := y) (py := py) (spos := pos) (own := ownOf Γ.N own) (mg := assign G cl t) (mt := tests G cl ifs) (me := evalE G cl elt) (by simpa using b3) g.calm (by rw [g.N]; exact g.nd) (by rw [g.N]; exact atS_ok b1) (by rw [g.sc]; exact hlc)
    (by rw [swap_lc (by rw [g.sc]; exact hk), g.sc, hs]) (chkI_ok it g h4) bo (pos := p)
    (fun s H C cc fp => by rw [hbw]; exact chkG_ok t (g.blk scope own s H C cc fp) h5)
    (fun s H C cc fp => chkIfs_ok ifs (g.blk scope own s H C cc fp) h6)
    (fun s H C cc fp => (chkE_ok elt (g.blk scope own s H C cc fp) h7).pe) (noSet_ok h1 X.env)
  rw [own_snd] at base
  exact base
mutual
theorem chkS_ok : ∀ (c : CS) {Γ : Ctx} {X : Cx} {Wx : L2.WX} {s : Stmt}, Gd M G cl k CX Γ X Wx → (∀ j ∈ Γ.bw, j < Γ.np) → chkS M G c Γ s = true → PS X s (tS X.K Wx Γ.bw (execS G cl Γ.np c))
  | .pass, Γ, X, Wx, s, g, hb, h => by
    unfold chkS at h
    split at h
    · exact S_pass
    · cases h
  | .brk, Γ, X, Wx, s, g, hb, h => by
    unfold chkS at h
    split at h
    · exact S_break
    · cases h
  | .cont, Γ, X, Wx, s, g, hb, h => by
    unfold chkS at h
    split at h
    · exact S_cont
    · cases h
  | .expr a, Γ, X, Wx, s, g, hb, h => by
    unfold chkS at h
    split at h
    · obtain ⟨h1, h2⟩ := and2 h
      exact S_expr (chkE_ok a g h2).pe (swap_none none h1)
    · cases h
  | .asg t a, Γ, X, Wx, s, g, hb, h => by
    unfold chkS at h
    split at h
    · rename_i tg e pos
      obtain ⟨h1, h4⟩ := and2 h
      obtain ⟨h1, h3⟩ := and2 h1
      obtain ⟨h1, h2⟩ := and2 h1
      rcases (Bool.or_eq_true _ _).mp h4 with h4 | h4
      · obtain ⟨q1, q2⟩ := asg_ok (line := pos.line) g.sc h4
        exact S_asg (chkE_ok a g h3).pe (chkG_ok t g h2) q1 q2 (by rw [ass_plain h1]; rfl)
      · split at h4
        · obtain ⟨h5, h6⟩ := and2 h4
          exact setLc_ok g (of_decide_eq_true h5) h6 h2 h3
        · cases h4
    · cases h
  | .aug i op a, Γ, X, Wx, s, g, hb, h => by
    unfold chkS at h
    split at h
    · rename_i x p2 op' e pos
      obtain ⟨a5, h6⟩ := and2 h
      obtain ⟨a4, h5⟩ := and2 a5
      obtain ⟨a3, h4⟩ := and2 a4
      obtain ⟨a2, h3⟩ := and2 a3
      obtain ⟨a1, h2⟩ := and2 a2
      have := of_decide_eq_true h2
      subst this
      obtain ⟨l1, l2⟩ := loc_ok g h4
      exact S_aug ((Bool.or_eq_true _ _).mp a1 |>.imp of_decide_eq_true of_decide_eq_true) (by rw [g.N]; exact g.nd) (by rw [g.N]; exact atS_ok h3) l1 l2 (by simpa using h5) (chkE_ok a g h6).pe
    · cases h
  | .augI _ _ _ _, Γ, X, Wx, s, g, hb, h => by unfold chkS at h; cases h
  | .ret none, Γ, X, Wx, s, g, hb, h => by
    unfold chkS at h
    split at h
    · exact S_retN
    · cases h
  | .ret (some a), Γ, X, Wx, s, g, hb, h => by
    unfold chkS at h
    split at h
    · exact S_ret (chkE_ok a g h).pe hb
    · cases h
  | .ite c a b, Γ, X, Wx, s, g, hb, h => by
    unfold chkS at h
    split at h
    · obtain ⟨h1, h3⟩ := and2 h
      obtain ⟨h1, h2⟩ := and2 h1
      exact S_if (chkE_ok c g h1).pt (chkSs_ok a g hb h2) (chkSs_ok b g hb h3)
    · cases h
  | .whl c a, Γ, X, Wx, s, g, hb, h => by
    unfold chkS at h
    split at h
    · obtain ⟨h1, h2⟩ := and2 h
      exact S_whl g.pass (chkE_ok c g h1).pt (chkSs_ok a g hb h2) turns
    · cases h
  | .for t it a, Γ, X, Wx, s, g, hb, h => by
    unfold chkS at h
    split at h
    · obtain ⟨h1, h4⟩ := and2 h
      obtain ⟨h1, h3⟩ := and2 h1
      obtain ⟨h1, h2⟩ := and2 h1
      exact S_for g.pass g.calm (chkI_ok it g h2) (chkG_ok t g h3) (chkSs_ok a g hb h4) (noSet_ok h1 X.env)
    · cases h
  | .raise c as, Γ, X, Wx, s, g, hb, h => by
    unfold chkS at h
    split at h
    · rename_i x p a es pos pos2
      obtain ⟨h1, h4⟩ := and2 h
      obtain ⟨h1, h5⟩ := and2 h1
      obtain ⟨h1, h3⟩ := and2 h1
      obtain ⟨h1, h2⟩ := and2 h1
      obtain ⟨n1, n2, n3⟩ := name_ok h3
      obtain ⟨C, fI, fdt, ps, f, m1, m2, m3, m4, m5, m6, m7, m8⟩ := (g.gf.exs c x (atS_ok h1)).ex
      have ha := chkEs_ok as g h4
      have pl := chkEs_plain h4
      exact S_raise (k := 1) g.calm g.tk m3 m4 m5 m6 ((g.rm2 h5).mono (by omega)) m7 (fun pins σ H s e s' I h => (g.gf.cx _ _ _ _ _ h).elim) (glob_ok g h2) m1 ha n1 (star_plain (pl a (by simp))) (back_any (star_all fun z hz => pl z (by simp [hz]))) m2 m8
    · cases h
  | .tryE _ _, Γ, X, Wx, s, g, hb, h => ⟨fun pins sh σ H D I ⟨e, w, _, _, h⟩ => by rw [execS] at h; exact h.elim⟩
  | .lck i a, Γ, X, Wx, s, g, hb, h => by
    unfold chkS at h
    exact S_lck (chkS_ok a g hb h)
theorem chkSs_ok : ∀ (cs : List CS) {Γ : Ctx} {X : Cx} {Wx : L2.WX} {ss : List Stmt}, Gd M G cl k CX Γ X Wx → (∀ j ∈ Γ.bw, j < Γ.np) → chkSs M G cs Γ ss = true → PSs X ss (tS X.K Wx Γ.bw (execSs G cl Γ.np cs))
  | [], Γ, X, Wx, [], g, hb, h => S_nil
  | c :: cs, Γ, X, Wx, s :: ss, g, hb, h => by
    rw [chkSs] at h
    obtain ⟨h1, h2⟩ := and2 h
    exact S_cons (chkS_ok c g hb h1) (chkSs_ok cs g hb h2)
  | [], Γ, X, Wx, _ :: _, g, hb, h => by have h : false = true := h; cases h
  | _ :: _, Γ, X, Wx, [], g, hb, h => by have h : false = true := h; cases h
end
end
end Ip
end

section
set_option linter.all false
set_option autoImplicit false
set_option maxHeartbeats 4000000
namespace Ip
open PySem PySem.Spec PyProof.Rows L2
variable [Tb]

/-- the name that a def's lambdas bear -/
def lamQ (x : Str) (scope : Scope) : Str := (envOfC x scope 0 0 .none).qual ++ "<lambda>"
def ctxOf (M : NM) (x : Str) (N : List Str) (scope : Scope) (fd : FnD) : Ctx := ⟨N, scope, fun _ => true, fd.n, bwOf fd.asg, M.lams.contains x, true⟩
/-- a def of the top: what the look needs -/
structure FF (M : NM) (G : Cfg) (K : PySem.W.Frag) (mg : Str → Option Value) (f : Nat) (x : Str) : Prop where
  ex : ∀ fd, G.fns[f]? = some fd → ∃ (params : Arguments) (body : List Stmt) (scope : Scope) (dvs : List V) (kws : List (Str × V)) (fa : Addr) (fdt : FuncData) (N ps : List Str),
    FunD K x x params body scope dvs kws fa fdt ∧ FnScope N ps scope ∧ mg x = some (.ref fa) ∧ N.length = fd.m ∧ ps.length = fd.n ∧ fd.asg.length = fd.n ∧ fd.defs.all scalD = true ∧
    (∀ nargs, nargs ≤ fd.n → fd.n ≤ nargs + fd.defs.length → ∃ ds, Binds K fdt ps ds ∧ Vals ((fd.defs.drop (nargs + fd.defs.length - fd.n)).map scalV) ds) ∧
    chkSs M G fd.body (ctxOf M x N scope fd) body = true ∧
    (M.lams.contains x = true → ∃ c P, fdt.code = .ref c ∧ (c, P) ∈ Tb.cs ∧ (P, lamQ x scope) ∈ Tb.T ∧ ∀ p ∈ Tb.T, p.1 = P → p.2 = lamQ x scope)
/-- a class of exceptions of the top -/
structure EF (K : PySem.W.Frag) (mg : Str → Option Value) (c : Nat) (x : Str) : Prop where
  ex : ∃ (C fI : Addr) (fdt : FuncData) (me arg f qual xn : Str) (params : Arguments) (scope : Scope) (dvs : List V) (kws : List (Str × V)) (p1 p2 p3 p4 : Pos), mg x = some (.ref C) ∧ Tb.X[c]? = some (C, f) ∧ OexE K C ∧ PySem.W.findIn K (.ref C) "__init__" = some (some (.ref fI)) ∧
    PySem.W.typeIn K (.ref fI) = some (.type "function") ∧ FunD K xn qual params [.Assign [.Attribute (.Name me p1) f p2] (.Name arg p3) p4] scope dvs kws fI fdt ∧ FnScope [me, arg] [me, arg] scope ∧ nameB me = true ∧ nameB arg = true ∧ Binds K fdt [me, arg] [] ∧ PySem.W.findIn K (.ref C) f = some none
/-- the module's names -/
structure MF (M : NM) (G : Cfg) (K : PySem.W.Frag) (mg : Str → Option Value) : Prop where
  free : ∀ x : Str, x ∈ M.free → mg x = none
  glb : ∀ (n : Nat) (x : Str) (d : D), M.glb[n]? = some x → G.consts[n]? = some d → ∃ u v, mg x = some u ∧ RelV v u ∧ ∀ F, RelD K F d v
  gcd : ∀ x : Str, M.gcd = some x → mg x = some (.builtin "math.gcd")
  fns : ∀ (f : Nat) (x : Str), M.fn[f]? = some x → FF M G K mg f x
  exs : ∀ (c : Nat) (x : Str), M.exn[c]? = some x → EF K mg c x
  tld : ∀ x : Str, M.told = some x → TlOk G K mg x
section
variable {M : NM} {G : Cfg} {P : Program} {w : World} {K : PySem.W.Frag} {mg : Str → Option Value} {base : Heap}
theorem cx_no : ∀ outer H s e s', L2.CX P w outer H s (fun _ _ _ => False) e s' → False := fun _ _ _ _ _ ⟨_, _, _, _, _, _, _, _, _, _, _, _, h⟩ => h
theorem EF.ok {c : Nat} {x : Str} (e : EF K mg c x) : ExOk P w K mg base (L2.CX P w) c x := by
  obtain ⟨C, fI, fdt, me, arg, f, qual, xn, params, scope, dvs, kws, p1, p2, p3, p4, h1, h2, h3, h4, h5, h6, h7, h8, h9, h10, h11⟩ := e.ex
  obtain ⟨a1, a2, _⟩ := name_ok h8
  obtain ⟨b1, b2, _⟩ := name_ok h9
  exact ⟨C, fI, fdt, [me, arg], f, h1, h2, h3, h4, h5, init_ok (k := 0) h6 h7 a1 a2 b1 b2, h10, h11⟩
theorem all_ok (F : MF M G K mg) (hT : ∀ p ∈ Tb.cs, LamX.TabB base mg p.1 p.2) : ∀ k, GF M G (callI G k) P w K mg base (L2.CX P w) k
  | 0 => ⟨F.free, F.glb, F.gcd, fun f x hx => ⟨fun fd hf => by
      obtain ⟨params, body, scope, dvs, kws, fa, fdt, N, ps, F1, S, m1, l1, l2, l3, sd, bd, ck, lm⟩ := (F.fns f x hx).ex fd hf
      exact ⟨fa, fdt, ps, by rw [← l2]; exact fn_0, m1, F1.kp, sd, bd⟩⟩, cx_no, rfl, fun c x h => (F.exs c x h).ok, F.tld⟩
  | k + 1 => ⟨F.free, F.glb, F.gcd, fun f x hx => ⟨fun fd hf => by
      obtain ⟨params, body, scope, dvs, kws, fa, fdt, N, ps, F1, S, m1, l1, l2, l3, sd, bd, ck, lm⟩ := (F.fns f x hx).ex fd hf
      refine ⟨fa, fdt, ps, fn_I (j := 3 * k + 2) F1 S hf l1 l2 l3 fun cdv ec A outer s H E hr => ?_, m1, F1.kp, sd, bd⟩
      refine chkSs_ok (k := k) (CX := L2.CX P w) (Γ := ctxOf M x N scope fd) fd.body ⟨all_ok F hT k, hr, rfl, rfl, S.nd, rfl, fun _ _ => rfl, ?_, takes_of rfl rfl rfl rfl, fun hl => ?_⟩ (fun j hj => ?_) ck
      · exact L2.passes_of (K := fun e s'' => L2.CX P w outer H s E e s'') rfl
      · obtain ⟨c, Pt, e1, e2, e3, e4⟩ := lm hl
        exact ⟨c, Pt, hT _ e2, by rw [← ec]; exact e1, e3, e4⟩
      · have := (List.getElem?_eq_some_iff.mp (mem_bwOf.mp hj)).1
        show j < fd.n
        omega⟩, cx_no, rfl, fun c x h => (F.exs c x h).ok, F.tld⟩
/-- where no exception is to leave -/
theorem FnOk.calm {CX : CXT} {k : Nat} {f : Addr} {fd : FuncData} {ps : List Str} {sp : Sp} (F : FnOk P w K mg base (L2.CX P w) k f fd ps sp) : FnOk P w K mg base CX k f fd ps (fun vs H Q _ => sp vs H Q fun _ _ _ => False) :=
  ⟨fun vs H Q E h => F.len vs H Q _ h, fun A outer s H args us vs Q E hr e0 hb hv h => codeAny_mono (F.run A outer s H args us vs Q (fun _ _ _ => False) hr e0 hb hv h) fun r s' hq => by
    cases r with
    | error e => exact (cx_no _ _ _ _ _ hq).elim
    | ok fl =>
      cases fl with
      | ret u => exact hq
      | next => exact hq
      | brk => exact hq
      | cont => exact hq⟩
/-- the ints of the script -/
def scriptD (ns : List Int) : D := .lst (ns.map .int)
theorem relDs_script {F : Hp} : ∀ ns : List Int, RelDs K F (ns.map .int) (ns.map V.int)
  | [] => by unfold RelDs; trivial
  | n :: ns => by
    rw [List.map_cons, List.map_cons]
    unfold RelDs
    exact ⟨by unfold RelD; rfl, relDs_script ns⟩
/-- the heap without its tables -/
def noTb (H : Hp) : Hp := fun b => match H b with
  | some (.tbl _) => none
  | o => o
theorem noTb_some {H : Hp} {b : Addr} {o : HO} (h : noTb H b = some o) : H b = some o ∧ Nt o := by
  unfold noTb at h
  split at h
  · cases h
  · rename_i x hx
    refine ⟨h, fun ps e => ?_⟩
    subst e
    exact hx ps h
theorem noTb_of {H : Hp} {b : Addr} {o : HO} (h : H b = some o) (n : Nt o) : noTb H b = some o := by
  unfold noTb
  split
  · rename_i ps hx
    rw [h] at hx
    exact absurd (Option.some.inj hx) (n ps)
  · exact h
/-- the law's promise, at its start -/
theorem law_sp {k iL : Nat} {bw : List Nat} {H : Hp} {a : Addr} {ns : List Int} (hT : LamX.Tabs Tb.T H) (hl : ns.length ≤ 63) (hS : SqL K H a (ns.map V.int)) (h : ∃ fin, callI G k iL [.d (scriptD ns)] = .ok (.d (.bl true)) fin) :
    spI K 1 bw (callI G k iL) [.ref a] H (fun v _ => v = .bl true) fun _ _ _ => False := by
  obtain ⟨fin, h⟩ := h
  have hS2 : SqL K (noTb H) a (ns.map V.int) := by
    refine hS.imp (fun z => ?_) id
    rcases z with z | ⟨o, z⟩
    · exact .inl (noTb_of z (fun _ e => nomatch e))
    · exact .inr ⟨o, noTb_of z (fun _ e => nomatch e)⟩
  refine ⟨rfl, [.d (scriptD ns)], ⟨noTb H, H, [[]]⟩, rfl, ⟨fun b o z => (noTb_some z).1, ⟨⟨?_, rfl⟩, trivial⟩, by simp, fun b hb => by simp at hb, fun b o z => (noTb_some z).2, hT⟩, ?_⟩
  · unfold scriptD RelD
    exact ⟨a, _, rfl, hS2, relDs_script ns, by rw [List.length_map, sizeLine_eq]; omega⟩
  · rw [h]
    intro σ' w' v f ok kp rs _ _ _
    have := rs.1
    unfold RelD at this
    exact this
end
end Ip
end

section
set_option linter.all false
set_option autoImplicit false
set_option maxHeartbeats 4000000
namespace Ip
open PySem PySem.Spec PyProof.Rows L2
variable [Tb]

theorem look_zip {α : Type} : ∀ {ns : List Str} {us : List α}, ns.Nodup → us.length = ns.length → ns.filterMap (fun n => ((ns.zip us).lookup n).map (n, ·)) = ns.zip us := by
  have key : ∀ (ns : List Str) (us : List α) (pre : List (Str × α)), ns.Nodup → us.length = ns.length → (∀ p ∈ pre, p.1 ∉ ns) → ns.filterMap (fun n => ((pre ++ ns.zip us).lookup n).map (n, ·)) = ns.zip us := by
    intro ns
    induction ns with
    | nil => intro us pre _ _ _; simp
    | cons n ns ih =>
      intro us pre nd hl hp
      cases us with
      | nil => simp at hl
      | cons u us =>
        have h0 : pre.lookup n = none := by
          rw [List.lookup_eq_none_iff]
          intro p hm
          have := hp p hm
          simp only [List.mem_cons, not_or] at this
          simpa using fun e => this.1 e.symm
        have h1 : (pre ++ (n :: ns).zip (u :: us)).lookup n = some u := by
          rw [List.lookup_append, h0]
          simp
        rw [List.filterMap_cons, h1]
        have e : pre ++ (n :: ns).zip (u :: us) = (pre ++ [(n, u)]) ++ ns.zip us := by simp
        rw [e]
        show (n, u) :: _ = (n, u) :: _
        congr 1
        refine ih us _ (List.nodup_cons.mp nd).2 (by simpa using hl) fun p hm => ?_
        rcases List.mem_append.mp hm with hm | hm
        · have := hp p hm
          simp only [List.mem_cons, not_or] at this
          exact this.2
        · have : p = (n, u) := by simpa using hm
          subst this
          exact (List.nodup_cons.mp nd).1
  intro ns us nd hl
  simpa using key ns us [] nd hl (by simp)
theorem bind_gen {x qual : Str} {as : List Arg} {body : List Stmt} {scope : Scope} {kV doc pm cdv ct : Value} {an : Option Addr} {us : List Value} (nd : (as.map (·.arg)).Nodup) (hl : us.length = (as.map (·.arg)).length) :
    bindArgs (PySem.W.fnOf x qual ⟨[], as, none, [], [], none, []⟩ body scope .none kV doc pm an cdv ct) ⟨us, []⟩ = pure ((as.map (·.arg)).zip us) := by
  have h1 : ((as.map (·.arg)).take (as.map (·.arg)).length).filter (fun n => (((as.map (·.arg)).zip us).lookup n).isNone) = [] := by
    rw [List.take_length, List.filter_eq_nil_iff]
    intro n hn
    have e := look_zip nd hl
    have hm : n ∈ ((as.map (·.arg)).filterMap (fun n => (((as.map (·.arg)).zip us).lookup n).map (n, ·))).map (·.1) := by
      rw [e, List.map_fst_zip (by omega)]
      exact hn
    obtain ⟨p, hp, rfl⟩ := List.mem_map.mp hm
    obtain ⟨m, hm1, hm2⟩ := List.mem_filterMap.mp hp
    cases q : ((as.map (·.arg)).zip us).lookup m with
    | none => rw [q] at hm2; cases hm2
    | some v =>
      rw [q] at hm2
      cases hm2
      rw [q]
      simp
  have h2 := look_zip nd hl
  unfold bindArgs
  simp only [PySem.W.fnOf, List.map_nil, List.nil_append, List.append_nil, List.forIn_nil, pure_bind]
  have h0 : seqItems? (.none : Value) = pure none := rfl
  rw [h0]
  simp only [pure_bind, Option.getD_none, List.length_nil, List.drop_nil, Nat.sub_zero, List.zip_nil_right, List.forIn_nil]
  have h3 : decide (us.length > (as.map (·.arg)).length) = false := by rw [hl]; simp
  rw [h3]
  simp only [Bool.false_and, Bool.false_eq_true, if_false, pure_bind]
  rw [h1]
  simp only [List.isEmpty_nil, Bool.not_true, Bool.false_eq_true, if_false, pure_bind, h2]
end Ip
end

section
set_option linter.all false
set_option autoImplicit false
set_option maxHeartbeats 4000000
namespace Ip
open PySem PySem.Spec PyProof.Rows L2
variable [Tb]

/-- a def of the top, as the text has it, with its names in order -/
structure FRow where
  x : Str
  as : List Arg
  body : List Stmt
  scope : Scope
  N : List Str
def FRow.ofS (N : List Str) : Stmt → FRow
  | .FunctionDef x a body _ _ _ scope _ _ _ => ⟨x, a.args, body, scope, N⟩
  | _ => ⟨Str.empty, [], [], ⟨.function, [], false, false, []⟩, N⟩
def FRow.def (r : FRow) : He.DefD := ⟨(r.x, none), r.x, r.x, ⟨[], r.as, none, [], [], none, []⟩, r.body, r.scope, [], []⟩
/-- a class of exceptions: the row of its __init__ -/
structure ERow where
  cls : Str
  row : FRow
def ERow.def (r : ERow) : He.DefD := ⟨(r.cls, some "__init__"), "__init__", r.cls ++ ".__init__", ⟨[], r.row.as, none, [], [], none, []⟩, r.row.body, r.row.scope, [], []⟩
def fieldOf (r : ERow) : Str := match r.row.body with
  | [.Assign [.Attribute _ f _] _ _] => f
  | _ => Str.empty
/-- all that a law's text has -/
structure Rws where
  rows : List FRow
  ers : List ERow := []
  tld : List FRow := []
def Rws.defs (R : Rws) : List He.DefD := R.rows.map FRow.def ++ R.ers.map ERow.def ++ R.tld.map FRow.def
def tbOf (M : NM) (R : Rws) (K : PySem.W.Frag) : Tb where
  cs := M.lams.map fun x => He.cT K (x, none)
  T := (R.rows.filter fun r => M.lams.contains r.x).map fun r => ((He.cT K (r.x, none)).2, lamQ r.x r.scope)
  X := R.ers.map fun r => (He.ga K r.cls, fieldOf r)
def rowB (M : NM) (G : Cfg) (r : FRow) (fd : FnD) : Bool :=
  decide (r.N.length = fd.m) && decide (r.as.length = fd.n) && decide (fd.asg.length = fd.n) && fd.defs.isEmpty && decide ((r.as.map (·.arg)).Nodup) && C8.scC r.N (r.as.map (·.arg)) r.scope && chkSs M G fd.body (ctxOf M r.x r.N r.scope fd) r.body
def rowsB (M : NM) (G : Cfg) : List FRow → List FnD → List Str → Bool
  | [], [], [] => true
  | r :: rs, fd :: fs, x :: xs => decide (r.x = x) && rowB M G r fd && rowsB M G rs fs xs
  | _, _, _ => false
def cfa : Str × D → Option He.Fa
  | (x, .int i) => some (.int x i)
  | (x, .str z) => if scalD (.str z) then some (.str x (txt z)) else none
  | _ => none
def faOf (M : NM) (G : Cfg) : List He.Fa := M.fn.map .glo ++ M.free.map .free ++ M.exn.map .glo ++ M.told.toList.map .glo ++ (M.glb.zip G.consts).filterMap cfa
/-- what else is told: gcd, tuples of the top -/
def intsB : List Int → List Value → Bool
  | [], [] => true
  | i :: is, .int j _ :: vs => decide (j = i) && intsB is vs
  | _, _ => false
def tupIn (K : PySem.W.Frag) (p : Str × List Int) : Bool := He.eqO (PySem.W.nsIn K mainGlobals p.1) (some (some (.ref (He.ga K p.1)))) && (match K.lookup (He.ga K p.1) with
  | some ⟨.type c, _, .seq its _, _⟩ => decide (c = "tuple") && intsB p.2 its.toList && decide (its.size ≤ 64)
  | _ => false)
/-- the mro of a class below Exception -/
def refsE : List Value → Bool
  | .ref _ :: r => refsE r
  | l => decide (l = exTl)
theorem refsE_ok {l : List Value} (h : refsE l = true) : ∃ cs : List Addr, l = mroE cs := by
  fun_induction refsE l with
  | case1 a r ih =>
    obtain ⟨cs, e⟩ := ih h
    exact ⟨a :: cs, by rw [e]; rfl⟩
  | case2 l hn => exact ⟨[], of_decide_eq_true h⟩
def clsEB (C : Addr) : Option Obj → Bool
  | some ⟨.type t, _, .cls cd, sl⟩ => decide (t = "type") && (match cd.mro with
    | .ref C' :: r => decide (C' = C) && refsE r
    | _ => false) && cd.hasDict && !cd.hasDel && (match sl.toList with
    | [_, _, _, _, some (.builtin n), _] => decide (n = "Exception.__new__")
    | _ => false)
  | _ => false
/-- what is asked of a class of exceptions -/
def exEB (K : PySem.W.Frag) (C : Addr) (f : Str) : Bool := clsEB C (K.lookup C) && (decide (PySem.W.findIn K (.ref C) "__setattr__" = some (some (.builtin "object.__setattr__"))) && (decide (PySem.W.subIn K (.ref C) (.type "BaseException") = some true) &&
  (decide (PySem.W.typeIn K (.ref C) = some (.type "type")) && (PySem.W.keepIn K (.ref C) && (decide (PySem.W.findIn K (.ref C) "__init__" = some (some (.ref (He.ma K C "__init__")))) && (decide (PySem.W.typeIn K (.ref (He.ma K C "__init__")) = some (.type "function")) &&
  (decide (PySem.W.findIn K (.ref C) f = some none) && (xfB K C && decide (PySem.W.exmOne K (.ref C) (.ref C) = some true)))))))))
def exOf (M : NM) (R : Rws) (K : PySem.W.Frag) : Bool := (match M.gcd with
  | some x => He.eqO (PySem.W.nsIn K mainGlobals x) (some (some (.builtin "math.gcd")))
  | none => true) && M.tups.all (tupIn K) && (R.ers.all (fun r => exEB K (He.ga K r.cls) (fieldOf r)) && decide (((R.rows.filter fun r => M.lams.contains r.x).map fun r => (He.cT K (r.x, none)).2).Nodup))
theorem clsEB_ok {K : PySem.W.Frag} {C : Addr} (h : clsEB C (K.lookup C) = true) : ∃ nm q N bs cs sn sub ab col dd k0 k1 k2 k3 k5, K.lookup C = some (excClassObj nm q C N bs (mroE cs) true sn sub ab col dd k0 k1 k2 k3 k5 "Exception.__new__") := by
  unfold clsEB at h
  split at h
  · rename_i t dd cd sl hl
    obtain ⟨ha, h5⟩ := and2 h
    obtain ⟨hb, h4⟩ := and2 ha
    obtain ⟨hc, h3⟩ := and2 hb
    obtain ⟨h1, h2⟩ := and2 hc
    clear h ha hb hc
    have h1 : t = "type" := of_decide_eq_true h1
    obtain ⟨nm, bs, mro, ns, qn, hd, sn, sub, ab, col, del⟩ := cd
    dsimp only at h2 h3 h4
    cases mro with
    | nil => cases h2
    | cons v r =>
      cases v <;> first | (cases h2; done) | skip
      rename_i C'
      obtain ⟨e1, e2⟩ := and2 h2
      have e1 : C' = C := of_decide_eq_true e1
      obtain ⟨cs, e3⟩ := refsE_ok e2
      split at h5
      · rename_i k0 k1 k2 k3 n k5 e5
        have h5 : n = "Exception.__new__" := of_decide_eq_true h5
        have h4 : del = false := by simpa using h4
        have e6 : sl = #[k0, k1, k2, k3, some (.builtin n), k5] := by
          have := congrArg List.toArray e5
          simpa using this
        subst h1 h3 h4 h5 e1 e3 e6
        exact ⟨nm, qn, ns, bs, cs, sn, sub, ab, col, dd, k0, k1, k2, k3, k5, hl⟩
      · cases h5
  · cases h
/-- the text of an __init__ that stores its argument -/
def initB (r : ERow) : Bool := match r.row.as.map (·.arg), r.row.N, r.row.body with
  | [me, arg], [n1, n2], [.Assign [.Attribute (.Name m2 _) _ _] (.Name a2 _) _] => decide (n1 = me) && decide (n2 = arg) && decide (m2 = me) && decide (a2 = arg) && decide (me ≠ arg) && nameB me && nameB arg && C8.scC [me, arg] [me, arg] r.row.scope
  | _, _, _ => false
/-- the text of the laws' own try -/
def toldB (M : NM) (G : Cfg) (R : Rws) (r : FRow) : Bool := match r.as.map (·.arg), r.N, r.body, R.ers with
  | [a], [n1, n2], [.Try [.Return (some (.Tuple [.Constant (.str okS) _ _, .Call (.Name a2 _) [] [] _] _ _)) _] (.ExceptHandler (some (.Name e _)) (some n) [.Return (some (.Tuple [.Constant (.str exS) _ _, .Attribute (.Name n3 _) f _] _ _)) _] _ :: _) [] [] _], [er] =>
    decide (M.told = some r.x) && decide (n1 = a) && decide (n2 = n) && decide (a2 = a) && decide (n3 = n) && decide (e = er.cls) && decide (f = fieldOf er) && decide (okS = txt valS) && decide (a ≠ n) && nameB a && nameB n && nameB e && decide (r.scope.names.lookup e = some .globalImplicit) &&
    decide (r.scope.names.lookup n = some .local) && C8.scC [a, n] [a] r.scope && (match G.exn with
    | [s] => decide (txt s = exS) && scalD (.str s)
    | _ => false)
  | _, _, _, _ => false
/-- the exceptions, the try, the lambdas of a law's text -/
def excB (M : NM) (G : Cfg) (R : Rws) : Bool := decide (M.exn = R.ers.map (·.cls)) && R.ers.all initB && decide (M.told.toList = R.tld.map (·.x)) && R.tld.all (toldB M G R) && decide ((R.rows.map (·.x)).Nodup) && M.lams.all (fun x => (R.rows.map (·.x)).contains x)
def tupsD (M : NM) (x : Str) : D → Bool
  | .tup ds => M.tups.any fun p => decide (p.1 = x) && decide (p.2.length = ds.length) && (p.2.zip ds).all fun q => match q.2 with
    | .int i => decide (q.1 = i)
    | _ => false
  | _ => false
def glbB (M : NM) (G : Cfg) : Bool := decide (M.glb.length = G.consts.length) && (M.glb.zip G.consts).all fun p => (cfa p).isSome || tupsD M p.1 p.2
theorem intsB_ok : ∀ {is : List Int} {vs : List Value}, intsB is vs = true → Vals (is.map V.int) vs
  | [], [], _ => .nil
  | i :: is, .int j t :: vs, h => by
    rw [intsB] at h
    obtain ⟨h1, h2⟩ := and2 h
    exact .cons ⟨t, by rw [of_decide_eq_true h1]⟩ (intsB_ok h2)
theorem zipI_ok : ∀ {is : List Int} {ds : List D}, is.length = ds.length → ((is.zip ds).all fun q => match q.2 with
    | .int i => decide (q.1 = i)
    | _ => false) = true → ds = is.map .int
  | [], [], _, _ => rfl
  | i :: is, d :: ds, e, h => by
    simp only [List.zip_cons_cons, List.all_cons] at h
    obtain ⟨h1, h2⟩ := and2 h
    cases d <;> first | (cases h1; done) | skip
    rename_i j
    have h1 : i = j := of_decide_eq_true h1
    subst h1
    rw [zipI_ok (by simpa using e) h2]
    rfl
  | [], _ :: _, e, _ => by simp at e
  | _ :: _, [], e, _ => by simp at e
theorem relDs_ints {K : PySem.W.Frag} {F : Hp} : ∀ (is : List Int), RelDs K F (is.map .int) (is.map V.int)
  | [] => by unfold RelDs; trivial
  | i :: is => by
    simp only [List.map_cons]
    unfold RelDs
    exact ⟨by unfold RelD; rfl, relDs_ints is⟩
section
variable {M : NM} {G : Cfg} {K : PySem.W.Frag} {mg : Str → Option Value} {h : Heap}
theorem rows_at : ∀ {rs : List FRow} {fs : List FnD} {xs : List Str} {f : Nat} {x : Str} {fd : FnD}, rowsB M G rs fs xs = true → xs[f]? = some x → fs[f]? = some fd → ∃ r, rs[f]? = some r ∧ r.x = x ∧ rowB M G r fd = true
  | [], [], [], f, x, fd, _, h, _ => by simp at h
  | r :: rs, fd :: fs, x :: xs, 0, y, gd, h, h1, h2 => by
    rw [rowsB] at h
    obtain ⟨h3, _⟩ := and2 h
    obtain ⟨h3, h4⟩ := and2 h3
    simp at h1 h2
    subst h1 h2
    exact ⟨r, rfl, of_decide_eq_true h3, h4⟩
  | r :: rs, fd :: fs, x :: xs, f + 1, y, gd, h, h1, h2 => by
    rw [rowsB] at h
    obtain ⟨_, h3⟩ := and2 h
    obtain ⟨r', h4, h5⟩ := rows_at (f := f) h3 (by simpa using h1) (by simpa using h2)
    exact ⟨r', by simpa using h4, h5⟩
  | [], [], _ :: _, _, _, _, h, _, _ => by have h : false = true := h; cases h
  | [], _ :: _, _, _, _, _, h, _, _ => by have h : false = true := h; cases h
  | _ :: _, [], _, _, _, _, h, _, _ => by have h : false = true := h; cases h
  | _ :: _, _ :: _, [], _, _, _, h, _, _ => by have h : false = true := h; cases h
theorem zip_at {α β : Type} : ∀ {xs : List α} {ys : List β} {n : Nat} {x : α} {y : β}, xs[n]? = some x → ys[n]? = some y → (x, y) ∈ xs.zip ys
  | x :: xs, y :: ys, 0, a, b, h1, h2 => by simp at h1 h2; subst h1 h2; simp
  | x :: xs, y :: ys, n + 1, a, b, h1, h2 => by
    simp at h1 h2
    exact List.mem_cons_of_mem _ (zip_at h1 h2)
  | [], _, _, _, _, h1, _ => by simp at h1
  | _ :: _, [], _, _, _, _, h2 => by simp at h2
theorem nodup_map {α β : Type} {f : α → β} : ∀ {l : List α} {x y : α}, (l.map f).Nodup → x ∈ l → y ∈ l → f x = f y → x = y
  | [], x, y, _, h, _, _ => by cases h
  | z :: l, x, y, nd, hx, hy, e => by
    rw [List.map_cons, List.nodup_cons] at nd
    rcases List.mem_cons.mp hx with q1 | q1
    · rcases List.mem_cons.mp hy with q2 | q2
      · rw [q1, q2]
      · exact absurd (List.mem_map.mpr ⟨y, q2, by rw [← e, q1]⟩) nd.1
    · rcases List.mem_cons.mp hy with q2 | q2
      · exact absurd (List.mem_map.mpr ⟨x, q1, by rw [e, q2]⟩) nd.1
      · exact nodup_map nd.2 q1 q2 e
theorem lam_F {M : NM} {R : Rws} {K : PySem.W.Frag} {r : FRow} {fdt : FuncData} (F : FunD K r.x r.x ⟨[], r.as, none, [], [], none, []⟩ r.body r.scope [] [] (He.ga K r.x) fdt) (hr : r ∈ R.rows) (hl : M.lams.contains r.x = true)
    (nd : ((R.rows.filter fun r => M.lams.contains r.x).map fun r => (He.cT K (r.x, none)).2).Nodup) (hcs : Tb.cs = M.lams.map fun x => He.cT K (x, none)) (hTT : Tb.T = (R.rows.filter fun r => M.lams.contains r.x).map fun r => ((He.cT K (r.x, none)).2, lamQ r.x r.scope)) :
    ∃ c P, fdt.code = .ref c ∧ (c, P) ∈ Tb.cs ∧ (P, lamQ r.x r.scope) ∈ Tb.T ∧ ∀ p ∈ Tb.T, p.1 = P → p.2 = lamQ r.x r.scope := by
  obtain ⟨oc, od, dV, kV, doc, pm, an, cdv, ct, osl, e, lk, hcd, _, _⟩ := F.ex
  obtain ⟨c, ec⟩ := He.codeIn_ref hcd
  have e1 : fdt.code = .ref c := by rw [e]; exact ec
  have e2 : He.codeOf K (r.x, none) = c := He.codeOf_eq (p := (r.x, none)) lk e1
  have e3 : He.cT K (r.x, none) = (c, (He.cT K (r.x, none)).2) := by
    unfold He.cT
    rw [e2]
  have hf : r ∈ R.rows.filter fun r => M.lams.contains r.x := List.mem_filter.mpr ⟨hr, hl⟩
  refine ⟨c, (He.cT K (r.x, none)).2, e1, by rw [hcs, ← e3]; exact List.mem_map.mpr ⟨r.x, by simpa using hl, rfl⟩, by rw [hTT]; exact List.mem_map.mpr ⟨r, hf, rfl⟩, fun p hp ep => ?_⟩
  rw [hTT] at hp
  obtain ⟨r', hr', rfl⟩ := List.mem_map.mp hp
  have := nodup_map nd hr' hf ep
  rw [this]
theorem ef_ok {M : NM} {G : Cfg} {R : Rws} {K : PySem.W.Frag} {mg : Str → Option Value} {h : Heap} {i : Nat} {r : ERow} (c : He.SaysD (faOf M G) R.defs K) (X : K.In h) (Gm : h.Ns mainGlobals mg) (hm : r.cls ∈ M.exn) (hr : R.ers[i]? = some r) (hi : initB r = true) (he : exEB K (He.ga K r.cls) (fieldOf r) = true)
    (hX : Tb.X = R.ers.map fun r => (He.ga K r.cls, fieldOf r)) : EF K mg i r.cls := by
  have g1 : mg r.cls = some (.ref (He.ga K r.cls)) := He.glo_ok X Gm (He.SaysD.facts c (f := .glo r.cls) (by simp [faOf, hm]))
  obtain ⟨fdt, F⟩ := He.SaysD.defs c (d := r.def) (by unfold Rws.defs; simp only [List.mem_append, List.mem_map]; exact .inl (.inr ⟨r, List.mem_of_getElem? hr, rfl⟩))
  have F : FunD K "__init__" (r.cls ++ ".__init__") ⟨[], r.row.as, none, [], [], none, []⟩ r.row.body r.row.scope [] [] (He.ma K (He.ga K r.cls) "__init__") fdt := F
  obtain ⟨e1, he⟩ := and2 he
  obtain ⟨e2, he⟩ := and2 he
  obtain ⟨e3, he⟩ := and2 he
  obtain ⟨e4, he⟩ := and2 he
  obtain ⟨e5, he⟩ := and2 he
  obtain ⟨e6, he⟩ := and2 he
  obtain ⟨e7, he⟩ := and2 he
  obtain ⟨e8, he⟩ := and2 he
  have T : OexE K (He.ga K r.cls) := ⟨clsEB_ok e1, of_decide_eq_true e2, of_decide_eq_true e3, of_decide_eq_true e4, e5⟩
  have ha := List.mem_of_getElem? hr
  have hXi : Tb.X[i]? = some (He.ga K r.cls, fieldOf r) := by rw [hX, List.getElem?_map, hr]; rfl
  unfold initB at hi
  split at hi
  · rename_i me arg n1 n2 m2 p1 f p2 a2 p3 p4 q1 q2 q3
    obtain ⟨hi, i8⟩ := and2 hi
    obtain ⟨hi, i7⟩ := and2 hi
    obtain ⟨hi, i6⟩ := and2 hi
    obtain ⟨hi, i5⟩ := and2 hi
    obtain ⟨hi, i4⟩ := and2 hi
    obtain ⟨hi, i3⟩ := and2 hi
    obtain ⟨i1, i2⟩ := and2 hi
    have i3 : m2 = me := of_decide_eq_true i3
    have i4 : a2 = arg := of_decide_eq_true i4
    subst i3 i4
    have hf : fieldOf r = f := by unfold fieldOf; rw [q3]
    rw [q3] at F
    rw [hf] at hXi e8
    have nd : (r.row.as.map (·.arg)).Nodup := by rw [q1]; simpa using of_decide_eq_true i5
    have bd : Binds K fdt [m2, a2] [] := F.bindsN fun kV doc pm an cdv ct us hl => by
      rw [← q1]
      exact bind_gen nd (by rw [q1]; exact hl)
    exact ⟨He.ga K r.cls, He.ma K (He.ga K r.cls) "__init__", fdt, m2, a2, f, _, _, _, _, [], [], _, _, _, _, g1, hXi, T, of_decide_eq_true e6, of_decide_eq_true e7, F, C8.fnScope_by i8, i6, i7, bd, of_decide_eq_true e8⟩
  · cases hi
theorem tl_ok {R : Rws} {r : FRow} (c : He.SaysD (faOf M G) R.defs K) (X : K.In h) (Gm : h.Ns mainGlobals mg) (hm : M.told = some r.x) (hr : r ∈ R.tld) (hb : toldB M G R r = true) (he : ∀ er ∈ R.ers, exEB K (He.ga K er.cls) (fieldOf er) = true) (hxn : M.exn = R.ers.map (·.cls))
    (hX : Tb.X = R.ers.map fun r => (He.ga K r.cls, fieldOf r)) : TlOk G K mg r.x := by
  have g1 : mg r.x = some (.ref (He.ga K r.x)) := He.glo_ok X Gm (He.SaysD.facts c (f := .glo r.x) (by simp [faOf, hm]))
  obtain ⟨fdt, F⟩ := He.SaysD.defs c (d := r.def) (by unfold Rws.defs; simp only [List.mem_append, List.mem_map]; exact .inr ⟨r, hr, rfl⟩)
  have F : FunD K r.x r.x ⟨[], r.as, none, [], [], none, []⟩ r.body r.scope [] [] (He.ga K r.x) fdt := F
  unfold toldB at hb
  split at hb
  · rename_i a n1 n2 okS j1 p1 a2 p2 p3 y1 p4 p5 e p6 n exS j2 p7 n3 p8 f p9 y2 p10 p11 p12 more p13 er q1 q2 q3 q4
    obtain ⟨hb, t16⟩ := and2 hb
    obtain ⟨hb, t15⟩ := and2 hb
    obtain ⟨hb, t14⟩ := and2 hb
    obtain ⟨hb, t13⟩ := and2 hb
    obtain ⟨hb, t12⟩ := and2 hb
    obtain ⟨hb, t11⟩ := and2 hb
    obtain ⟨hb, t10⟩ := and2 hb
    obtain ⟨hb, t9⟩ := and2 hb
    obtain ⟨hb, t8⟩ := and2 hb
    obtain ⟨hb, t7⟩ := and2 hb
    obtain ⟨hb, t6⟩ := and2 hb
    obtain ⟨hb, t5⟩ := and2 hb
    obtain ⟨hb, t4⟩ := and2 hb
    obtain ⟨hb, t3⟩ := and2 hb
    obtain ⟨t1, t2⟩ := and2 hb
    have t4 : a2 = a := of_decide_eq_true t4
    have t5 : n3 = n := of_decide_eq_true t5
    have t6 : e = er.cls := of_decide_eq_true t6
    have t7 : f = fieldOf er := of_decide_eq_true t7
    have t8 : okS = txt valS := of_decide_eq_true t8
    have t9 : a ≠ n := of_decide_eq_true t9
    have t13 : r.scope.names.lookup e = some .globalImplicit := of_decide_eq_true t13
    have t14 : r.scope.names.lookup n = some .local := of_decide_eq_true t14
    have hee := he er (by rw [q4]; simp)
    have hin : er.cls ∈ M.exn := by rw [hxn, q4]; simp
    have ge : mg er.cls = some (.ref (He.ga K er.cls)) := He.glo_ok X Gm (He.SaysD.facts c (f := .glo er.cls) (by simp [faOf, hin]))
    obtain ⟨d1, d2, _⟩ := name_ok t10
    obtain ⟨d3, d4, _⟩ := name_ok t11
    obtain ⟨d5, d6, _⟩ := name_ok t12
    obtain ⟨oc, od, dV, kV, doc, pm, an, cdv, ct, osl, ef, lk, hcd, _, _⟩ := id F.ex
    have nd : (r.as.map (·.arg)).Nodup := by rw [q1]; simp
    have bd : Binds K fdt [a] [] := F.bindsN fun kV doc pm an cdv ct us hl => by
      rw [← q1]
      exact bind_gen nd (by rw [q1]; exact hl)
    have e1 := (and2 hee)
    have e2 := (and2 e1.2)
    have e3 := (and2 e2.2)
    have e4 := (and2 e3.2)
    have e5 := (and2 e4.2)
    have e6 := (and2 e5.2)
    have e7 := (and2 e6.2)
    have e8 := (and2 e7.2)
    have e9 := (and2 e8.2)
    have hno := of_decide_eq_true e8.1
    have hxf := xfB_ok e9.1
    have hexm := of_decide_eq_true e9.2
    subst ef t4 t5 t6 t7 t8
    refine ⟨⟨a2, fieldOf er, exS, He.ga K r.x, He.ga K er.cls, _, r.body, r.scope, dV, kV, doc, pm, cdv, ct, oc, an, od, osl, [a2, n3], g1, F.kp, lk, hcd, bd, C8.fnScope_by t15, rfl, fun X q k1 k2 => ?_, d1, d2, fun i s hs => ?_⟩⟩
    · subst k1 k2
      rw [q3]
      exact told_try t13 ge d5 rfl (by simp [t9]) t14 d3 d4 hexm hxf hno
    · split at t16
      · rename_i s0 hs0
        obtain ⟨v1, v2⟩ := and2 t16
        rw [hs0] at hs
        cases i with
        | zero =>
          have hs : s0 = s := by simpa using hs
          subst hs
          have r1 := scal_rel (K := K) (F := fun _ => none) v2
          unfold RelD at r1
          exact ⟨by rw [hX, q4]; rfl, of_decide_eq_true v1, r1.2⟩
        | succ i => simp at hs
      · cases t16
  · cases hb
theorem mf_ok {R : Rws} (c : He.SaysD (faOf M G) R.defs K) (ex : exOf M R K = true) (X : K.In h) (Gm : h.Ns mainGlobals mg) (hr : rowsB M G R.rows G.fns M.fn = true) (hg : glbB M G = true) (hb : excB M G R = true)
    (hX : Tb.X = R.ers.map fun r => (He.ga K r.cls, fieldOf r)) (hcs : Tb.cs = M.lams.map fun x => He.cT K (x, none)) (hTT : Tb.T = (R.rows.filter fun r => M.lams.contains r.x).map fun r => ((He.cT K (r.x, none)).2, lamQ r.x r.scope)) : MF M G K mg := by
  have fa : ∀ f ∈ faOf M G, f.ok K = true := fun f hf => He.SaysD.facts c hf
  have glo : ∀ x ∈ M.fn, mg x = some (.ref (He.ga K x)) := fun x hx => He.glo_ok X Gm (fa (.glo x) (by simp [faOf, hx]))
  refine ⟨fun x hx => He.free_ok X Gm (fa (.free x) (by simp [faOf, hx])), fun n x d h1 h2 => ?_, fun x hx => ?_, fun f x hx => ⟨fun fd hf => ?_⟩, fun i x hx => ?_, fun x hx => ?_⟩
  · have hz := zip_at h1 h2
    obtain ⟨g1, g2⟩ := and2 hg
    have this0 := List.all_eq_true.mp g2 _ hz
    obtain ⟨_, ex2⟩ := and2 (and2 ex).1
    by_cases hT : tupsD M x d = true
    · cases d <;> first | (cases hT; done) | skip
      rename_i ds
      unfold tupsD at hT
      obtain ⟨p, hp, hq⟩ := List.any_eq_true.mp hT
      obtain ⟨hq, q3⟩ := and2 hq
      obtain ⟨q1, q2⟩ := and2 hq
      have q1 : p.1 = x := of_decide_eq_true q1
      have q2 : p.2.length = ds.length := of_decide_eq_true q2
      have hds := zipI_ok q2 q3
      subst hds
      have ht := List.all_eq_true.mp ex2 _ hp
      unfold tupIn at ht
      rw [q1] at ht
      obtain ⟨t1, t2⟩ := and2 ht
      refine ⟨.ref (He.ga K x), .ref (He.ga K x), PySem.W.mg_of X Gm (He.eqO_ok t1), rfl, fun F => ?_⟩
      split at t2
      · rename_i c od its n osl hl
        obtain ⟨t2, t4⟩ := and2 t2
        obtain ⟨t2, t3⟩ := and2 t2
        have t2 : c = "tuple" := of_decide_eq_true t2
        have t4 : its.size ≤ 64 := of_decide_eq_true t4
        have hv := intsB_ok t3
        have hlen : (p.2.map V.int).length = its.toList.length := Paired.length hv
        have sl : 64 ≤ sizeLine := by decide
        subst t2
        unfold RelD
        exact ⟨_, p.2.map V.int, rfl, .inr ⟨_, its, n, hl, rfl, rfl, by omega, hv⟩, relDs_ints p.2, by simp at hlen ⊢; omega⟩
      · cases t2
    have this : (cfa (x, d)).isSome = true := by
      rcases (Bool.or_eq_true _ _).mp this0 with z | z
      · exact z
      · exact absurd z hT
    cases d <;> first | (cases this; done) | skip
    · rename_i i
      obtain ⟨t, e⟩ := He.int_ok X Gm (fa (.int x i) (by
        unfold faOf
        exact List.mem_append.mpr (.inr (List.mem_filterMap.mpr ⟨_, hz, rfl⟩))))
      exact ⟨_, .int i, e, ⟨t, rfl⟩, fun F => by unfold RelD; rfl⟩
    · rename_i z
      unfold cfa at this
      dsimp only at this
      split at this
      · rename_i hs
        obtain ⟨t, e⟩ := He.str_ok X Gm (fa (.str x (txt z)) (by
          unfold faOf
          exact List.mem_append.mpr (.inr (List.mem_filterMap.mpr ⟨_, hz, by unfold cfa; dsimp only; rw [if_pos hs]⟩))))
        exact ⟨_, .str (txt z), e, ⟨t, rfl⟩, fun F => scal_rel hs⟩
      · cases this
  · have ex := (and2 (and2 ex).1).1
    rw [hx] at ex
    exact PySem.W.mg_of X Gm (He.eqO_ok ex)
  · obtain ⟨r, h1, h2, h3⟩ := rows_at hr hx hf
    unfold rowB at h3
    obtain ⟨h3, c7⟩ := and2 h3
    obtain ⟨h3, c6⟩ := and2 h3
    obtain ⟨h3, c5⟩ := and2 h3
    obtain ⟨h3, c4⟩ := and2 h3
    obtain ⟨h3, c3⟩ := and2 h3
    obtain ⟨c1, c2⟩ := and2 h3
    obtain ⟨fdt, F⟩ := He.SaysD.defs c (d := r.def) (by unfold Rws.defs; simp only [List.mem_append, List.mem_map]; exact .inl (.inl ⟨r, List.mem_of_getElem? h1, rfl⟩))
    have F : FunD K r.x r.x ⟨[], r.as, none, [], [], none, []⟩ r.body r.scope [] [] (He.ga K r.x) fdt := F
    have hd : fd.defs = [] := by cases q : fd.defs <;> first | rfl | (rw [q] at c4; cases c4)
    subst h2
    have c5 := of_decide_eq_true c5
    have hn : (r.as.map (·.arg)).length = fd.n := by rw [List.length_map]; exact of_decide_eq_true c2
    refine ⟨_, _, _, _, _, _, fdt, r.N, r.as.map (·.arg), F, C8.fnScope_by c6, glo _ (List.mem_of_getElem? hx), of_decide_eq_true c1, hn, of_decide_eq_true c3, by rw [hd]; rfl, fun nargs a1 a2 => ?_, c7, fun hl => lam_F F (List.mem_of_getElem? h1) hl (of_decide_eq_true (and2 (and2 ex).2).2) hcs hTT⟩
    rw [hd] at a2 ⊢
    refine ⟨[], F.bindsN fun kV doc pm an cdv ct us hl => bind_gen c5 hl, ?_⟩
    simp only [List.drop_nil, List.map_nil]
    exact .nil
  · obtain ⟨b1, b2⟩ := and2 (and2 (and2 (and2 (and2 hb).1).1).1).1
    have b1 := of_decide_eq_true b1
    rw [b1, List.getElem?_map] at hx
    obtain ⟨r, hr1, rfl⟩ := Option.map_eq_some_iff.mp hx
    have hm := List.mem_of_getElem? hr1
    exact ef_ok c X Gm (by rw [b1]; exact List.mem_map.mpr ⟨r, hm, rfl⟩) hr1 (List.all_eq_true.mp b2 r hm) (List.all_eq_true.mp (and2 (and2 ex).2).1 r hm) hX
  · obtain ⟨b4, b5⟩ := and2 (and2 (and2 hb).1).1
    obtain ⟨b4', b3⟩ := and2 b4
    have b3 := of_decide_eq_true b3
    rw [hx] at b3
    obtain ⟨r, hr1, e⟩ : ∃ r ∈ R.tld, r.x = x := by
      have : x ∈ R.tld.map (·.x) := by rw [← b3]; simp
      obtain ⟨r, h1, h2⟩ := List.mem_map.mp this
      exact ⟨r, h1, h2⟩
    subst e
    exact tl_ok c X Gm hx hr1 (List.all_eq_true.mp b5 r hr1) (fun er he => List.all_eq_true.mp (and2 (and2 ex).2).1 er he) (of_decide_eq_true (and2 b4').1) hX
/-- the law: its def, its promise -/
theorem law_ok {R : Rws} {P : Program} {w : World} {iL k : Nat} {fa : Addr} {r : FRow} (c : He.SaysD (faOf M G) R.defs K) (ex : exOf M R K = true) (X : K.In h) (Gm : h.Ns mainGlobals mg) (hr : rowsB M G R.rows G.fns M.fn = true) (hg : glbB M G = true) (hb : excB M G R = true)
    (hX : Tb.X = R.ers.map fun r => (He.ga K r.cls, fieldOf r)) (hcs : Tb.cs = M.lams.map fun x => He.cT K (x, none)) (hTT : Tb.T = (R.rows.filter fun r => M.lams.contains r.x).map fun r => ((He.cT K (r.x, none)).2, lamQ r.x r.scope))
    {fd : FnD} (h0 : G.fns[iL]? = some fd) (h1 : M.fn[iL]? = some ("law" : Str)) (h2 : R.rows[iL]? = some r) (h3 : r.as.map (·.arg) = [("script" : Str)]) (h4 : mg ("law" : Str) = some (.ref fa)) (hn : fd.n = 1) :
    ∃ fdt : FuncData, (∀ (s : Shared) (v : Value), BindsTo s fdt ⟨[v], []⟩ [("script", v)]) ∧ ∀ base : Heap, (∀ p ∈ Tb.cs, LamX.TabB base mg p.1 p.2) → FnOk P w K mg base (L2.CX P w) (3 * k) fa fdt ["script"] (spI K 1 (bwOf fd.asg) (callI G k iL)) := by
  have mf := mf_ok c ex X Gm hr hg hb hX hcs hTT
  obtain ⟨r', q1, q2, q3⟩ := rows_at hr h1 h0
  rw [h2] at q1
  cases q1
  have hmem : r ∈ R.rows := List.mem_of_getElem? h2
  obtain ⟨fdt, F⟩ := He.SaysD.defs c (d := r.def) (by unfold Rws.defs; simp only [List.mem_append, List.mem_map]; exact .inl (.inl ⟨r, hmem, rfl⟩))
  have F : FunD K r.x r.x ⟨[], r.as, none, [], [], none, []⟩ r.body r.scope [] [] (He.ga K r.x) fdt := F
  have lamF := fun hl => lam_F F hmem hl (of_decide_eq_true (and2 (and2 ex).2).2) hcs hTT
  unfold rowB at q3
  obtain ⟨q3, c7⟩ := and2 q3
  obtain ⟨q3, c6⟩ := and2 q3
  obtain ⟨q3, c5⟩ := and2 q3
  obtain ⟨q3, c4⟩ := and2 q3
  obtain ⟨q3, c3⟩ := and2 q3
  obtain ⟨c1, c2⟩ := and2 q3
  have e : fa = He.ga K "law" := by
    have := He.glo_ok X Gm (He.SaysD.facts c (f := .glo "law") (by simp [faOf, List.mem_of_getElem? h1]))
    rw [h4] at this
    cases this
    rfl
  subst e
  refine ⟨fdt, fun s v => ?_, fun base hT => ?_⟩
  · have := FunD.bindsA (ps := ["script"]) F (fun kV doc pm an cdv ct us hl => by
      rw [← h3]
      exact bind_gen (of_decide_eq_true c5) (by rw [h3]; exact hl)) s [v] rfl
    exact this
  · cases k with
    | zero =>
      have := fn_0 (P := P) (w := w) (K := K) (mg := mg) (base := base) (CX := L2.CX P w) (f := He.ga K "law") (F := fdt) (ps := ["script"]) (G := G) (i := iL) (fd := fd)
      exact this
    | succ k =>
      have key : FnOk P w K mg base (L2.CX P w) (3 * k + 2 + 1) (He.ga K "law") fdt [("script" : Str)] (spI K fd.n (bwOf fd.asg) (callI G (k + 1) iL)) := by
        rw [q2] at F
        refine fn_I (j := 3 * k + 2) F (by have := C8.fnScope_by c6; rw [h3] at this; exact this) h0 (of_decide_eq_true c1) (by rw [hn]; rfl) (of_decide_eq_true c3) fun cdv ec A outer s H E hr => ?_
        refine chkSs_ok (k := k) (CX := L2.CX P w) (Γ := ctxOf M r.x r.N r.scope fd) fd.body ⟨all_ok mf hT k, hr, rfl, rfl, (C8.fnScope_by c6).nd, rfl, fun _ _ => rfl, ?_, takes_of rfl rfl rfl rfl, fun hl => ?_⟩ (fun j hj => ?_) c7
        · exact L2.passes_of (K := fun e s'' => L2.CX P w outer H s E e s'') rfl
        · obtain ⟨c', Pt, z1, z2, z3, z4⟩ := lamF hl
          rw [q2] at z3 z4
          exact ⟨c', Pt, hT _ z2, by rw [← ec]; exact z1, z3, z4⟩
        · have := (List.getElem?_eq_some_iff.mp (mem_bwOf.mp hj)).1
          show j < fd.n
          have := of_decide_eq_true c3
          omega
      rw [hn] at key
      exact key
end
end Ip
end

section
set_option linter.all false
set_option autoImplicit false
set_option maxHeartbeats 4000000
namespace Ip
/-! ### running the interpreter by hand -/
/-- a mark whose type hangs on what follows: so simp leaves what follows alone until it is its turn -/
structure Tail {γ : Type} (f : γ) : Type where
def R.bindT {α β : Type} (r : R α) (f : α → Env → R β) (_u : Tail f := ⟨⟩) : R β := r.bind f
def R.stT {α : Type} (r : R α) (f : α → Env → SR) (_u : Tail f := ⟨⟩) : SR := r.st f
@[simp] theorem bindK {α β : Type} {a : α} {e : Env} {f : α → Env → R β} {u : Tail f} : (R.ok a e).bindT f u = f a e := Eq.trans rfl rfl
@[simp] theorem stK {α : Type} {a : α} {e : Env} {f : α → Env → SR} {u : Tail f} : (R.ok a e).stT f u = f a e := Eq.trans rfl rfl
/-- a call's end from its body's -/
def finC (n : Nat) : SR → RC
  | .nx e => .ok (.d .non) (e.take n)
  | .rt w e => .ok w (e.take n)
  | .exc x e => .exc x (e.take n)
  | _ => .no
@[simp] theorem finC_nx {n : Nat} {e : Env} : finC n (.nx e) = .ok (.d .non) (e.take n) := Eq.trans rfl rfl
@[simp] theorem finC_rt {n : Nat} {w : SV} {e : Env} : finC n (.rt w e) = .ok w (e.take n) := Eq.trans rfl rfl
theorem callI_eq {G : Cfg} {k f : Nat} {xs : List SV} {fd : FnD} (h : G.fns[f]? = some fd) (hl : xs.length = fd.n) : callI G (k + 1) f xs = finC fd.n (execSs G (callI G k) fd.n fd.body (xs ++ List.replicate (fd.m - fd.n) .un)) := by
  show (match G.fns[f]? with | none => RC.no | some fd => _) = _
  rw [h]
  dsimp only
  rw [if_pos hl]
  cases execSs G (callI G k) fd.n fd.body (xs ++ List.replicate (fd.m - fd.n) .un) <;> rfl
/-- a call of a def, all arguments given -/
def dc (cl : Nat → List SV → RC) (f : Nat) (as : List Bool) (ws : List W) (e : Env) : R W := match moves as ws e with
  | none => .no
  | some (xs, e1) => match cl f xs with
    | .ok w fin => .ok (.v w) (backs as ws fin e1)
    | .exc x fin => .exc x (backs as ws fin e1)
    | .no => .no
theorem doCallD {G : Cfg} {cl : Nat → List SV → RC} {f : Nat} {ws : List W} {e : Env} {fd : FnD} (h : G.fns[f]? = some fd) (hl : ws.length = fd.n) (hd : fd.defs = []) : doCall G cl f ws e = dc cl f fd.asg ws e := by
  unfold doCall dc
  rw [h]
  dsimp only
  rw [hd, if_pos ⟨by omega, by simp; omega⟩]
  cases moves fd.asg ws e with
  | none => rfl
  | some p =>
    simp only [List.drop_nil, List.map_nil, List.append_nil]
    all_goals (cases cl f p.1 <;> rfl)
@[simp] theorem execSs_nil {G : Cfg} {cl : Nat → List SV → RC} {np : Nat} {e : Env} : execSs G cl np [] e = .nx e := Eq.trans rfl rfl
/-- what follows a statement -/
def andThen (r : SR) (f : Env → SR) (_u : Tail f := ⟨⟩) : SR := match r with
  | .nx e => f e
  | r => r
@[simp] theorem execSs_cons {G : Cfg} {cl : Nat → List SV → RC} {np : Nat} {e : Env} {c : CS} {cs : List CS} : execSs G cl np (c :: cs) e = andThen (execS G cl np c e) (execSs G cl np cs) := by
  rw [execSs]
  cases execS G cl np c e <;> rfl
@[simp] theorem andThen_nx {e : Env} {f : Env → SR} {u : Tail f} : andThen (.nx e) f u = f e := Eq.trans rfl rfl
@[simp] theorem andThen_rt {w : SV} {e : Env} {f : Env → SR} {u : Tail f} : andThen (.rt w e) f u = .rt w e := Eq.trans rfl rfl
@[simp] theorem andThen_bk {e : Env} {f : Env → SR} {u : Tail f} : andThen (.bk e) f u = .bk e := Eq.trans rfl rfl
@[simp] theorem andThen_ct {e : Env} {f : Env → SR} {u : Tail f} : andThen (.ct e) f u = .ct e := Eq.trans rfl rfl
@[simp] theorem retW_v {n : Nat} {x : SV} {e : Env} : retW n (.v x) e = .rt x e := Eq.trans rfl rfl
/-! loops -/
@[simp] theorem forL_nil {f : D → Env → SR} {e : Env} : forL f [] e = .nx e := Eq.trans rfl rfl
theorem forL_nx {f : D → Env → SR} {x : D} {xs : List D} {e e' : Env} (h : f x e = .nx e') : forL f (x :: xs) e = forL f xs e' := by
  rw [forL]; rw [h]
theorem forL_ct {f : D → Env → SR} {x : D} {xs : List D} {e e' : Env} (h : f x e = .ct e') : forL f (x :: xs) e = forL f xs e' := by
  rw [forL]; rw [h]
theorem forL_bk {f : D → Env → SR} {x : D} {xs : List D} {e e' : Env} (h : f x e = .bk e') : forL f (x :: xs) e = .nx e' := by
  rw [forL]; rw [h]
theorem forL_rt {f : D → Env → SR} {x : D} {xs : List D} {e e' : Env} {w : SV} (h : f x e = .rt w e') : forL f (x :: xs) e = .rt w e' := by
  rw [forL]; rw [h]
/-- every turn goes on -/
theorem forL_fold {S : Type} (mk : S → Env) (st : S → D → S) {f : D → Env → SR} : ∀ (xs : List D) (s : S), (∀ x ∈ xs, ∀ s, f x (mk s) = .nx (mk (st s x))) → forL f xs (mk s) = .nx (mk (xs.foldl st s))
  | [], s, _ => rfl
  | x :: xs, s, h => by
    rw [forL_nx (h x (by simp) s)]
    exact forL_fold mk st xs (st s x) fun y hy => h y (by simp [hy])
/-- .. under an invariant -/
theorem forL_inv {S : Type} (mk : S → Env) (st : S → D → S) (P : S → Prop) {f : D → Env → SR} : ∀ (xs : List D) (s : S), P s → (∀ x ∈ xs, ∀ s, P s → f x (mk s) = .nx (mk (st s x)) ∧ P (st s x)) → forL f xs (mk s) = .nx (mk (xs.foldl st s)) ∧ P (xs.foldl st s)
  | [], s, p, _ => ⟨rfl, p⟩
  | x :: xs, s, p, h => by
    obtain ⟨h1, h2⟩ := h x (by simp) s p
    rw [forL_nx h1]
    exact forL_inv mk st P xs (st s x) h2 fun y hy => h y (by simp [hy])
/-- every turn keeps a property of the environment -/
theorem forL_all {P : Env → Prop} {f : D → Env → SR} : ∀ (xs : List D) (e : Env), P e → (∀ x ∈ xs, ∀ e, P e → ∃ e', f x e = .nx e' ∧ P e') → ∃ e', forL f xs e = .nx e' ∧ P e'
  | [], e, p, _ => ⟨e, rfl, p⟩
  | x :: xs, e, p, h => by
    obtain ⟨e1, h1, h2⟩ := h x (by simp) e p
    rw [forL_nx h1]
    exact forL_all xs e1 h2 fun y hy => h y (by simp [hy])
/-- every turn keeps a property that counts turns; a turn may break -/
theorem forL_cnt {P : Nat → Env → Prop} {f : D → Env → SR} {N : Nat} : ∀ (xs : List D) (n : Nat) (e : Env), n + xs.length ≤ N → P n e → (∀ x ∈ xs, ∀ n e, n < N → P n e → ∃ e', ((f x e = .nx e' ∨ f x e = .ct e') ∧ P (n + 1) e') ∨ (f x e = .bk e' ∧ P n e')) → ∃ n' e', forL f xs e = .nx e' ∧ n' ≤ n + xs.length ∧ P n' e'
  | [], n, e, hN, p, _ => ⟨n, e, rfl, by simp, p⟩
  | x :: xs, n, e, hN, p, h => by
    have hN' : n + (xs.length + 1) ≤ N := hN
    obtain ⟨e1, ⟨h1, h2⟩ | ⟨h1, h2⟩⟩ := h x (by simp) n e (by omega) p
    · obtain ⟨n', e', h3, h4, h5⟩ := forL_cnt xs (n + 1) e1 (by omega) h2 fun y hy => h y (by simp [hy])
      refine ⟨n', e', ?_, by simp only [List.length_cons]; omega, h5⟩
      rcases h1 with h1 | h1
      · rw [forL_nx h1, h3]
      · rw [forL_ct h1, h3]
    · exact ⟨n, e1, forL_bk h1, by simp only [List.length_cons]; omega, h2⟩
/-- .. all turns, or a break -/
theorem forL_brk {P : Nat → Env → Prop} {Q : Env → Prop} {f : D → Env → SR} : ∀ (xs : List D) (n : Nat) (e : Env), P n e → (∀ x ∈ xs, ∀ n e, P n e → ∃ e', ((f x e = .nx e' ∨ f x e = .ct e') ∧ P (n + 1) e') ∨ (f x e = .bk e' ∧ Q e')) → ∃ e', forL f xs e = .nx e' ∧ (P (n + xs.length) e' ∨ Q e')
  | [], n, e, p, _ => ⟨e, rfl, .inl p⟩
  | x :: xs, n, e, p, h => by
    obtain ⟨e1, ⟨h1, h2⟩ | ⟨h1, h2⟩⟩ := h x (by simp) n e p
    · obtain ⟨e', h3, h4⟩ := forL_brk xs (n + 1) e1 h2 fun y hy => h y (by simp [hy])
      refine ⟨e', ?_, ?_⟩
      · rcases h1 with h1 | h1
        · rw [forL_nx h1, h3]
        · rw [forL_ct h1, h3]
      · rw [show n + (x :: xs).length = n + 1 + xs.length by simp only [List.length_cons]; omega]
        exact h4
    · exact ⟨e1, forL_bk h1, .inr h2⟩
/-- .. or a return -/
theorem forL_ret {P : Nat → Env → Prop} {Q : SV → Env → Prop} {f : D → Env → SR} : ∀ (xs : List D) (n : Nat) (e : Env), P n e → (∀ x ∈ xs, ∀ n e, P n e → (∃ e', (f x e = .nx e' ∨ f x e = .ct e') ∧ P (n + 1) e') ∨ ∃ v e', f x e = .rt v e' ∧ Q v e') → (∃ e', forL f xs e = .nx e' ∧ P (n + xs.length) e') ∨ ∃ v e', forL f xs e = .rt v e' ∧ Q v e'
  | [], n, e, p, _ => .inl ⟨e, rfl, p⟩
  | x :: xs, n, e, p, h => by
    rcases h x (by simp) n e p with ⟨e1, h1, h2⟩ | ⟨v, e1, h1, h2⟩
    · have ih := forL_ret (Q := Q) xs (n + 1) e1 h2 fun y hy => h y (by simp [hy])
      have e : forL f (x :: xs) e = forL f xs e1 := by
        rcases h1 with h1 | h1
        · rw [forL_nx h1]
        · rw [forL_ct h1]
      rw [e, show n + (x :: xs).length = n + 1 + xs.length by simp only [List.length_cons]; omega]
      exact ih
    · exact .inr ⟨v, e1, forL_rt h1, h2⟩
theorem mem_rangeL {lo : Int} {n : Nat} {x : D} (h : x ∈ rangeL lo n) : ∃ i : Nat, i < n ∧ x = .int (lo + i) := by
  unfold rangeL at h
  obtain ⟨i, hi, rfl⟩ := List.mem_map.mp h
  exact ⟨i, List.mem_range.mp hi, rfl⟩
theorem rangeL_len {lo : Int} {n : Nat} : (rangeL lo n).length = n := by simp [rangeL]
theorem compL_map {f : D → Env → R (Option D)} (g : D → Option D) : ∀ (xs : List D) (acc : List D) (e : Env), (∀ x ∈ xs, f x e = .ok (g x) e) → compL f xs acc e = .ok (acc ++ xs.filterMap g) e
  | [], acc, e, _ => by simp [compL]
  | x :: xs, acc, e, h => by
    have := h x (by simp)
    unfold compL
    rw [this]
    have ih := fun acc => compL_map g xs acc e fun y hy => h y (by simp [hy])
    cases q : g x with
    | none => simp only [List.filterMap_cons, q]; exact ih acc
    | some y => simp only [List.filterMap_cons, q]; rw [ih]; simp

/-! one step at a time -/
section
variable {G : Cfg} {cl : Nat → List SV → RC} {np : Nat} {e : Env}
@[simp] theorem ev_cst {x : D} : evalE G cl (.cst x) e = .ok (.v (.d x)) e := Eq.trans rfl rfl
/-- what a name gives -/
def varR (i : Nat) (e : Env) : Option SV → R W
  | some .un => .no
  | some (.d x) => .ok (.v (.d x)) e
  | some _ => .ok (.r i none) e
  | none => .no
@[simp] theorem varR_d {i : Nat} {x : D} : varR i e (some (.d x)) = .ok (.v (.d x)) e := Eq.trans rfl rfl
@[simp] theorem varR_lst {i : Nat} {x : List D} : varR i e (some (.lst x)) = .ok (.r i none) e := Eq.trans rfl rfl
@[simp] theorem varR_dct {i : Nat} {x : List (D × D)} : varR i e (some (.dct x)) = .ok (.r i none) e := Eq.trans rfl rfl
@[simp] theorem ev_var {i : Nat} : evalE G cl (.var i) e = varR i e e[i]? := by
  rw [evalE]; unfold varR; cases e[i]? with
  | none => rfl
  | some x => cases x <;> rfl
@[simp] theorem ev_glb {n : Nat} {x : D} (h : G.consts[n]? = some x) : evalE G cl (.glb n) e = .ok (.v (.d x)) e := by rw [evalE, h]
@[simp] theorem ev_tup {es : List CE} : evalE G cl (.tup es) e = (evalEs G cl es e).bindT fun ws e => match takeAll ws e with
    | some (xs, e1) => .ok (.v (.d (.tup xs))) e1
    | none => .no := Eq.trans rfl rfl
@[simp] theorem ev_lst {es : List CE} : evalE G cl (.lst es) e = (evalEs G cl es e).bindT fun ws e => match takeAll ws e with
    | some (xs, e1) => .ok (.v (.lst xs)) e1
    | none => .no := Eq.trans rfl rfl
@[simp] theorem ev_bin {op : BOp} {a b : CE} : evalE G cl (.bin op a b) e = (evalE G cl a e).bindT fun x e => (evalE G cl b e).bindT fun y e => match see e x, see e y with
    | some x, some y => pure1 e (bop op x y)
    | _, _ => .no := Eq.trans rfl rfl
@[simp] theorem ev_neg {a : CE} : evalE G cl (.neg a) e = (evalE G cl a e).bindT fun x e => match see e x with
    | some (.int i) => .ok (.v (.d (.int (-i)))) e
    | _ => .no := Eq.trans rfl rfl
@[simp] theorem ev_not {a : CE} : evalE G cl (.not a) e = (evalE G cl a e).bindT fun x e => match (see e x).bind truD with
    | some b => .ok (.v (.d (.bl (!b)))) e
    | none => .no := Eq.trans rfl rfl
@[simp] theorem ev_cmp {op : COp} {a b : CE} : evalE G cl (.cmp op a b) e = (evalE G cl a e).bindT fun x e => (evalE G cl b e).bindT fun y e => match see e x, see e y with
    | some x, some y => match cop op x y with
      | some c => .ok (.v (.d (.bl c))) e
      | none => .no
    | _, _ => .no := Eq.trans rfl rfl
@[simp] theorem ev_cmp2 {op1 op2 : COp} {a b c : CE} : evalE G cl (.cmp2 op1 op2 a b c) e = (evalE G cl a e).bindT fun x e => (evalE G cl b e).bindT fun y e => match see e x, see e y with
    | some x, some y' => match cop op1 x y' with
      | some true => (evalE G cl c e).bindT fun z e => match see e y, see e z with
        | some y, some z => match cop op2 y z with
          | some c => .ok (.v (.d (.bl c))) e
          | none => .no
        | _, _ => .no
      | some false => .ok (.v (.d (.bl false))) e
      | none => .no
    | _, _ => .no := Eq.trans rfl rfl
@[simp] theorem ev_and {a b : CE} : evalE G cl (.and a b) e = (evalE G cl a e).bindT fun x e => match (see e x).bind truD with
    | some true => evalE G cl b e
    | some false => .ok x e
    | none => .no := Eq.trans rfl rfl
@[simp] theorem ev_or {a b : CE} : evalE G cl (.or a b) e = (evalE G cl a e).bindT fun x e => match (see e x).bind truD with
    | some true => .ok x e
    | some false => evalE G cl b e
    | none => .no := Eq.trans rfl rfl
@[simp] theorem ev_ite {c a b : CE} : evalE G cl (.ite c a b) e = (evalE G cl c e).bindT fun x e => match (see e x).bind truD with
    | some true => evalE G cl a e
    | some false => evalE G cl b e
    | none => .no := Eq.trans rfl rfl
@[simp] theorem ev_idx {a i : CE} : evalE G cl (.idx a i) e = (evalE G cl a e).bindT fun x e => (evalE G cl i e).bindT fun y e => match see e x, see e y with
    | some x, some y => pure1 e ((idxD x y).map .d)
    | _, _ => .no := Eq.trans rfl rfl
@[simp] theorem ev_slc {a : CE} {lo hi : Option CE} : evalE G cl (.slc a lo hi) e = (evalE G cl a e).bindT fun x e => (evalO G cl lo e).bindT fun l e => (evalO G cl hi e).bindT fun h e => match see e x with
    | some x => pure1 e (slcD x l h)
    | none => .no := Eq.trans rfl rfl
@[simp] theorem ev_call {f : Nat} {as : List CE} : evalE G cl (.call f as) e = (evalEs G cl as e).bindT fun ws e => doCall G cl f ws e := Eq.trans rfl rfl
@[simp] theorem ev_bi {f : BFn} {as : List CE} : evalE G cl (.bi f as) e = (evalEs G cl as e).bindT fun ws e => match seeAll e ws with
    | some xs => pure1 e (bfn f xs)
    | none => .no := Eq.trans rfl rfl
@[simp] theorem ev_isin {a : CE} {ts : List Ty} : evalE G cl (.isin a ts) e = (evalE G cl a e).bindT fun x e => match see e x with
    | some x => .ok (.v (.d (.bl (ts.any (isTy x))))) e
    | none => .no := Eq.trans rfl rfl
@[simp] theorem ev_meth {m : MFn} {o : CE} {as : List CE} : evalE G cl (.meth m o as) e = (evalE G cl o e).bindT fun w e => if okM m (con e w) && calm w as then (evalEs G cl as e).bindT fun ws e => methW e m w ws else .no := Eq.trans rfl rfl
@[simp] theorem ev_nil : evalEs G cl [] e = .ok [] e := Eq.trans rfl rfl
@[simp] theorem ev_cons {a : CE} {as : List CE} : evalEs G cl (a :: as) e = (evalE G cl a e).bindT fun w e => (evalEs G cl as e).bindT fun ws e => .ok (w :: ws) e := Eq.trans rfl rfl
@[simp] theorem ev_oN : evalO G cl none e = .ok none e := Eq.trans rfl rfl
@[simp] theorem ev_oS {a : CE} : evalO G cl (some a) e = (evalE G cl a e).bindT fun w e => match intO e w with
    | some i => .ok (some i) e
    | none => .no := Eq.trans rfl rfl
@[simp] theorem it_e {a : CE} : evalI G cl (.e a) e = (evalE G cl a e).bindT fun w e => match take e w with
    | some (x, e1) => ofO e1 (itemsD x)
    | none => .no := Eq.trans rfl rfl
/-- a range's items; no step of the kernel may unfold it at a name's number (it would count the bound down) -/
def rngR (e : Env) : Option (List D) → R (List D)
  | some xs => ofO e (rangeD xs)
  | none => .no
@[simp] theorem rngR_some {xs : List D} : rngR e (some xs) = ofO e (rangeD xs) := Eq.trans rfl rfl
@[simp] theorem it_range {as : List CE} : evalI G cl (.range as) e = (evalEs G cl as e).bindT fun ws e => rngR e (seeAll e ws) := by
  rw [evalI]
  congr 1
  funext ws e
  cases seeAll e ws <;> rfl
@[simp] theorem it_rev {a : CE} : evalI G cl (.rev a) e = (evalE G cl a e).bindT fun w e => match take e w with
    | some (.lst xs, e1) => .ok xs.reverse e1
    | some (.tup xs, e1) => .ok xs.reverse e1
    | _ => .no := Eq.trans rfl rfl
@[simp] theorem as_name {i : Nat} {w : W} : assign G cl (.name i) w e = assignN i w e := by
  cases w <;> rfl
@[simp] theorem assignN_v {i : Nat} {x : SV} : assignN i (.v x) e = .ok () (e.set i x) := Eq.trans rfl rfl
@[simp] theorem as_tup {ts : List Tg} {w : W} : assign G cl (.tup ts) w e = match take e w with
    | some (.tup xs, e1) => if xs.length = ts.length then assigns G cl ts xs e1 else .no
    | some (.lst xs, e1) => if xs.length = ts.length then assigns G cl ts xs e1 else .no
    | _ => .no := Eq.trans rfl rfl
@[simp] theorem ass_nil : assigns G cl [] [] e = .ok () e := Eq.trans rfl rfl
@[simp] theorem ass_cons {t : Tg} {ts : List Tg} {x : D} {xs : List D} : assigns G cl (t :: ts) (x :: xs) e = (assign G cl t (.v (.d x)) e).bindT fun _ e => assigns G cl ts xs e := Eq.trans rfl rfl
@[simp] theorem as_idx {o i : CE} {w : W} : assign G cl (.idx o i) w e = (evalE G cl o e).bindT fun wo e => (evalE G cl i e).bindT fun wi e => match take e w with
    | some (x, e1) => match wo, see e1 wi with
      | .r p q, some k => if calm wo [i] then match setI (getP e1 p q) k x with
        | some y => .ok () (setP e1 p q y)
        | none => .no
        else .no
      | _, _ => .no
    | none => .no := Eq.trans rfl rfl
@[simp] theorem ts_nil : tests G cl [] e = .ok true e := Eq.trans rfl rfl
@[simp] theorem ts_cons {c : CE} {cs : List CE} : tests G cl (c :: cs) e = (evalE G cl c e).bindT fun x e => match (see e x).bind truD with
    | some true => tests G cl cs e
    | some false => .ok false e
    | none => .no := Eq.trans rfl rfl
@[simp] theorem ex_pass : execS G cl np .pass e = .nx e := Eq.trans rfl rfl
@[simp] theorem ex_brk : execS G cl np .brk e = .bk e := Eq.trans rfl rfl
@[simp] theorem ex_cont : execS G cl np .cont e = .ct e := Eq.trans rfl rfl
@[simp] theorem ex_expr {a : CE} : execS G cl np (.expr a) e = (evalE G cl a e).stT fun _ e => .nx e := Eq.trans rfl rfl
@[simp] theorem ex_asg {t : Tg} {a : CE} : execS G cl np (.asg t a) e = (evalE G cl a e).stT fun w e => (assign G cl t w e).stT fun _ e => .nx e := Eq.trans rfl rfl
@[simp] theorem ex_retN : execS G cl np (.ret none) e = .rt (.d .non) e := Eq.trans rfl rfl
@[simp] theorem ex_ret {a : CE} : execS G cl np (.ret (some a)) e = (evalE G cl a e).stT fun w e => retW np w e := Eq.trans rfl rfl
@[simp] theorem ex_ite {c : CE} {a b : List CS} : execS G cl np (.ite c a b) e = (evalE G cl c e).stT fun w e => match (see e w).bind truD with
    | some true => execSs G cl np a e
    | some false => execSs G cl np b e
    | none => .no := Eq.trans rfl rfl
/-- a while's test, a loop's turn, a comprehension's turn -/
def wtest (G : Cfg) (cl : Nat → List SV → RC) (c : CE) (e : Env) : R Bool := (evalE G cl c e).bindT fun w e => ofO e ((see e w).bind truD)
def turn (G : Cfg) (cl : Nat → List SV → RC) (np : Nat) (t : Tg) (a : List CS) (x : D) (e : Env) : SR := (assign G cl t (.v (.d x)) e).stT fun _ e => execSs G cl np a e
def cturn (G : Cfg) (cl : Nat → List SV → RC) (own : List Nat) (t : Tg) (ifs : List CE) (elt : CE) (x : D) (e0 : Env) : R (Option D) := (assign G cl t (.v (.d x)) (wipe own e0)).bindT fun _ e => (tests G cl ifs e).bindT fun b e =>
        if b then (evalE G cl elt e).bindT fun w e => match take e w with
          | some (y, e) => .ok (some y) (unwipe own e0 e)
          | none => .no
        else .ok none (unwipe own e0 e)
@[simp] theorem ex_whl {c : CE} {a : List CS} : execS G cl np (.whl c a) e = whlL (wtest G cl c) (execSs G cl np a) turns e := Eq.trans rfl rfl
@[simp] theorem ex_for {t : Tg} {it : It} {a : List CS} : execS G cl np (.for t it a) e = (evalI G cl it e).stT fun xs e => forL (turn G cl np t a) xs e := Eq.trans rfl rfl
@[simp] theorem ev_comp {own : List Nat} {t : Tg} {it : It} {ifs : List CE} {elt : CE} : evalE G cl (.comp own t it ifs elt) e = (evalI G cl it e).bindT fun xs e => if decide (xs.length ≤ 1000000) && own.all (pureAt e) then
      (compL (cturn G cl own t ifs elt) xs [] e).bindT fun ys e => .ok (.v (.lst ys)) e else .no := Eq.trans rfl rfl
@[simp] theorem rangeD_1 {j : Int} : rangeD [.int j] = if decide (-(2 ^ 62) ≤ j) && decide (j < 2 ^ 62) then some (rangeL 0 j.toNat) else none := Eq.trans rfl rfl
@[simp] theorem rangeD_2 {i j : Int} : rangeD [.int i, .int j] = if decide (-(2 ^ 62) ≤ i) && decide (i < 2 ^ 62) && decide (-(2 ^ 62) ≤ j) && decide (j < 2 ^ 62) then some (rangeL i (j - i).toNat) else none := Eq.trans rfl rfl
@[simp] theorem see_v {x : D} : see e (.v (.d x)) = some x := Eq.trans rfl rfl
@[simp] theorem see_lstv {x : List D} : see e (.v (.lst x)) = some (.lst x) := Eq.trans rfl rfl
theorem see_r {i : Nat} : see e (.r i none) = rd (getP e i none) := Eq.trans rfl rfl
@[simp] theorem take_v {x : D} : take e (.v (.d x)) = some (x, e) := Eq.trans rfl rfl
@[simp] theorem take_lstv {x : List D} : take e (.v (.lst x)) = some (.lst x, e) := Eq.trans rfl rfl
@[simp] theorem tru_bl {b : Bool} : truD (.bl b) = some b := Eq.trans rfl rfl
@[simp] theorem pure1_some {x : SV} : pure1 e (some x) = .ok (.v x) e := Eq.trans rfl rfl
@[simp] theorem ofO_some {α : Type} {x : α} : ofO e (some x) = .ok x e := Eq.trans rfl rfl
@[simp] theorem all_nil : seeAll e [] = some [] := Eq.trans rfl rfl
@[simp] theorem all_cons {w : W} {ws : List W} : seeAll e (w :: ws) = match see e w, seeAll e ws with
    | some x, some xs => some (x :: xs)
    | _, _ => none := Eq.trans rfl rfl
@[simp] theorem tk_nil : takeAll [] e = some ([], e) := Eq.trans rfl rfl
@[simp] theorem tk_cons {w : W} {ws : List W} : takeAll (w :: ws) e = match take e w with
    | some (x, e1) => match takeAll ws e1 with
      | some (xs, e2) => some (x :: xs, e2)
      | none => none
    | none => none := Eq.trans rfl rfl
@[simp] theorem mv_nil {as : List Bool} : moves as [] e = some ([], e) := by cases as <;> rfl
@[simp] theorem mv_f {as : List Bool} {w : W} {ws : List W} : moves (false :: as) (w :: ws) e = match moves as ws (move e w).2 with
      | some (xs, e2) => some ((move e w).1 :: xs, e2)
      | none => none := Eq.trans rfl rfl
@[simp] theorem mv_t {as : List Bool} {w : W} {ws : List W} : moves (true :: as) (w :: ws) e = match take e w with
      | some (x, e1) => match moves as ws e1 with
        | some (xs, e2) => some (.d x :: xs, e2)
        | none => none
      | none => none := Eq.trans rfl rfl
@[simp] theorem move_v {x : SV} : move e (.v x) = (x, e) := Eq.trans rfl rfl
@[simp] theorem bk_nil {as : List Bool} {xs : List SV} : backs as [] xs e = e := by cases as <;> rfl
@[simp] theorem bk_e {as : List Bool} {ws : List W} : backs as ws [] e = e := by cases as <;> cases ws <;> rfl
@[simp] theorem bk_v {a : Bool} {as : List Bool} {x : SV} {ws : List W} {xs : List SV} : backs (a :: as) (.v x :: ws) xs e = backs as ws xs.tail e := by
  cases xs with
  | nil => simp
  | cons y ys => cases a <;> rfl
@[simp] theorem intO_v {i : Int} : intO e (.v (.d (.int i))) = some i := Eq.trans rfl rfl
@[simp] theorem items_lst {xs : List D} : itemsD (.lst xs) = some xs := Eq.trans rfl rfl
@[simp] theorem items_tup {xs : List D} : itemsD (.tup xs) = some xs := Eq.trans rfl rfl
end
/-! operations at the shapes that come -/
@[simp] theorem b_add {i j : Int} : bop .add (.int i) (.int j) = some (.d (.int (i + j))) := Eq.trans rfl rfl
@[simp] theorem b_sub {i j : Int} : bop .sub (.int i) (.int j) = some (.d (.int (i - j))) := Eq.trans rfl rfl
@[simp] theorem b_mul {i j : Int} : bop .mul (.int i) (.int j) = if small64 i || small64 j then some (.d (.int (i * j))) else none := Eq.trans rfl rfl
@[simp] theorem b_fdiv {i j : Int} : bop .fdiv (.int i) (.int j) = if decide (0 < j) && decide (j < 1073741824) then some (.d (.int (i / j))) else none := Eq.trans rfl rfl
@[simp] theorem b_mod {i j : Int} : bop .mod (.int i) (.int j) = if 0 < j then some (.d (.int (i % j))) else none := Eq.trans rfl rfl
@[simp] theorem b_pow {i j : Int} : bop .pow (.int i) (.int j) = if decide (0 ≤ j) && decide (j ≤ 1000) && small64 i then some (.d (.int (i ^ j.toNat))) else none := Eq.trans rfl rfl
@[simp] theorem b_addT {x y : List D} : bop .add (.tup x) (.tup y) = if x.length + y.length ≤ 1000000 then some (.d (.tup (x ++ y))) else none := Eq.trans rfl rfl
@[simp] theorem b_addL {x y : List D} : bop .add (.lst x) (.lst y) = if x.length + y.length ≤ 1000000 then some (.lst (x ++ y)) else none := Eq.trans rfl rfl
@[simp] theorem b_mulT {x : List D} {j : Int} : bop .mul (.tup x) (.int j) = if !x.isEmpty && decide (2 ≤ j) && decide (j ≤ 1000) && decide (x.length ≤ 1000) then some (.d (.tup (List.replicate j.toNat x).flatten)) else none := Eq.trans rfl rfl
@[simp] theorem c_eq {i j : Int} : cop .eq (.int i) (.int j) = some (decide (i = j)) := Eq.trans rfl rfl
@[simp] theorem c_ne {i j : Int} : cop .ne (.int i) (.int j) = some (!decide (i = j)) := Eq.trans rfl rfl
@[simp] theorem c_lt {i j : Int} : cop .lt (.int i) (.int j) = some (decide (i < j)) := Eq.trans rfl rfl
@[simp] theorem c_gt {i j : Int} : cop .gt (.int i) (.int j) = some (decide (j < i)) := Eq.trans rfl rfl
@[simp] theorem c_le {i j : Int} : cop .le (.int i) (.int j) = some (decide (i ≤ j)) := Eq.trans rfl rfl
@[simp] theorem c_ge {i j : Int} : cop .ge (.int i) (.int j) = some (decide (j ≤ i)) := Eq.trans rfl rfl
@[simp] theorem c_is_non  : cop .isN .non .non = some true := Eq.trans rfl rfl
@[simp] theorem c_nt_non  : cop .notN .non .non = some false := Eq.trans rfl rfl
@[simp] theorem ty_non_int  : isTy .non .int = false := Eq.trans rfl rfl
@[simp] theorem ty_non_bool  : isTy .non .bool = false := Eq.trans rfl rfl
@[simp] theorem ty_non_str  : isTy .non .str = false := Eq.trans rfl rfl
@[simp] theorem ty_non_tuple  : isTy .non .tuple = false := Eq.trans rfl rfl
@[simp] theorem ty_non_list  : isTy .non .list = false := Eq.trans rfl rfl
@[simp] theorem c_is_int {i : Int} : cop .isN (.int i) .non = some false := Eq.trans rfl rfl
@[simp] theorem c_nt_int {i : Int} : cop .notN (.int i) .non = some true := Eq.trans rfl rfl
@[simp] theorem ty_int_int {i : Int} : isTy (.int i) .int = true := Eq.trans rfl rfl
@[simp] theorem ty_int_bool {i : Int} : isTy (.int i) .bool = false := Eq.trans rfl rfl
@[simp] theorem ty_int_str {i : Int} : isTy (.int i) .str = false := Eq.trans rfl rfl
@[simp] theorem ty_int_tuple {i : Int} : isTy (.int i) .tuple = false := Eq.trans rfl rfl
@[simp] theorem ty_int_list {i : Int} : isTy (.int i) .list = false := Eq.trans rfl rfl
@[simp] theorem c_is_bl {b : Bool} : cop .isN (.bl b) .non = some false := Eq.trans rfl rfl
@[simp] theorem c_nt_bl {b : Bool} : cop .notN (.bl b) .non = some true := Eq.trans rfl rfl
@[simp] theorem ty_bl_int {b : Bool} : isTy (.bl b) .int = true := Eq.trans rfl rfl
@[simp] theorem ty_bl_bool {b : Bool} : isTy (.bl b) .bool = true := Eq.trans rfl rfl
@[simp] theorem ty_bl_str {b : Bool} : isTy (.bl b) .str = false := Eq.trans rfl rfl
@[simp] theorem ty_bl_tuple {b : Bool} : isTy (.bl b) .tuple = false := Eq.trans rfl rfl
@[simp] theorem ty_bl_list {b : Bool} : isTy (.bl b) .list = false := Eq.trans rfl rfl
@[simp] theorem c_is_tup {x : List D} : cop .isN (.tup x) .non = some false := Eq.trans rfl rfl
@[simp] theorem c_nt_tup {x : List D} : cop .notN (.tup x) .non = some true := Eq.trans rfl rfl
@[simp] theorem ty_tup_int {x : List D} : isTy (.tup x) .int = false := Eq.trans rfl rfl
@[simp] theorem ty_tup_bool {x : List D} : isTy (.tup x) .bool = false := Eq.trans rfl rfl
@[simp] theorem ty_tup_str {x : List D} : isTy (.tup x) .str = false := Eq.trans rfl rfl
@[simp] theorem ty_tup_tuple {x : List D} : isTy (.tup x) .tuple = true := Eq.trans rfl rfl
@[simp] theorem ty_tup_list {x : List D} : isTy (.tup x) .list = false := Eq.trans rfl rfl
@[simp] theorem c_is_lst {x : List D} : cop .isN (.lst x) .non = some false := Eq.trans rfl rfl
@[simp] theorem c_nt_lst {x : List D} : cop .notN (.lst x) .non = some true := Eq.trans rfl rfl
@[simp] theorem ty_lst_int {x : List D} : isTy (.lst x) .int = false := Eq.trans rfl rfl
@[simp] theorem ty_lst_bool {x : List D} : isTy (.lst x) .bool = false := Eq.trans rfl rfl
@[simp] theorem ty_lst_str {x : List D} : isTy (.lst x) .str = false := Eq.trans rfl rfl
@[simp] theorem ty_lst_tuple {x : List D} : isTy (.lst x) .tuple = false := Eq.trans rfl rfl
@[simp] theorem ty_lst_list {x : List D} : isTy (.lst x) .list = true := Eq.trans rfl rfl
@[simp] theorem c_is_str {z : List Nat} : cop .isN (.str z) .non = some false := Eq.trans rfl rfl
@[simp] theorem c_nt_str {z : List Nat} : cop .notN (.str z) .non = some true := Eq.trans rfl rfl
@[simp] theorem ty_str_int {z : List Nat} : isTy (.str z) .int = false := Eq.trans rfl rfl
@[simp] theorem ty_str_bool {z : List Nat} : isTy (.str z) .bool = false := Eq.trans rfl rfl
@[simp] theorem ty_str_str {z : List Nat} : isTy (.str z) .str = true := Eq.trans rfl rfl
@[simp] theorem ty_str_tuple {z : List Nat} : isTy (.str z) .tuple = false := Eq.trans rfl rfl
@[simp] theorem ty_str_list {z : List Nat} : isTy (.str z) .list = false := Eq.trans rfl rfl
@[simp] theorem bf_lenL {x : List D} : bfn .len [.lst x] = some (.d (.int x.length)) := Eq.trans rfl rfl
@[simp] theorem bf_lenT {x : List D} : bfn .len [.tup x] = some (.d (.int x.length)) := Eq.trans rfl rfl
@[simp] theorem bf_tupL {x : List D} : bfn .tuple [.lst x] = some (.d (.tup x)) := Eq.trans rfl rfl
@[simp] theorem bf_tupT {x : List D} : bfn .tuple [.tup x] = some (.d (.tup x)) := Eq.trans rfl rfl
@[simp] theorem bf_lstL {x : List D} : bfn .list [.lst x] = some (.lst x) := Eq.trans rfl rfl
@[simp] theorem bf_lstT {x : List D} : bfn .list [.tup x] = some (.lst x) := Eq.trans rfl rfl
@[simp] theorem bf_sumL {x : List D} : bfn .sum [.lst x] = (intsD x).map fun ns => .d (.int ns.sum) := Eq.trans rfl rfl
@[simp] theorem bf_sumT {x : List D} : bfn .sum [.tup x] = (intsD x).map fun ns => .d (.int ns.sum) := Eq.trans rfl rfl
@[simp] theorem bf_max2 {i j : Int} : bfn .max [.int i, .int j] = some (.d (.int (if j > i then j else i))) := Eq.trans rfl rfl
@[simp] theorem bf_min2 {i j : Int} : bfn .min [.int i, .int j] = some (.d (.int (if j < i then j else i))) := Eq.trans rfl rfl
@[simp] theorem bf_abs {i : Int} : bfn .abs [.int i] = some (.d (.int (if i < 0 then -i else i))) := Eq.trans rfl rfl
@[simp] theorem bf_int {i : Int} : bfn .int [.int i] = some (.d (.int i)) := Eq.trans rfl rfl
@[simp] theorem bf_all {x : List D} : bfn .all [.lst x] = (bools x).map fun bs => .d (.bl (bs.all id)) := Eq.trans rfl rfl
@[simp] theorem bf_any {x : List D} : bfn .any [.lst x] = (bools x).map fun bs => .d (.bl (bs.any id)) := Eq.trans rfl rfl
@[simp] theorem bf_gcd {i j : Int} : bfn .gcd [.int i, .int j] = some (.d (.int (Nat.gcd i.natAbs j.natAbs : Nat))) := Eq.trans rfl rfl
@[simp] theorem ix_lst {x : List D} {i : Int} : idxD (.lst x) (.int i) = (ix x.length i).bind fun j => x[j]? := Eq.trans rfl rfl
@[simp] theorem ix_tup {x : List D} {i : Int} : idxD (.tup x) (.int i) = (ix x.length i).bind fun j => x[j]? := Eq.trans rfl rfl
@[simp] theorem sl_lst {x : List D} {lo hi : Option Int} : slcD (.lst x) lo hi = some (.lst (cut x lo hi)) := Eq.trans rfl rfl
@[simp] theorem sl_tup {x : List D} {lo hi : Option Int} : slcD (.tup x) lo hi = some (.d (.tup (cut x lo hi))) := Eq.trans rfl rfl
@[simp] theorem fz_d {x : D} : frz (.d x) = some x := Eq.trans rfl rfl
@[simp] theorem fz_lst {x : List D} : frz (.lst x) = some (.lst x) := Eq.trans rfl rfl
@[simp] theorem see_rn {e : Env} {i : Nat} : see e (.r i none) = rd (getP e i none) := Eq.trans rfl rfl
@[simp] theorem rd_d {x : D} : rd (.d x) = some x := Eq.trans rfl rfl
@[simp] theorem rd_lst {x : List D} : rd (.lst x) = some (.lst x) := Eq.trans rfl rfl
@[simp] theorem rd_dct {x : List (D × D)} : rd (.dct x) = some (.dct x) := Eq.trans rfl rfl
@[simp] theorem con_v {e : Env} {x : SV} : con e (.v x) = x := Eq.trans rfl rfl
@[simp] theorem con_r {e : Env} {i : Nat} : con e (.r i none) = getP e i none := Eq.trans rfl rfl
theorem getP_eq {e : Env} {i : Nat} {s : SV} (h : e[i]? = some s) : getP e i none = s := by unfold getP; rw [h]
@[simp] theorem getP_0 {e : Env} {s : SV} : getP (s :: e) 0 none = s := Eq.trans rfl rfl
@[simp] theorem getP_S {e : Env} {s : SV} {i : Nat} : getP (s :: e) (i + 1) none = getP e i none := by unfold getP; simp
@[simp] theorem setP_n {e : Env} {s : SV} {i : Nat} : setP e i none s = e.set i s := Eq.trans rfl rfl
@[simp] theorem move_r {e : Env} {i : Nat} : move e (.r i none) = (getP e i none, e.set i .un) := Eq.trans rfl rfl
@[simp] theorem take_r {e : Env} {i : Nat} : take e (.r i none) = (frz (getP e i none)).map fun y => (y, e.set i (.d y)) := Eq.trans rfl rfl
@[simp] theorem bk_r {as : List Bool} {i : Nat} {y : SV} {ws : List W} {xs : List SV} {e : Env} : backs (false :: as) (.r i none :: ws) (y :: xs) e = backs as ws xs (e.set i y) := Eq.trans rfl rfl
@[simp] theorem bk_rt {as : List Bool} {i : Nat} {y : SV} {ws : List W} {xs : List SV} {e : Env} : backs (true :: as) (.r i none :: ws) (y :: xs) e = backs as ws xs e := Eq.trans rfl rfl
@[simp] theorem okM_app {x : List D} : okM .append (.lst x) = true := Eq.trans rfl rfl
@[simp] theorem okM_pop {x : List D} : okM .pop (.lst x) = true := Eq.trans rfl rfl
@[simp] theorem calm_n {i : Nat} {es : List CE} : calm (.r i none) es = true := Eq.trans rfl rfl
theorem meth_app {e : Env} {i : Nat} {xs : List D} {w : W} {x : D} {e1 : Env} (h0 : see e w = some x) (h1 : take e w = some (x, e1)) (h2 : getP e1 i none = .lst xs) (h4 : getP e i none = .lst xs) (h3 : xs.length < 1000000) : methW e .append (.r i none) [w] = .ok (.v (.d .non)) (e1.set i (.lst (xs ++ [x]))) := by
  have hs : see e (.r i none) = some (.lst xs) := by rw [see_rn, h4]; rfl
  unfold methW
  simp only [all_cons, all_nil, h0, hs, tk_cons, tk_nil, h1, h2]
  rw [show rmeth .append (.lst xs) [x] = none from rfl]
  simp only [mmeth, if_pos h3, setP_n]
def appR (e : Env) (i : Nat) (x : D) : SV → R W
  | .lst xs => if xs.length < 1000000 then .ok (.v (.d .non)) (e.set i (.lst (xs ++ [x]))) else .no
  | _ => .no
@[simp] theorem appR_l {e : Env} {i : Nat} {x : D} {xs : List D} : appR e i x (.lst xs) = if xs.length < 1000000 then .ok (.v (.d .non)) (e.set i (.lst (xs ++ [x]))) else .no := Eq.trans rfl rfl
@[simp] theorem meth_appD {e : Env} {i : Nat} {x : D} : methW e .append (.r i none) [.v (.d x)] = appR e i x (getP e i none) := by
  unfold methW
  simp only [all_cons, all_nil, see_v, see_rn, tk_cons, tk_nil, take_v]
  cases q : getP e i none with
  | lst xs =>
    simp only [rd_lst, rm_app, appR_l, mmeth]
    by_cases h : xs.length < 1000000
    · simp only [if_pos h, setP_n]
    · simp only [if_neg h]
  | un => rfl
  | d y => simp only [fz_d, rm_app, mmeth]; rfl
  | dct y => rfl
  | ins c y => cases hf : rd (.ins c y) <;> simp only [rm_app, mmeth] <;> rfl
@[simp] theorem c_eq_bl {a b : Bool} : cop .eq (.bl a) (.bl b) = some (eqD (.bl a) (.bl b)) := Eq.trans rfl rfl
@[simp] theorem c_eq_str {a b : List Nat} : cop .eq (.str a) (.str b) = some (eqD (.str a) (.str b)) := Eq.trans rfl rfl
@[simp] theorem c_ne_str {a b : List Nat} : cop .ne (.str a) (.str b) = some (!eqD (.str a) (.str b)) := Eq.trans rfl rfl
@[simp] theorem c_eq_tup {a b : List D} : cop .eq (.tup a) (.tup b) = if flatN 8 (.tup a) && flatN 8 (.tup b) then some (eqD (.tup a) (.tup b)) else none := Eq.trans rfl rfl
@[simp] theorem c_ne_tup {a b : List D} : cop .ne (.tup a) (.tup b) = if flatN 8 (.tup a) && flatN 8 (.tup b) then some (!eqD (.tup a) (.tup b)) else none := Eq.trans rfl rfl
@[simp] theorem c_eq_lst {a b : List D} : cop .eq (.lst a) (.lst b) = if flatN 8 (.lst a) && flatN 8 (.lst b) then some (eqD (.lst a) (.lst b)) else none := Eq.trans rfl rfl
@[simp] theorem c_ne_lst {a b : List D} : cop .ne (.lst a) (.lst b) = if flatN 8 (.lst a) && flatN 8 (.lst b) then some (!eqD (.lst a) (.lst b)) else none := Eq.trans rfl rfl
theorem rangeD_nat {n : Nat} (h : n ≤ 1000000) : rangeD [.int (n : Int)] = some (rangeL 0 n) := by
  have h1 : -(2 ^ 62) ≤ (n : Int) := by omega
  have h2 : (n : Int) < 2 ^ 62 := by omega
  simp only [rangeD_1, decide_eq_true h1, decide_eq_true h2, Bool.and_self, if_true, Int.toNat_natCast]
@[simp] theorem wipe_nil {e : Env} : wipe [] e = e := Eq.trans rfl rfl
@[simp] theorem wipe_cons {e : Env} {i : Nat} {is : List Nat} : wipe (i :: is) e = wipe is (e.set i .un) := Eq.trans rfl rfl
@[simp] theorem unwipe_nil {e e0 : Env} : unwipe [] e0 e = e := Eq.trans rfl rfl
/-- a name's content as it was -/
def putB (i : Nat) (e : Env) : Option SV → Env
  | some x => e.set i x
  | none => e
@[simp] theorem putB_some {e : Env} {i : Nat} {x : SV} : putB i e (some x) = e.set i x := Eq.trans rfl rfl
@[simp] theorem unwipe_cons {e e0 : Env} {i : Nat} {is : List Nat} : unwipe (i :: is) e0 e = unwipe is e0 (putB i e e0[i]?) := by
  rw [unwipe]; unfold putB; cases e0[i]? <;> rfl
@[simp] theorem pureAt_un {e : Env} {i : Nat} (h : e[i]? = some .un) : pureAt e i = true := by unfold pureAt; rw [h]
@[simp] theorem pureAt_d {e : Env} {i : Nat} {x : D} (h : e[i]? = some (.d x)) : pureAt e i = true := by unfold pureAt; rw [h]
theorem bools_all : ∀ {xs : List D} (h : ∀ x ∈ xs, x = .bl true), bools xs = some (xs.map fun _ => true)
  | [], _ => rfl
  | x :: xs, h => by
    have h1 := h x (by simp)
    subst h1
    simp [bools, bools_all fun y hy => h y (List.mem_cons_of_mem _ hy)]
/-- a comprehension of one value an item -/
theorem compL_each {f : D → Env → R (Option D)} (g : D → D) (xs : List D) (e : Env) (h : ∀ x ∈ xs, f x e = .ok (some (g x)) e) : compL f xs [] e = .ok (xs.map g) e := by
  have := compL_map (f := f) (fun x => some (g x)) xs [] e h
  rw [this]
  simp [List.filterMap_eq_map]
theorem bools_mapT {α : Type} (xs : List α) : bools (xs.map fun _ => D.bl true) = some (xs.map fun _ => true) := by
  induction xs with
  | nil => rfl
  | cons x xs ih => simp [bools, ih]
/-- all of a list of True -/
@[simp] theorem all_mapT {α : Type} (xs : List α) : bfn .all [.lst (xs.map fun _ => D.bl true)] = some (.d (.bl true)) := by
  rw [bf_all, bools_mapT]
  simp
/-- a loop goes on behind a turn -/
def loopThen (r : SR) (g : Env → SR) (_u : Tail g := ⟨⟩) : SR := match r with
  | .nx e => g e
  | .ct e => g e
  | .bk e => .nx e
  | r => r
@[simp] theorem loopThen_nx {e : Env} {g : Env → SR} {u : Tail g} : loopThen (.nx e) g u = g e := Eq.trans rfl rfl
@[simp] theorem loopThen_ct {e : Env} {g : Env → SR} {u : Tail g} : loopThen (.ct e) g u = g e := Eq.trans rfl rfl
@[simp] theorem loopThen_bk {e : Env} {g : Env → SR} {u : Tail g} : loopThen (.bk e) g u = .nx e := Eq.trans rfl rfl
@[simp] theorem loopThen_rt {w : SV} {e : Env} {g : Env → SR} {u : Tail g} : loopThen (.rt w e) g u = .rt w e := Eq.trans rfl rfl
/-- one turn (for lists that are written out) -/
theorem forL_cons {f : D → Env → SR} {x : D} {xs : List D} {e : Env} : forL f (x :: xs) e = loopThen (f x e) (forL f xs) := by
  rw [forL]; unfold loopThen; cases f x e <;> rfl
theorem whlL_go {c : Env → R Bool} {f : Env → SR} {n : Nat} {e e1 e2 : Env} (h : c e = .ok true e1) (hb : f e1 = .nx e2 ∨ f e1 = .ct e2) : whlL c f (n + 1) e = whlL c f n e2 := by
  rw [whlL, h]
  rcases hb with hb | hb <;> simp [R.st, hb]
theorem whlL_end {c : Env → R Bool} {f : Env → SR} {n : Nat} {e e1 : Env} (h : c e = .ok false e1) : whlL c f (n + 1) e = .nx e1 := by
  rw [whlL, h]
  simp [R.st]
theorem whlL_bk {c : Env → R Bool} {f : Env → SR} {n : Nat} {e e1 e2 : Env} (h : c e = .ok true e1) (hb : f e1 = .bk e2) : whlL c f (n + 1) e = .nx e2 := by
  rw [whlL, h]
  simp [R.st, hb]
theorem whlL_rt {c : Env → R Bool} {f : Env → SR} {n : Nat} {e e1 e2 : Env} {w : SV} (h : c e = .ok true e1) (hb : f e1 = .rt w e2) : whlL c f (n + 1) e = .rt w e2 := by
  rw [whlL, h]
  simp [R.st, hb]
/-- a while by a measure: P holds at each test; a turn keeps it and makes m less, or ends the loop in Q (behind it) or W (a return) -/
theorem whlL_ind {c : Env → R Bool} {f : Env → SR} {P : Env → Prop} {Q : Env → Prop} {W : SV → Env → Prop} (m : Env → Nat)
    (step : ∀ e, P e → (∃ e1, c e = .ok false e1 ∧ Q e1) ∨ ∃ e1, c e = .ok true e1 ∧ ((∃ e2, (f e1 = .nx e2 ∨ f e1 = .ct e2) ∧ P e2 ∧ m e2 < m e) ∨ (∃ e2, f e1 = .bk e2 ∧ Q e2) ∨ ∃ w e2, f e1 = .rt w e2 ∧ W w e2)) :
    ∀ (n : Nat) (e : Env), P e → m e < n → (∃ e', whlL c f n e = .nx e' ∧ Q e') ∨ ∃ w e', whlL c f n e = .rt w e' ∧ W w e'
  | 0, e, _, h => absurd h (by omega)
  | n + 1, e, p, h => by
    rcases step e p with ⟨e1, h1, h2⟩ | ⟨e1, h1, ⟨e2, h2, h3, h4⟩ | ⟨e2, h2, h3⟩ | ⟨w, e2, h2, h3⟩⟩
    · exact .inl ⟨e1, whlL_end h1, h2⟩
    · rw [whlL_go h1 h2]
      exact whlL_ind m step n e2 h3 (by omega)
    · exact .inl ⟨e2, whlL_bk h1 h2, h3⟩
    · exact .inr ⟨w, e2, whlL_rt h1 h2, h3⟩
/-! dicts -/
section
variable {G : Cfg} {cl : Nat → List SV → RC} {np : Nat} {e : Env}
@[simp] theorem ev_d0 : evalE G cl (.dct []) e = .ok (.v (.dct [])) e := Eq.trans rfl rfl
@[simp] theorem ev_d1 {k v : CE} : evalE G cl (.dct [(k, v)]) e = (evalE G cl k e).bindT fun x e => (evalE G cl v e).bindT fun y e => match takeAll [x, y] e with
    | some ([x, y], e) => if isKey x then .ok (.v (.dct (putD [] x y))) e else .no
    | _ => .no := Eq.trans rfl rfl
def frzC (i : Nat) (e : Env) : Option SV → Env
  | some (.dct kvs) => e.set i (.d (.dct kvs))
  | _ => e
@[simp] theorem frzC_dct {i : Nat} {kvs : List (D × D)} : frzC i e (some (.dct kvs)) = e.set i (.d (.dct kvs)) := Eq.trans rfl rfl
@[simp] theorem frzC_d {i : Nat} {x : D} : frzC i e (some (.d x)) = e := Eq.trans rfl rfl
@[simp] theorem frzC_lst {i : Nat} {x : List D} : frzC i e (some (.lst x)) = e := Eq.trans rfl rfl
@[simp] theorem frzC_un {i : Nat} : frzC i e (some .un) = e := Eq.trans rfl rfl
theorem frzAtE {i : Nat} : frzAt i e = frzC i e e[i]? := by
  unfold frzAt frzC
  cases e[i]? with
  | none => rfl
  | some s => cases s <;> rfl
@[simp] theorem ev_lck {i : Nat} {a : CE} : evalE G cl (.lck i a) e = evalE G cl a (frzC i e e[i]?) := by rw [← frzAtE]; rfl
@[simp] theorem ex_lck {i : Nat} {a : CS} : execS G cl np (.lck i a) e = execS G cl np a (frzC i e e[i]?) := by rw [← frzAtE]; rfl
end
@[simp] theorem key_int {i : Int} : isKey (.int i) = true := Eq.trans rfl rfl
@[simp] theorem key_str {x : List Nat} : isKey (.str x) = true := Eq.trans rfl rfl
@[simp] theorem ix_dct {kvs : List (D × D)} {k : D} : idxD (.dct kvs) k = if isKey k then lkD kvs k else none := by cases k <;> rfl
@[simp] theorem c_in_dct {kvs : List (D × D)} {i : Int} : cop .isin (.int i) (.dct kvs) = some (lkD kvs (.int i)).isSome := Eq.trans rfl rfl
@[simp] theorem c_nin_dct {kvs : List (D × D)} {i : Int} : cop .notin (.int i) (.dct kvs) = some (!(lkD kvs (.int i)).isSome) := Eq.trans rfl rfl
@[simp] theorem set_dct {kvs : List (D × D)} {i : Int} {v : D} : setI (.dct kvs) (.int i) v = if decide (kvs.length < 1000000) && isKey (.int i) then some (.dct (putD kvs (.int i) v)) else none := Eq.trans rfl rfl
@[simp] theorem items_dct {kvs : List (D × D)} : itemsD (.dct kvs) = some (kvs.map (·.1)) := Eq.trans rfl rfl
@[simp] theorem bf_lstK {kvs : List (D × D)} : bfn .list [.dct kvs] = if kvs.length ≤ 1000000 then some (.lst (kvs.map (·.1))) else none := Eq.trans rfl rfl
@[simp] theorem bf_lenK {kvs : List (D × D)} : bfn .len [.dct kvs] = some (.d (.int kvs.length)) := Eq.trans rfl rfl
end Ip
end

section
set_option linter.all false
set_option autoImplicit false
set_option maxHeartbeats 4000000
namespace Ip
/-! ### ranges turn by turn, lists of ints, sorted and compared -/
theorem rangeL_succ {lo : Int} {n : Nat} : rangeL lo (n + 1) = .int lo :: rangeL (lo + 1) n := by
  unfold rangeL
  rw [List.range_succ_eq_map, List.map_cons, List.map_map]
  congr 1
  · simp
  · apply List.map_congr_left
    intro k _
    simp only [Function.comp_apply, D.int.injEq]
    omega
theorem rangeL_last {lo : Int} {n : Nat} : rangeL lo (n + 1) = rangeL lo n ++ [.int (lo + n)] := by
  unfold rangeL
  rw [List.range_succ, List.map_append]
  rfl
theorem forL_app {f : D → Env → SR} : ∀ (xs ys : List D) (e e' : Env), forL f xs e = .nx e' → (∀ x ∈ xs, ∀ e1 e2, f x e1 ≠ .bk e2) → forL f (xs ++ ys) e = forL f ys e'
  | [], ys, e, e', h, _ => by
    have : e = e' := by simpa using h
    rw [this]
    rfl
  | x :: xs, ys, e, e', h, hb => by
    rw [List.cons_append]
    rw [forL_cons] at h ⊢
    cases q : f x e with
    | nx e1 => rw [q] at h; exact forL_app xs ys e1 e' h fun y hy => hb y (List.mem_cons_of_mem _ hy)
    | ct e1 => rw [q] at h; exact forL_app xs ys e1 e' h fun y hy => hb y (List.mem_cons_of_mem _ hy)
    | bk e1 => exact absurd q (hb x (by simp) e e1)
    | rt w e1 => rw [q] at h; cases h
    | exc w e1 => rw [q] at h; cases h
    | no => rw [q] at h; cases h
/-- a range, each turn told -/
theorem forL_rng {f : D → Env → SR} : ∀ {n : Nat} {lo : Int} (st : Nat → Env), (∀ i, i < n → f (.int (lo + i)) (st i) = .nx (st (i + 1))) → forL f (rangeL lo n) (st 0) = .nx (st n)
  | 0, lo, st, _ => rfl
  | n + 1, lo, st, h => by
    have h0 := h 0 (by omega)
    rw [show lo + ((0 : Nat) : Int) = lo by omega] at h0
    rw [rangeL_succ, forL_nx h0]
    exact forL_rng (lo := lo + 1) (fun i => st (i + 1)) fun i hi => by
      rw [show lo + 1 + (i : Int) = lo + ((i + 1 : Nat) : Int) by omega]
      exact h (i + 1) (by omega)
/-- a loop's name ahead of its turn i -/
def lv (x0 : SV) (lo : Int) : Nat → SV
  | 0 => x0
  | i + 1 => .d (.int (lo + i))
theorem idx_int {xs : List Int} {j : Int} (n : Nat) (hj : j = n) (h : n < xs.length) : idxD (.lst (xs.map .int)) (.int j) = some (.int (xs.getD n 0)) := by
  subst hj
  have h1 : (n : Int) < xs.length := by omega
  simp [ix, h1, h]
theorem ix_nat {n j : Nat} {i : Int} (hi : i = j) (h : j < n) : ix n i = some j := by
  subst hi
  have h1 : (j : Int) < n := by omega
  simp [ix, h1]
theorem okLts_int {xs : List Int} : okLts (xs.map .int) = true := by
  simp [okLts, flatN, alikeD]
theorem okSort_int {xs : List Int} : okSort (xs.map .int) = true := by
  simp [okSort, okLts_int]
theorem intsD_map : ∀ {xs : List Int}, intsD (xs.map .int) = some xs
  | [] => rfl
  | x :: xs => by simp [intsD, intsD_map (xs := xs)]
theorem sortD_int {xs : List Int} : sortD (xs.map .int) = (isortI xs).map .int := by
  unfold sortD
  rw [intsD_map]
theorem bf_sorted_int {xs : List Int} : bfn .sorted [.lst (xs.map .int)] = some (.lst ((isortI xs).map .int)) := by
  show (if okSort (xs.map .int) then some (SV.lst (sortD (xs.map .int))) else none) = _
  rw [okSort_int, sortD_int]
  rfl
def mx (i j : Int) : Int := if j > i then j else i
theorem greatestD_int : ∀ {xs : List Int} {x : Int}, greatestD (.int x) (xs.map .int) = .int (xs.foldl mx x)
  | [], x => rfl
  | y :: xs, x => by
    have ih := greatestD_int (xs := xs) (x := mx x y)
    unfold greatestD at ih ⊢
    rw [List.map_cons, List.foldl_cons, List.foldl_cons, ← ih]
    congr 1
    unfold mx
    simp only [ltB, decide_eq_true_eq]
    split <;> rfl
theorem bf_max_int {x : Int} {xs : List Int} : bfn .max [.lst (.int x :: xs.map .int)] = some (.d (.int (xs.foldl mx x))) := by
  show (if okLts (.int x :: xs.map .int) then some (SV.d (greatestD (.int x) (xs.map .int))) else none) = _
  rw [← List.map_cons (f := D.int), okLts_int, greatestD_int]
  rfl
def appJ (e : Env) (i j : Nat) : SV → SV → R W
  | .lst ys, .lst xs => if xs.length < 1000000 then .ok (.v (.d .non)) ((e.set j (.d (.lst ys))).set i (.lst (xs ++ [.lst ys]))) else .no
  | _, _ => methW e .append (.r i none) [.r j none]
@[simp] theorem appJ_l {e : Env} {i j : Nat} {xs ys : List D} : appJ e i j (.lst ys) (.lst xs) = if xs.length < 1000000 then .ok (.v (.d .non)) ((e.set j (.d (.lst ys))).set i (.lst (xs ++ [.lst ys]))) else .no := Eq.trans rfl rfl
theorem getP_sn {e : Env} {i j : Nat} {s : SV} (h : i ≠ j) : getP (e.set j s) i none = getP e i none := by
  unfold getP
  rw [List.getElem?_set_ne (Ne.symm h)]
theorem meth_appRR {e : Env} {i j : Nat} (hij : i ≠ j) : methW e .append (.r i none) [.r j none] = appJ e i j (getP e j none) (getP e i none) := by
  cases q : getP e j none with
  | lst ys =>
    cases q2 : getP e i none with
    | lst xs =>
      unfold methW
      simp only [all_cons, all_nil, see_rn, tk_cons, tk_nil, q, q2, rd_lst, fz_lst, take_r, Option.map_some, appJ_l]
      rw [show rmeth .append (.lst xs) [.lst ys] = none from rfl]
      simp only [getP_sn hij, q2, mmeth]
      by_cases h : xs.length < 1000000
      · simp only [if_pos h, setP_n]
      · simp only [if_neg h]
    | un => rfl
    | d y => rfl
    | dct y => rfl
    | ins c y => rfl
  | un => rfl
  | d y => rfl
  | dct y => rfl
  | ins c y => rfl
/-- ints in order -/
def ltL : List Int → List Int → Bool
  | [], [] => false
  | [], _ :: _ => true
  | _ :: _, [] => false
  | x :: xs, y :: ys => if x = y then ltL xs ys else decide (x < y)
theorem ltBs_int : ∀ {xs ys : List Int}, ltBs (xs.map .int) (ys.map .int) = ltL xs ys
  | [], [] => rfl
  | [], _ :: _ => rfl
  | _ :: _, [] => rfl
  | x :: xs, y :: ys => by
    simp [ltBs, ltL, eqD, ltB, ltBs_int (xs := xs) (ys := ys)]
theorem ltL_self : ∀ {xs : List Int}, ltL xs xs = false
  | [] => rfl
  | x :: xs => by simp [ltL, ltL_self (xs := xs)]
theorem eqDs_int : ∀ {xs ys : List Int}, eqDs (xs.map .int) (ys.map .int) = decide (xs = ys)
  | [], [] => rfl
  | [], _ :: _ => rfl
  | _ :: _, [] => rfl
  | x :: xs, y :: ys => by
    simp [eqDs, eqD, eqDs_int (xs := xs) (ys := ys)]
theorem alikeDs_int : ∀ {xs ys : List Int}, alikeDs (xs.map .int) (ys.map .int) = true
  | [], _ => by simp [alikeDs]
  | _ :: _, [] => by simp [alikeDs]
  | x :: xs, y :: ys => by simp [alikeDs, alikeD, alikeDs_int (xs := xs) (ys := ys)]
theorem flatN_ints {n : Nat} {xs : List Int} : (xs.map D.int).all (flatN n) = true := by
  simp [List.all_eq_true]
  intro x _
  cases n <;> rfl
/-- a range under a counted property -/
theorem forL_rngP {f : D → Env → SR} {P : Nat → Env → Prop} : ∀ {n : Nat} {lo : Int} {e : Env}, P 0 e → (∀ i e, i < n → P i e → ∃ e', f (.int (lo + i)) e = .nx e' ∧ P (i + 1) e') → ∃ e', forL f (rangeL lo n) e = .nx e' ∧ P n e'
  | 0, lo, e, p, _ => ⟨e, rfl, p⟩
  | n + 1, lo, e, p, h => by
    obtain ⟨e1, h1, h2⟩ := h 0 e (by omega) p
    rw [show lo + ((0 : Nat) : Int) = lo by omega] at h1
    rw [rangeL_succ, forL_nx h1]
    exact forL_rngP (P := fun i => P (i + 1)) h2 fun i e hi hp => by
      rw [show lo + 1 + (i : Int) = lo + ((i + 1 : Nat) : Int) by omega]
      exact h (i + 1) e (by omega) hp
theorem rangeD_nat2 {lo hi : Int} (n : Nat) (h1 : 0 ≤ lo) (h2 : lo ≤ 1000000) (h3 : hi ≤ 1000000) (h4 : hi = lo + n) : rangeD [.int lo, .int hi] = some (rangeL lo n) := by
  have e1 : -(2 ^ 62) ≤ lo := by omega
  have e2 : lo < 2 ^ 62 := by omega
  have e3 : -(2 ^ 62) ≤ hi := by omega
  have e4 : hi < 2 ^ 62 := by omega
  have e5 : (hi - lo).toNat = n := by omega
  simp only [rangeD_2, decide_eq_true e1, decide_eq_true e2, decide_eq_true e3, decide_eq_true e4, Bool.and_self, if_true, e5]
def maxL : List Int → Int
  | [] => 0
  | x :: xs => xs.foldl mx x
theorem bf_maxL : ∀ {xs : List Int}, xs ≠ [] → bfn .max [.lst (xs.map .int)] = some (.d (.int (maxL xs)))
  | [], h => absurd rfl h
  | x :: xs, _ => by rw [List.map_cons]; exact bf_max_int
theorem getD_mem {α : Type} {xs : List α} {n : Nat} {d : α} (h : n < xs.length) : xs.getD n d ∈ xs := by
  have : xs.getD n d = xs[n] := by simp [h]
  rw [this]
  exact List.getElem_mem h
theorem getD_get {α : Type} {xs : List α} {n : Nat} {d : α} (h : n < xs.length) : xs.getD n d = xs[n] := by simp [h]
theorem dcE {cl : Nat → List SV → RC} {f : Nat} {as : List Bool} {ws : List W} {e : Env} : dc cl f as ws e = match moves as ws e with
  | none => .no
  | some (xs, e1) => match cl f xs with
    | .ok w fin => .ok (.v w) (backs as ws fin e1)
    | .exc x fin => .exc x (backs as ws fin e1)
    | .no => .no := Eq.trans rfl rfl
theorem turnE {G : Cfg} {cl : Nat → List SV → RC} {np : Nat} {t : Tg} {a : List CS} {x : D} {e : Env} : turn G cl np t a x e = (assign G cl t (.v (.d x)) e).stT fun _ e => execSs G cl np a e := Eq.trans rfl rfl
theorem cturnE {G : Cfg} {cl : Nat → List SV → RC} {own : List Nat} {t : Tg} {ifs : List CE} {elt : CE} {x : D} {e0 : Env} : cturn G cl own t ifs elt x e0 = (assign G cl t (.v (.d x)) (wipe own e0)).bindT fun _ e => (tests G cl ifs e).bindT fun b e =>
        if b then (evalE G cl elt e).bindT fun w e => match take e w with
          | some (y, e) => .ok (some y) (unwipe own e0 e)
          | none => .no
        else .ok none (unwipe own e0 e) := Eq.trans rfl rfl
theorem wtestE {G : Cfg} {cl : Nat → List SV → RC} {c : CE} {e : Env} : wtest G cl c e = (evalE G cl c e).bindT fun w e => ofO e ((see e w).bind truD) := Eq.trans rfl rfl
end Ip
end

section
set_option linter.all false
set_option autoImplicit false
set_option maxHeartbeats 4000000
namespace Ip
/-! ### small lists, tables -/
theorem compL_two {f : D → Env → R (Option D)} {x y x' y' : D} {e : Env} (h1 : f x e = .ok (some x') e) (h2 : f y e = .ok (some y') e) : compL f [x, y] [] e = .ok [x', y'] e := by
  unfold compL
  rw [h1]
  dsimp only
  unfold compL
  rw [h2]
  dsimp only
  unfold compL
  rfl
def oN : Option Nat → D
  | none => .non
  | some n => .int n
@[simp] theorem oN_none : oN none = .non := rfl
@[simp] theorem oN_some {n : Nat} : oN (some n) = .int n := rfl
/-- a table over 0 .. N - 1 -/
def tabO (f : Nat → Option Nat) (N : Nat) : List D := (List.range N).map fun p => oN (f p)
def tabB (f : Nat → Bool) (N : Nat) : List D := (List.range N).map fun p => .bl (f p)
@[simp] theorem tabO_len {f : Nat → Option Nat} {N : Nat} : (tabO f N).length = N := by simp [tabO]
@[simp] theorem tabB_len {f : Nat → Bool} {N : Nat} : (tabB f N).length = N := by simp [tabB]
theorem idx_tabO {f : Nat → Option Nat} {N : Nat} {j : Int} (n : Nat) (hj : j = n) (h : n < N) : idxD (.lst (tabO f N)) (.int j) = some (oN (f n)) := by
  rw [ix_lst, tabO_len, ix_nat hj h]
  simp [tabO, h]
theorem idx_tabB {f : Nat → Bool} {N : Nat} {j : Int} (n : Nat) (hj : j = n) (h : n < N) : idxD (.lst (tabB f N)) (.int j) = some (.bl (f n)) := by
  rw [ix_lst, tabB_len, ix_nat hj h]
  simp [tabB, h]
theorem tabO_succ {f : Nat → Option Nat} {N : Nat} : tabO f (N + 1) = tabO f N ++ [oN (f N)] := by simp [tabO, List.range_succ]
theorem tabB_succ {f : Nat → Bool} {N : Nat} : tabB f (N + 1) = tabB f N ++ [.bl (f N)] := by simp [tabB, List.range_succ]
/-- what x += v does -/
def augC (i : Nat) (op : BOp) (m : Env → R W) (e : Env) : Option SV → SR
  | some (.d x) => (m e).stT fun w e => match see e w with
      | some y => match aop op x y with
        | some z => .nx (e.set i (.d z))
        | none => .no
      | none => .no
  | _ => .no
@[simp] theorem augC_d {i : Nat} {op : BOp} {m : Env → R W} {e : Env} {x : D} : augC i op m e (some (.d x)) = (m e).stT fun w e => match see e w with
      | some y => match aop op x y with
        | some z => .nx (e.set i (.d z))
        | none => .no
      | none => .no := Eq.trans rfl rfl
@[simp] theorem ex_aug {G : Cfg} {cl : Nat → List SV → RC} {np i : Nat} {op : BOp} {a : CE} {e : Env} : execS G cl np (.aug i op a) e = augC i op (evalE G cl a) e e[i]? := by
  rw [execS]
  unfold augC
  cases e[i]? with
  | none => rfl
  | some s => cases s <;> rfl
@[simp] theorem aop_add {i j : Int} : aop .add (.int i) (.int j) = some (.int (i + j)) := Eq.trans rfl rfl
@[simp] theorem aop_sub {i j : Int} : aop .sub (.int i) (.int j) = some (.int (i - j)) := Eq.trans rfl rfl
@[simp] theorem ev_rev {G : Cfg} {cl : Nat → List SV → RC} {a : CE} {e : Env} : evalE G cl (.rev a) e = (evalE G cl a e).bindT fun x e => match see e x with
    | some x => pure1 e (revD x)
    | none => .no := Eq.trans rfl rfl
@[simp] theorem rev_tup {xs : List D} : revD (.tup xs) = some (.d (.tup xs.reverse)) := Eq.trans rfl rfl
@[simp] theorem rev_lst {xs : List D} : revD (.lst xs) = some (.lst xs.reverse) := Eq.trans rfl rfl
end Ip
end

section
set_option linter.all false
set_option autoImplicit false
set_option maxRecDepth 100000
set_option maxHeartbeats 4000000
namespace Ip
open PySem PySem.Spec PyProof.Rows L2
/-- the law at the head -/
theorem law_at {l : PySem.W.OpenLaw} {M : NM} {G : Cfg} {R : Rws} {w : World} {K : PySem.W.Frag} {mg : Str → Option Value} {h : Heap} {iL k : Nat} {fa : Addr} {r : FRow} {fd : FnD} (c : He.SaysX (faOf M G) R.defs [] (M.lams.map fun x => (x, none)) (exOf M R) w h K) (KX : K.In h) (Gm : h.Ns mainGlobals mg)
    (hr : rowsB M G R.rows G.fns M.fn = true) (hg : glbB M G = true) (hb : excB M G R = true) (h0 : G.fns[iL]? = some fd) (h1 : M.fn[iL]? = some ("law" : Str)) (h2 : R.rows[iL]? = some r) (h3 : r.as.map (·.arg) = [("script" : Str)]) (h4 : mg ("law" : Str) = some (.ref fa)) (hn : fd.n = 1)
    (hl : ∀ ns : List Int, ns.length ≤ 63 → ∃ fin, callI G k iL [.d (scriptD ns)] = .ok (.d (.bl true)) fin) : LamX.LawAtS l w K (L2.CX l.prog w) (3 * k) 63 "script" mg fa h := by
  letI tb : Tb := tbOf M R K
  obtain ⟨fdt, hbd, hF⟩ := law_ok (P := l.prog) (w := w) (k := k) c.t.d c.more KX Gm hr hg hb rfl rfl rfl h0 h1 h2 h3 h4 hn
  refine ⟨fdt, Tb.cs, _, fun p hp => ?_, fun p hp => ?_, fun p hp => ?_, hbd, fun H a ns hle _ hT hS => law_sp (fun p hp => ?_) hle hS (hl ns hle), fun base _ _ hB => hF base hB⟩
  · obtain ⟨x, hx, rfl⟩ := List.mem_map.mp hp
    exact c.empty (x, none) (List.mem_map.mpr ⟨x, hx, rfl⟩)
  · obtain ⟨x, hx, rfl⟩ := List.mem_map.mp hp
    exact c.out (x, none) (List.mem_map.mpr ⟨x, hx, rfl⟩)
  · obtain ⟨x, hx, rfl⟩ := List.mem_map.mp hp
    exact PySem.W.codeHd_of_K KX (c.hd (x, none) (List.mem_map.mpr ⟨x, hx, rfl⟩))
  · obtain ⟨r', hr', rfl⟩ := List.mem_map.mp hp
    obtain ⟨_, hm⟩ := List.mem_filter.mp hr'
    exact LamX.TabS.nil (hT (He.cT K (r'.x, none)) (List.mem_map.mpr ⟨r'.x, by simpa using hm, rfl⟩))
theorem cx_none {l : PySem.W.OpenLaw} : ∀ (w : World) (H : Hp) (s : Shared) (e : Value) (s' : Shared), L2.CX l.prog w [] H s (fun _ _ _ => False) e s' → False := fun w H s e s2 z => by
  letI : Tb := ⟨[], [], []⟩
  exact cx_no _ _ _ _ _ z
end Ip
end

section
set_option linter.all false
set_option autoImplicit false
set_option maxHeartbeats 4000000
namespace Ip
/-! ### exceptions, step by step -/
section
variable {G : Cfg} {cl : Nat → List SV → RC} {np : Nat} {e : Env} {x y : D}
@[simp] theorem bindX {α β : Type} {f : α → Env → R β} {u : Tail f} : (R.exc x e : R α).bindT f u = .exc x e := Eq.trans rfl rfl
@[simp] theorem stX {α : Type} {f : α → Env → SR} {u : Tail f} : (R.exc x e : R α).stT f u = .exc x e := Eq.trans rfl rfl
@[simp] theorem andThen_exc {f : Env → SR} {u : Tail f} : andThen (.exc x e) f u = .exc x e := Eq.trans rfl rfl
@[simp] theorem loopThen_exc {g : Env → SR} {u : Tail g} : loopThen (.exc x e) g u = .exc x e := Eq.trans rfl rfl
@[simp] theorem finC_exc {n : Nat} : finC n (.exc x e) = .exc x (e.take n) := Eq.trans rfl rfl
/-- what is raised -/
def raiseT (c : Nat) (e0 : Env) : Option (List D × Env) → SR
  | some ([x], e) => .exc (.ins c [(0, x)]) e
  | _ => .no
@[simp] theorem raiseT_1 {c : Nat} {e0 : Env} : raiseT c e0 (some ([x], e)) = .exc (.ins c [(0, x)]) e := Eq.trans rfl rfl
@[simp] theorem ex_raise {c : Nat} {as : List CE} : execS G cl np (.raise c as) e = (evalEs G cl as e).stT fun ws e => raiseT c e (takeAll ws e) := by
  rw [execS]
  show R.st _ _ = R.st _ _
  congr 1
theorem ev_told {a : CE} : evalE G cl (.told a) e = toldW G (evalE G cl a e) := Eq.trans rfl rfl
/-- what the try makes of it -/
def toldX (G : Cfg) (c : Nat) (y : D) (e : Env) : Option (List Nat) → R W
  | some s => .ok (.v (.d (.tup [.str s, y]))) e
  | none => .no
@[simp] theorem toldW_v : toldW G (.ok (.v (.d x)) e) = .ok (.v (.d (.tup [.str [118, 97, 108, 117, 101], x]))) e := Eq.trans rfl rfl
@[simp] theorem toldW_x {c : Nat} : toldW G (.exc (.ins c [(0, y)]) e) = toldX G c y e G.exn[c]? := by
  unfold toldX
  rw [toldW]
  all_goals (cases G.exn[c]? <;> rfl)
@[simp] theorem toldX_some {c : Nat} {s : List Nat} : toldX G c y e (some s) = .ok (.v (.d (.tup [.str s, y]))) e := Eq.trans rfl rfl
@[simp] theorem it_enum {as : List CE} : evalI G cl (.enum as) e = (evalEs G cl as e).bindT fun ws e => match takeAll ws e with
    | some ([.lst xs], e1) => .ok (enumD 0 xs) e1
    | some ([.tup xs], e1) => .ok (enumD 0 xs) e1
    | _ => .no := Eq.trans rfl rfl
end
end Ip
end

section
set_option Elab.async false
set_option linter.all false
set_option maxRecDepth 100000
set_option maxHeartbeats 0
namespace K17
open PySem PySem.Spec PyProof.Rows L2 Ip
def badE : CE := .dcomp [] (.name 0) (.e (.cst .non)) [] (.cst .non) (.cst .non)
def top (i : Nat) : Stmt := PySem.Challenge.pw_giftwright_k17_whole_unspent.main.body.getD i (.Pass ⟨0, 0, 0, 0⟩)
/-- need(held, at) -/
def b_need : List CS := [.ite (.not (.var 0)) [.raise 0 [.var 1]] []]
def f_need : FnD := ⟨2, 2, [false, false], [], b_need⟩
abbrev i_need : Nat := 0
/-- is_integer(value) -/
def b_is_integer : List CS := [.ret (some (.and (.isin (.var 0) [.int]) (.not (.isin (.var 0) [.bool]))))]
def f_is_integer : FnD := ⟨1, 1, [false], [], b_is_integer⟩
abbrev i_is_integer : Nat := 1
/-- is_between(value, least, most) -/
def b_is_between : List CS := [.ret (some (.and (.call 1 [.var 0]) (.cmp2 .le .le (.var 1) (.var 0) (.var 2))))]
def f_is_between : FnD := ⟨3, 3, [false, false, false], [], b_is_between⟩
abbrev i_is_between : Nat := 2
/-- is_sequence(value) -/
def b_is_sequence : List CS := [.ret (some (.isin (.var 0) [.list, .tuple]))]
def f_is_sequence : FnD := ⟨1, 1, [false], [], b_is_sequence⟩
abbrev i_is_sequence : Nat := 3
/-- has_size(value, fewest, most) -/
def b_has_size : List CS := [.ret (some (.and (.call 3 [.var 0]) (.cmp2 .le .le (.var 1) (.bi .len [.var 0]) (.var 2))))]
def f_has_size : FnD := ⟨3, 3, [false, false, false], [], b_has_size⟩
abbrev i_has_size : Nat := 4
/-- is_row(value, size) -/
def b_is_row : List CS := [.ret (some (.and (.call 3 [.var 0]) (.cmp .eq (.bi .len [.var 0]) (.var 1))))]
def f_is_row : FnD := ⟨2, 2, [false, false], [], b_is_row⟩
abbrev i_is_row : Nat := 5
/-- are_between(value, fewest, most, least, greatest, one) -/
def b_are_between : List CS := [.ite (.not (.call 4 [.var 0, .var 1, .var 2])) [.ret (some (.cst (.bl false)))] [], .ret (some (.bi .all [.comp [5] (.name 5) (.e (.var 0)) [] (.call 2 [.var 5, .var 3, .var 4])]))]
def f_are_between : FnD := ⟨5, 6, [false, false, false, false, false], [], b_are_between⟩
abbrev i_are_between : Nat := 6
/-- is_fraction(value) -/
def b_is_fraction : List CS := [.ite (.not (.call 5 [.var 0, .cst (.int 2)])) [.ret (some (.cst (.bl false)))] [], .ite (.or (.not (.call 2 [.idx (.var 0) (.cst (.int 0)), .neg (.glb 0), .glb 0])) (.not (.call 2 [.idx (.var 0) (.cst (.int 1)), .cst (.int 1), .glb 0]))) [.ret (some (.cst (.bl false)))] [], .ret (some (.cmp .eq (.bi .gcd [.idx (.var 0) (.cst (.int 0)), .idx (.var 0) (.cst (.int 1))]) (.cst (.int 1))))]
def f_is_fraction : FnD := ⟨1, 1, [false], [], b_is_fraction⟩
abbrev i_is_fraction : Nat := 7
/-- lowest(numerator, denominator, shared) -/
def b_lowest : List CS := [.asg (.name 2) (.bi .gcd [.var 0, .var 1]), .ret (some (.tup [.bin .fdiv (.var 0) (.var 2), .bin .fdiv (.var 1) (.var 2)]))]
def f_lowest : FnD := ⟨2, 3, [false, false], [], b_lowest⟩
abbrev i_lowest : Nat := 8
/-- plus(one, other) -/
def b_plus : List CS := [.ret (some (.call 8 [.bin .add (.bin .mul (.idx (.var 0) (.cst (.int 0))) (.idx (.var 1) (.cst (.int 1)))) (.bin .mul (.idx (.var 1) (.cst (.int 0))) (.idx (.var 0) (.cst (.int 1)))), .bin .mul (.idx (.var 0) (.cst (.int 1))) (.idx (.var 1) (.cst (.int 1)))]))]
def f_plus : FnD := ⟨2, 2, [false, false], [], b_plus⟩
abbrev i_plus : Nat := 9
/-- half_of(one) -/
def b_half_of : List CS := [.ret (some (.call 8 [.idx (.var 0) (.cst (.int 0)), .bin .mul (.idx (.var 0) (.cst (.int 1))) (.cst (.int 2))]))]
def f_half_of : FnD := ⟨1, 1, [false], [], b_half_of⟩
abbrev i_half_of : Nat := 10
/-- is_below(one, other) -/
def b_is_below : List CS := [.ret (some (.cmp .lt (.bin .mul (.idx (.var 0) (.cst (.int 0))) (.idx (.var 1) (.cst (.int 1)))) (.bin .mul (.idx (.var 1) (.cst (.int 0))) (.idx (.var 0) (.cst (.int 1))))))]
def f_is_below : FnD := ⟨2, 2, [false, false], [], b_is_below⟩
abbrev i_is_below : Nat := 11
/-- by_size(fractions, told, one, at) -/
def b_by_size_1 : List CS := [.aug 3 .sub (.cst (.int 1))]
def b_by_size_2 : List CS := [.asg (.name 3) (.bi .len [.var 1]), .whl (.and (.cmp .gt (.var 3) (.cst (.int 0))) (.call 11 [.var 2, .idx (.var 1) (.bin .sub (.var 3) (.cst (.int 1)))])) b_by_size_1, .expr (.meth .insert (.var 1) [.var 3, .var 2])]
def b_by_size : List CS := [.asg (.name 1) (.lst []), .for (.name 2) (.e (.var 0)) b_by_size_2, .ret (some (.var 1))]
def f_by_size : FnD := ⟨1, 4, [false], [], b_by_size⟩
abbrev i_by_size : Nat := 12
/-- middle_of(fractions, told, half) -/
def b_middle_of : List CS := [.asg (.name 1) (.call 12 [.var 0]), .asg (.name 2) (.bin .fdiv (.bi .len [.var 1]) (.cst (.int 2))), .ite (.bin .band (.bi .len [.var 1]) (.cst (.int 1))) [.ret (some (.idx (.var 1) (.var 2)))] [], .ret (some (.call 10 [.call 9 [.idx (.var 1) (.bin .sub (.var 2) (.cst (.int 1))), .idx (.var 1) (.var 2)]]))]
def f_middle_of : FnD := ⟨1, 3, [false], [], b_middle_of⟩
abbrev i_middle_of : Nat := 13
/-- never_spent(sold, share, part, whole) -/
def b_never_spent : List CS := [.asg (.tup [.name 2, .name 3]) (.var 1), .ret (some (.bin .fdiv (.bin .mul (.var 0) (.var 2)) (.var 3)))]
def f_never_spent : FnD := ⟨2, 4, [false, false], [], b_never_spent⟩
abbrev i_never_spent : Nat := 14
/-- earned_by(sold, share, use, part, whole, in_measure) -/
def b_earned_by : List CS := [.asg (.tup [.name 3, .name 4]) (.var 1), .asg (.name 5) (.bin .fdiv (.bin .mul (.var 2) (.var 3)) (.bin .sub (.var 4) (.var 3))), .ret (some (.bi .min [.var 5, .call 14 [.var 0, .var 1]]))]
def f_earned_by : FnD := ⟨3, 6, [false, false, false], [], b_earned_by⟩
abbrev i_earned_by : Nat := 15
/-- running_sums(numbers, sums, so_far, number) -/
def b_running_sums_1 : List CS := [.asg (.name 2) (.bin .add (.var 2) (.var 3)), .expr (.meth .append (.var 1) [.var 2])]
def b_running_sums : List CS := [.asg (.name 1) (.lst []), .asg (.name 2) (.cst (.int 0)), .for (.name 3) (.e (.var 0)) b_running_sums_1, .ret (some (.var 1))]
def f_running_sums : FnD := ⟨1, 4, [false], [], b_running_sums⟩
abbrev i_running_sums : Nat := 16
/-- steps_of(sums, steps, ahead, so_far) -/
def b_steps_of_1 : List CS := [.expr (.meth .append (.var 1) [.bin .sub (.var 3) (.var 2)]), .asg (.name 2) (.var 3)]
def b_steps_of : List CS := [.asg (.name 1) (.lst []), .asg (.name 2) (.cst (.int 0)), .for (.name 3) (.e (.var 0)) b_steps_of_1, .ret (some (.var 1))]
def f_steps_of : FnD := ⟨1, 4, [false], [], b_steps_of⟩
abbrev i_steps_of : Nat := 17
/-- earned_in_each(sold, share, used, in_all, use) -/
def b_earned_in_each : List CS := [.asg (.name 3) (.comp [4] (.name 4) (.e (.call 16 [.var 2])) [] (.call 15 [.var 0, .var 1, .var 4])), .ret (some (.bi .tuple [.call 17 [.var 3]]))]
def f_earned_in_each : FnD := ⟨3, 5, [false, false, false], [], b_earned_in_each⟩
abbrev i_earned_in_each : Nat := 18
/-- owed_behind(sold, share, used, use) -/
def b_owed_behind : List CS := [.asg (.name 3) (.bi .sum [.var 2]), .ret (some (.bi .max [.cst (.int 0), .bin .sub (.bin .sub (.var 0) (.var 3)) (.call 15 [.var 0, .var 1, .var 3])]))]
def f_owed_behind : FnD := ⟨3, 4, [false, false, false], [], b_owed_behind⟩
abbrev i_owed_behind : Nat := 19
/-- is_share(value) -/
def b_is_share : List CS := [.ret (some (.and (.call 7 [.var 0]) (.cmp2 .le .lt (.cst (.int 0)) (.idx (.var 0) (.cst (.int 0))) (.idx (.var 0) (.cst (.int 1))))))]
def f_is_share : FnD := ⟨1, 1, [false], [], b_is_share⟩
abbrev i_is_share : Nat := 20
/-- is_sale(value) -/
def b_is_sale : List CS := [.ite (.not (.call 5 [.var 0, .cst (.int 2)])) [.ret (some (.cst (.bl false)))] [], .ret (some (.and (.call 2 [.idx (.var 0) (.cst (.int 0)), .cst (.int 1), .glb 5]) (.call 2 [.idx (.var 0) (.cst (.int 1)), .cst (.int 0), .idx (.var 0) (.cst (.int 0))])))]
def f_is_sale : FnD := ⟨1, 1, [false], [], b_is_sale⟩
abbrev i_is_sale : Nat := 21
/-- are_sales(value, card) -/
def b_are_sales : List CS := [.ret (some (.and (.call 4 [.var 0, .cst (.int 1), .glb 4]) (.bi .all [.comp [1] (.name 1) (.e (.var 0)) [] (.call 21 [.var 1])])))]
def f_are_sales : FnD := ⟨1, 2, [false], [], b_are_sales⟩
abbrev i_are_sales : Nat := 22
/-- need_periods(sold, share, used) -/
def b_need_periods : List CS := [.expr (.call 0 [.call 2 [.var 0, .cst (.int 1), .glb 1], .cst (.int 0)]), .expr (.call 0 [.call 20 [.var 1], .cst (.int 1)]), .expr (.call 0 [.call 6 [.var 2, .cst (.int 1), .glb 3, .cst (.int 0), .glb 2], .cst (.int 2)])]
def f_need_periods : FnD := ⟨3, 3, [false, false, false], [], b_need_periods⟩
abbrev i_need_periods : Nat := 23
/-- recognised(sold, share, used) -/
def b_recognised : List CS := [.expr (.call 23 [.var 0, .var 1, .var 2]), .ret (some (.call 18 [.var 0, .var 1, .var 2]))]
def f_recognised : FnD := ⟨3, 3, [false, false, false], [], b_recognised⟩
abbrev i_recognised : Nat := 24
/-- still_owed(sold, share, used) -/
def b_still_owed : List CS := [.expr (.call 23 [.var 0, .var 1, .var 2]), .ret (some (.call 19 [.var 0, .var 1, .var 2]))]
def f_still_owed : FnD := ⟨3, 3, [false, false, false], [], b_still_owed⟩
abbrev i_still_owed : Nat := 25
/-- share_of(cards, sold, spent, card) -/
def b_share_of : List CS := [.expr (.call 0 [.call 22 [.var 0], .cst (.int 0)]), .asg (.name 1) (.bi .sum [.comp [3] (.name 3) (.e (.var 0)) [] (.idx (.var 3) (.cst (.int 0)))]), .asg (.name 2) (.bi .sum [.comp [3] (.name 3) (.e (.var 0)) [] (.idx (.var 3) (.cst (.int 1)))]), .ret (some (.call 8 [.bin .sub (.var 1) (.var 2), .var 1]))]
def f_share_of : FnD := ⟨1, 4, [false], [], b_share_of⟩
abbrev i_share_of : Nat := 26
/-- middle_share(cards, sold, spent) -/
def b_middle_share : List CS := [.expr (.call 0 [.call 22 [.var 0], .cst (.int 0)]), .ret (some (.call 13 [.comp [1, 2] (.tup [.name 1, .name 2]) (.e (.var 0)) [] (.call 8 [.bin .sub (.var 1) (.var 2), .var 1])]))]
def f_middle_share : FnD := ⟨1, 3, [false], [], b_middle_share⟩
abbrev i_middle_share : Nat := 27
/-- _law_so(found, meant, k) -/
def b_law_so_1 : List CS := [.ite (.not (.call 28 [.idx (.var 0) (.var 2), .idx (.var 1) (.var 2)])) [.ret (some (.cst (.bl false)))] []]
def b_law_so : List CS := [.ite (.cmp .isN (.var 1) (.cst .non)) [.ret (some (.cmp .isN (.var 0) (.cst .non)))] [], .ite (.isin (.var 1) [.tuple]) [.ite (.or (.not (.isin (.var 0) [.tuple])) (.cmp .ne (.bi .len [.var 0]) (.bi .len [.var 1]))) [.ret (some (.cst (.bl false)))] [], .for (.name 2) (.range [.bi .len [.var 1]]) b_law_so_1, .ret (some (.cst (.bl true)))] [], .ite (.or (.isin (.var 1) [.bool]) (.isin (.var 0) [.bool])) [.ret (some (.and (.isin (.var 1) [.bool]) (.and (.isin (.var 0) [.bool]) (.cmp .eq (.var 0) (.var 1)))))] [], .ite (.isin (.var 1) [.int]) [.ret (some (.and (.isin (.var 0) [.int]) (.cmp .eq (.var 0) (.var 1))))] [], .ret (some (.and (.isin (.var 1) [.str]) (.and (.isin (.var 0) [.str]) (.cmp .eq (.var 0) (.var 1)))))]
def f_law_so : FnD := ⟨2, 3, [false, false], [], b_law_so⟩
abbrev i_law_so : Nat := 28
/-- _law_numbers(script, row, single, left, k, stirred) -/
def b_law_numbers_1 : List CS := [.ite (.cmp .eq (.var 3) (.cst (.int 0))) [.brk] [], .expr (.meth .append (.var 1) [.bin .mod (.bi .int [.var 3]) (.cst (.int 997))]), .asg (.name 3) (.bin .fdiv (.var 3) (.cst (.int 997)))]
def b_law_numbers_2 : List CS := [.asg (.name 5) (.bin .mod (.bi .int [.bin .add (.bin .add (.bin .mul (.var 2) (.cst (.int 48271))) (.bin .mul (.var 4) (.cst (.int 69621)))) (.cst (.int 11))]) (.cst (.int 2147483647))), .expr (.meth .append (.var 1) [.bin .mod (.bi .int [.bin .add (.bin .mul (.var 5) (.cst (.int 16807))) (.var 4)]) (.cst (.int 2147483629))])]
def b_law_numbers_3 : List CS := [.ite (.cmp .ge (.var 2) (.bin .pow (.cst (.int 10)) (.cst (.int 18)))) [.asg (.name 3) (.var 2), .for (.name 4) (.range [.cst (.int 60)]) b_law_numbers_1] [.for (.name 4) (.range [.cst (.int 4)]) b_law_numbers_2]]
def b_law_numbers : List CS := [.asg (.name 1) (.lst []), .for (.name 2) (.e (.slc (.var 0) none (some (.cst (.int 63))))) b_law_numbers_3, .ite (.cmp .eq (.bi .len [.var 1]) (.cst (.int 0))) [.expr (.meth .append (.var 1) [.cst (.int 0)])] [], .ret (some (.var 1))]
def f_law_numbers : FnD := ⟨1, 6, [false], [], b_law_numbers⟩
abbrev i_law_numbers : Nat := 29
/-- _law_draw(row, at, limit, stirred) -/
def b_law_draw : List CS := [.ite (.cmp .lt (.var 1) (.bi .len [.var 0])) [.ret (some (.bin .mod (.bi .int [.idx (.var 0) (.var 1)]) (.var 2)))] [], .asg (.name 3) (.bin .mod (.bi .int [.bin .add (.bin .add (.bin .mul (.idx (.var 0) (.bin .mod (.bi .int [.var 1]) (.bi .len [.var 0]))) (.cst (.int 40692))) (.bin .mul (.var 1) (.cst (.int 7919)))) (.cst (.int 3))]) (.cst (.int 2147483399))), .ret (some (.bin .mod (.bi .int [.bin .mod (.bi .int [.bin .add (.bin .mul (.var 3) (.cst (.int 48271))) (.var 1)]) (.cst (.int 2147483647))]) (.var 2)))]
def f_law_draw : FnD := ⟨3, 4, [false, false, false], [], b_law_draw⟩
abbrev i_law_draw : Nat := 30
/-- _law_take(row, spot, limit) -/
def b_law_take : List CS := [.asg (.idx (.var 1) (.cst (.int 0))) (.bin .add (.idx (.var 1) (.cst (.int 0))) (.cst (.int 1))), .ret (some (.call 30 [.var 0, .bin .sub (.idx (.var 1) (.cst (.int 0))) (.cst (.int 1)), .var 2]))]
def f_law_take : FnD := ⟨3, 3, [false, false, false], [], b_law_take⟩
abbrev i_law_take : Nat := 31
/-- _law_listed(value, one) -/
def b_law_listed : List CS := [.ite (.isin (.var 0) [.tuple]) [.ret (some (.comp [1] (.name 1) (.e (.var 0)) [] (.call 32 [.var 1])))] [], .ret (some (.var 0))]
def f_law_listed : FnD := ⟨1, 2, [false], [], b_law_listed⟩
abbrev i_law_listed : Nat := 32
/-- _law_handed(row, spot, value) -/
def b_law_handed : List CS := [.ret (some (.ite (.cmp .eq (.call 31 [.var 0, .var 1, .cst (.int 2)]) (.cst (.int 0))) (.call 32 [.var 2]) (.var 2)))]
def f_law_handed : FnD := ⟨3, 3, [false, false, false], [], b_law_handed⟩
abbrev i_law_handed : Nat := 33
/-- _law_pick(row, spot, things) -/
def b_law_pick : List CS := [.ret (some (.idx (.var 2) (.call 31 [.var 0, .var 1, .bi .len [.var 2]])))]
def f_law_pick : FnD := ⟨3, 3, [false, false, false], [], b_law_pick⟩
abbrev i_law_pick : Nat := 34
/-- _law_gcd(one, other, left, right, k, over_by) -/
def b_law_gcd_1 : List CS := [.ite (.cmp .eq (.var 3) (.cst (.int 0))) [.brk] [], .asg (.name 5) (.bin .mod (.bi .int [.var 2]) (.var 3)), .asg (.name 2) (.var 3), .asg (.name 3) (.var 5)]
def b_law_gcd : List CS := [.asg (.name 2) (.ite (.cmp .ge (.var 0) (.cst (.int 0))) (.var 0) (.neg (.var 0))), .asg (.name 3) (.ite (.cmp .ge (.var 1) (.cst (.int 0))) (.var 1) (.neg (.var 1))), .for (.name 4) (.range [.cst (.int 20000)]) b_law_gcd_1, .ret (some (.var 2))]
def f_law_gcd : FnD := ⟨2, 6, [false, false], [], b_law_gcd⟩
abbrev i_law_gcd : Nat := 35
/-- _law_bad_integers() -/
def b_law_bad_integers : List CS := [.ret (some (.lst [.cst (.bl true), .cst .non, .cst (.str [49]), .tup [.cst (.int 1)], .tup [.cst (.int 1), .cst (.int 1)]]))]
def f_law_bad_integers : FnD := ⟨0, 0, [], [], b_law_bad_integers⟩
abbrev i_law_bad_integers : Nat := 36
/-- _law_red(n, d, common) -/
def b_law_red : List CS := [.ite (.cmp .lt (.var 1) (.cst (.int 0))) [.ret (some (.call 37 [.neg (.var 0), .neg (.var 1)]))] [], .asg (.name 2) (.call 35 [.var 0, .var 1]), .ite (.cmp .eq (.var 2) (.cst (.int 0))) [.ret (some (.tup [.cst (.int 0), .cst (.int 1)]))] [], .ret (some (.tup [.bin .fdiv (.var 0) (.var 2), .bin .fdiv (.var 1) (.var 2)]))]
def f_law_red : FnD := ⟨2, 3, [false, false], [], b_law_red⟩
abbrev i_law_red : Nat := 37
/-- _law_add(one, other) -/
def b_law_add : List CS := [.ret (some (.call 37 [.bin .add (.bin .mul (.idx (.var 0) (.cst (.int 0))) (.idx (.var 1) (.cst (.int 1)))) (.bin .mul (.idx (.var 1) (.cst (.int 0))) (.idx (.var 0) (.cst (.int 1)))), .bin .mul (.idx (.var 0) (.cst (.int 1))) (.idx (.var 1) (.cst (.int 1)))]))]
def f_law_add : FnD := ⟨2, 2, [false, false], [], b_law_add⟩
abbrev i_law_add : Nat := 38
/-- _law_sub(one, other) -/
def b_law_sub : List CS := [.ret (some (.call 37 [.bin .sub (.bin .mul (.idx (.var 0) (.cst (.int 0))) (.idx (.var 1) (.cst (.int 1)))) (.bin .mul (.idx (.var 1) (.cst (.int 0))) (.idx (.var 0) (.cst (.int 1)))), .bin .mul (.idx (.var 0) (.cst (.int 1))) (.idx (.var 1) (.cst (.int 1)))]))]
def f_law_sub : FnD := ⟨2, 2, [false, false], [], b_law_sub⟩
abbrev i_law_sub : Nat := 39
/-- _law_mul(one, other) -/
def b_law_mul : List CS := [.ret (some (.call 37 [.bin .mul (.idx (.var 0) (.cst (.int 0))) (.idx (.var 1) (.cst (.int 0))), .bin .mul (.idx (.var 0) (.cst (.int 1))) (.idx (.var 1) (.cst (.int 1)))]))]
def f_law_mul : FnD := ⟨2, 2, [false, false], [], b_law_mul⟩
abbrev i_law_mul : Nat := 40
/-- _law_less(one, other) -/
def b_law_less : List CS := [.ret (some (.cmp .lt (.bin .mul (.idx (.var 0) (.cst (.int 0))) (.idx (.var 1) (.cst (.int 1)))) (.bin .mul (.idx (.var 1) (.cst (.int 0))) (.idx (.var 0) (.cst (.int 1))))))]
def f_law_less : FnD := ⟨2, 2, [false, false], [], b_law_less⟩
abbrev i_law_less : Nat := 41
/-- _law_bad_fractions() -/
def b_law_bad_fractions : List CS := [.ret (some (.lst [.cst (.int 1), .cst .non, .tup [.cst (.int 1)], .tup [.cst (.int 2), .cst (.int 2)], .tup [.cst (.int 1), .cst (.int 0)], .tup [.cst (.int 1), .neg (.cst (.int 1))], .tup [.neg (.cst (.int 1)), .neg (.cst (.int 2))], .tup [.cst (.bl true), .cst (.int 1)], .tup [.cst (.int 1), .cst (.bl true)], .cst (.str [49]), .tup [.cst (.int 1), .cst (.int 2), .cst (.int 3)], .tup [.cst (.int 0), .cst (.int 2)]]))]
def f_law_bad_fractions : FnD := ⟨0, 0, [], [], b_law_bad_fractions⟩
abbrev i_law_bad_fractions : Nat := 42
/-- _law_div(a, b) -/
def b_law_div : List CS := [.ret (some (.call 40 [.var 0, .ite (.cmp .gt (.idx (.var 1) (.cst (.int 0))) (.cst (.int 0))) (.tup [.idx (.var 1) (.cst (.int 1)), .idx (.var 1) (.cst (.int 0))]) (.tup [.neg (.idx (.var 1) (.cst (.int 1))), .neg (.idx (.var 1) (.cst (.int 0)))])]))]
def f_law_div : FnD := ⟨2, 2, [false, false], [], b_law_div⟩
abbrev i_law_div : Nat := 43
/-- _law_earned(sold, share, used, whole, part, least) -/
def b_law_earned : List CS := [.asg (.name 3) (.call 40 [.tup [.var 0, .cst (.int 1)], .var 1]), .asg (.name 4) (.call 43 [.call 40 [.var 1, .tup [.var 2, .cst (.int 1)]], .call 39 [.tup [.cst (.int 1), .cst (.int 1)], .var 1]]), .asg (.name 5) (.ite (.call 41 [.var 3, .var 4]) (.var 3) (.var 4)), .ret (some (.bin .fdiv (.idx (.var 5) (.cst (.int 0))) (.idx (.var 5) (.cst (.int 1)))))]
def f_law_earned : FnD := ⟨3, 6, [false, false, false], [], b_law_earned⟩
abbrev i_law_earned : Nat := 44
/-- law(script, row, spot, turn, sold, whole, share, used, meant, total, k, now, cards, parts, line, part, at, half, middle, bad, one, n) -/
def b_law_1 : List CS := [.asg (.name 11) (.call 44 [.var 4, .var 6, .bin .add (.var 9) (.idx (.var 7) (.var 10))]), .expr (.meth .append (.var 8) [.bin .sub (.var 11) (.call 44 [.var 4, .var 6, .var 9])]), .asg (.name 9) (.bin .add (.var 9) (.idx (.var 7) (.var 10)))]
def b_law_2 : List CS := [.asg (.name 4) (.bin .add (.cst (.int 1)) (.call 31 [.var 1, .var 2, .call 34 [.var 1, .var 2, .lst [.cst (.int 9), .cst (.int 997), .cst (.int 100000)]]])), .asg (.name 5) (.bin .add (.cst (.int 1)) (.call 31 [.var 1, .var 2, .cst (.int 60)])), .asg (.name 6) (.call 34 [.var 1, .var 2, .lst [.tup [.cst (.int 0), .cst (.int 1)], .call 37 [.call 31 [.var 1, .var 2, .var 5], .var 5], .call 37 [.cst (.int 99), .cst (.int 100)]]]), .asg (.name 7) (.bi .tuple [.comp [10] (.name 10) (.range [.bin .add (.cst (.int 1)) (.call 31 [.var 1, .var 2, .cst (.int 8)])]) [] (.call 31 [.var 1, .var 2, .call 34 [.var 1, .var 2, .lst [.cst (.int 3), .bi .max [.cst (.int 1), .bin .fdiv (.var 4) (.cst (.int 3))]]]])]), .asg (.name 8) (.lst []), .asg (.name 9) (.cst (.int 0)), .for (.name 10) (.range [.bi .len [.var 7]]) b_law_1, .ite (.or (.not (.call 28 [.call 24 [.var 4, .call 33 [.var 1, .var 2, .var 6], .call 33 [.var 1, .var 2, .var 7]], .bi .tuple [.var 8]])) (.not (.call 28 [.call 25 [.var 4, .var 6, .call 33 [.var 1, .var 2, .var 7]], .bi .max [.cst (.int 0), .bin .sub (.bin .sub (.var 4) (.var 9)) (.bi .sum [.var 8])]]))) [.ret (some (.cst (.bl false)))] [], .ite (.or (.cmp .lt (.bi .min [.var 8]) (.cst (.int 0))) (.cmp .gt (.bin .mul (.bi .sum [.var 8]) (.idx (.var 6) (.cst (.int 1)))) (.bin .mul (.var 4) (.idx (.var 6) (.cst (.int 0)))))) [.ret (some (.cst (.bl false)))] []]
def b_law_3 : List CS := [.asg (.name 16) (.bi .len [.comp [20] (.name 20) (.e (.var 14)) [.not (.call 41 [.var 15, .var 20])] (.var 20)]), .asg (.name 14) (.bin .add (.bin .add (.slc (.var 14) none (some (.var 16))) (.lst [.var 15])) (.slc (.var 14) (some (.var 16)) none))]
def b_law_4 : List CS := [.ite (.or (.cmp .ne (.told (.call 24 [.var 19, .tup [.cst (.int 0), .cst (.int 1)], .tup [.cst (.int 5)]])) (.tup [.cst (.str [66, 97, 100, 86, 97, 108, 117, 101]), .cst (.int 0)])) (.cmp .ne (.told (.call 25 [.var 19, .tup [.cst (.int 0), .cst (.int 1)], .tup [.cst (.int 5)]])) (.tup [.cst (.str [66, 97, 100, 86, 97, 108, 117, 101]), .cst (.int 0)]))) [.ret (some (.cst (.bl false)))] []]
def b_law_5 : List CS := [.ite (.or (.cmp .ne (.told (.call 24 [.cst (.int 5), .var 19, .tup [.cst (.int 5)]])) (.tup [.cst (.str [66, 97, 100, 86, 97, 108, 117, 101]), .cst (.int 1)])) (.cmp .ne (.told (.call 25 [.cst (.int 5), .var 19, .tup [.cst (.int 5)]])) (.tup [.cst (.str [66, 97, 100, 86, 97, 108, 117, 101]), .cst (.int 1)]))) [.ret (some (.cst (.bl false)))] []]
def b_law_6 : List CS := [.ite (.or (.cmp .ne (.told (.call 24 [.cst (.int 5), .tup [.cst (.int 0), .cst (.int 1)], .var 19])) (.tup [.cst (.str [66, 97, 100, 86, 97, 108, 117, 101]), .cst (.int 2)])) (.cmp .ne (.told (.call 25 [.cst (.int 5), .tup [.cst (.int 0), .cst (.int 1)], .var 19])) (.tup [.cst (.str [66, 97, 100, 86, 97, 108, 117, 101]), .cst (.int 2)]))) [.ret (some (.cst (.bl false)))] []]
def b_law_7 : List CS := [.ite (.or (.cmp .ne (.told (.call 26 [.var 19])) (.tup [.cst (.str [66, 97, 100, 86, 97, 108, 117, 101]), .cst (.int 0)])) (.cmp .ne (.told (.call 27 [.var 19])) (.tup [.cst (.str [66, 97, 100, 86, 97, 108, 117, 101]), .cst (.int 0)]))) [.ret (some (.cst (.bl false)))] []]
def b_law : List CS := [.asg (.name 1) (.call 29 [.var 0]), .asg (.name 2) (.lst [.cst (.int 0)]), .for (.name 3) (.range [.cst (.int 3)]) b_law_2, .asg (.name 12) (.bi .tuple [.comp [21] (.name 21) (.e (.comp [10] (.name 10) (.range [.bin .add (.cst (.int 1)) (.call 31 [.var 1, .var 2, .cst (.int 9)])]) [] (.bin .add (.cst (.int 1)) (.call 31 [.var 1, .var 2, .call 34 [.var 1, .var 2, .lst [.cst (.int 4), .cst (.int 60), .cst (.int 997)]]])))) [] (.tup [.var 21, .call 31 [.var 1, .var 2, .bin .add (.var 21) (.cst (.int 1))]])]), .asg (.name 4) (.bi .sum [.comp [20] (.name 20) (.e (.var 12)) [] (.idx (.var 20) (.cst (.int 0)))]), .ite (.not (.call 28 [.call 26 [.call 33 [.var 1, .var 2, .var 12]], .call 37 [.bin .sub (.var 4) (.bi .sum [.comp [20] (.name 20) (.e (.var 12)) [] (.idx (.var 20) (.cst (.int 1)))]), .var 4]])) [.ret (some (.cst (.bl false)))] [], .asg (.name 13) (.comp [20] (.name 20) (.e (.var 12)) [] (.call 37 [.bin .sub (.idx (.var 20) (.cst (.int 0))) (.idx (.var 20) (.cst (.int 1))), .idx (.var 20) (.cst (.int 0))])), .asg (.name 14) (.lst []), .for (.name 15) (.e (.var 13)) b_law_3, .asg (.name 17) (.bin .fdiv (.bi .len [.var 14]) (.cst (.int 2))), .asg (.name 18) (.ite (.cmp .eq (.bin .mod (.bi .int [.bi .len [.var 14]]) (.cst (.int 2))) (.cst (.int 1))) (.idx (.var 14) (.var 17)) (.call 40 [.call 38 [.idx (.var 14) (.bin .sub (.var 17) (.cst (.int 1))), .idx (.var 14) (.var 17)], .tup [.cst (.int 1), .cst (.int 2)]])), .ite (.not (.call 28 [.call 27 [.call 33 [.var 1, .var 2, .var 12]], .var 18])) [.ret (some (.cst (.bl false)))] [], .for (.name 19) (.e (.bin .add (.call 36 []) (.lst [.cst (.int 0), .bin .add (.bin .pow (.cst (.int 10)) (.cst (.int 6))) (.cst (.int 1))]))) b_law_4, .for (.name 19) (.e (.bin .add (.call 42 []) (.lst [.tup [.neg (.cst (.int 1)), .cst (.int 2)], .tup [.cst (.int 1), .cst (.int 1)], .tup [.cst (.int 3), .cst (.int 2)]]))) b_law_5, .for (.name 19) (.e (.lst [.tup [], .tup [.neg (.cst (.int 1))], .tup [.bin .add (.bin .pow (.cst (.int 10)) (.cst (.int 6))) (.cst (.int 1))], .tup [.cst (.bl true)], .cst .non, .cst (.int 5), .bin .mul (.tup [.cst (.int 1)]) (.cst (.int 13))])) b_law_6, .for (.name 19) (.e (.lst [.tup [], .tup [.tup [.cst (.int 0), .cst (.int 0)]], .tup [.tup [.cst (.int 10001), .cst (.int 0)]], .tup [.tup [.cst (.int 5), .cst (.int 6)]], .tup [.tup [.cst (.int 5), .neg (.cst (.int 1))]], .tup [.tup [.cst (.int 5)]], .cst .non, .tup [.cst (.int 5), .cst (.int 5)], .tup [.tup [.cst (.int 5), .cst (.bl true)]], .bin .mul (.tup [.tup [.cst (.int 5), .cst (.int 5)]]) (.cst (.int 21))])) b_law_7, .ret (some (.and (.call 28 [.call 24 [.cst (.int 100), .tup [.cst (.int 1), .cst (.int 2)], .tup [.cst (.int 20), .cst (.int 20), .cst (.int 20)]], .tup [.cst (.int 20), .cst (.int 20), .cst (.int 10)]]) (.and (.call 28 [.call 25 [.cst (.int 100), .tup [.cst (.int 1), .cst (.int 2)], .tup [.cst (.int 20), .cst (.int 20), .cst (.int 20)]], .cst (.int 0)]) (.and (.call 28 [.call 24 [.cst (.int 1), .tup [.cst (.int 1), .cst (.int 2)], .tup [.cst (.int 0), .cst (.int 1)]], .tup [.cst (.int 0), .cst (.int 0)]]) (.and (.call 28 [.call 25 [.cst (.int 10), .tup [.cst (.int 0), .cst (.int 1)], .tup [.cst (.int 50)]], .cst (.int 0)]) (.and (.call 28 [.call 26 [.tup [.tup [.cst (.int 7), .cst (.int 7)]]], .tup [.cst (.int 0), .cst (.int 1)]]) (.and (.call 28 [.call 27 [.tup [.tup [.cst (.int 1), .cst (.int 0)], .tup [.cst (.int 1), .cst (.int 1)]]], .tup [.cst (.int 1), .cst (.int 2)]]) (.call 28 [.call 24 [.bin .pow (.cst (.int 10)) (.cst (.int 6)), .tup [.cst (.int 999999), .bin .pow (.cst (.int 10)) (.cst (.int 6))], .tup [.cst (.int 1)]], .tup [.cst (.int 999999)]]))))))))]
def f_law : FnD := ⟨1, 22, [false], [], b_law⟩
abbrev i_law : Nat := 45
def rows : List FRow := [.ofS ((["held", "at"] : List String).map PySem.Str.ofString) (top 13), .ofS ((["value"] : List String).map PySem.Str.ofString) (top 14), .ofS ((["value", "least", "most"] : List String).map PySem.Str.ofString) (top 15), .ofS ((["value"] : List String).map PySem.Str.ofString) (top 16), .ofS ((["value", "fewest", "most"] : List String).map PySem.Str.ofString) (top 17), .ofS ((["value", "size"] : List String).map PySem.Str.ofString) (top 18), .ofS ((["value", "fewest", "most", "least", "greatest", "one"] : List String).map PySem.Str.ofString) (top 19), .ofS ((["value"] : List String).map PySem.Str.ofString) (top 22), .ofS ((["numerator", "denominator", "shared"] : List String).map PySem.Str.ofString) (top 23), .ofS ((["one", "other"] : List String).map PySem.Str.ofString) (top 24), .ofS ((["one"] : List String).map PySem.Str.ofString) (top 25), .ofS ((["one", "other"] : List String).map PySem.Str.ofString) (top 26), .ofS ((["fractions", "told", "one", "at"] : List String).map PySem.Str.ofString) (top 27), .ofS ((["fractions", "told", "half"] : List String).map PySem.Str.ofString) (top 28), .ofS ((["sold", "share", "part", "whole"] : List String).map PySem.Str.ofString) (top 30), .ofS ((["sold", "share", "use", "part", "whole", "in_measure"] : List String).map PySem.Str.ofString) (top 31), .ofS ((["numbers", "sums", "so_far", "number"] : List String).map PySem.Str.ofString) (top 32), .ofS ((["sums", "steps", "ahead", "so_far"] : List String).map PySem.Str.ofString) (top 33), .ofS ((["sold", "share", "used", "in_all", "use"] : List String).map PySem.Str.ofString) (top 34), .ofS ((["sold", "share", "used", "use"] : List String).map PySem.Str.ofString) (top 35), .ofS ((["value"] : List String).map PySem.Str.ofString) (top 42), .ofS ((["value"] : List String).map PySem.Str.ofString) (top 43), .ofS ((["value", "card"] : List String).map PySem.Str.ofString) (top 44), .ofS ((["sold", "share", "used"] : List String).map PySem.Str.ofString) (top 45), .ofS ((["sold", "share", "used"] : List String).map PySem.Str.ofString) (top 46), .ofS ((["sold", "share", "used"] : List String).map PySem.Str.ofString) (top 47), .ofS ((["cards", "sold", "spent", "card"] : List String).map PySem.Str.ofString) (top 48), .ofS ((["cards", "sold", "spent"] : List String).map PySem.Str.ofString) (top 49), .ofS ((["found", "meant", "k"] : List String).map PySem.Str.ofString) (top 51), .ofS ((["script", "row", "single", "left", "k", "stirred"] : List String).map PySem.Str.ofString) (top 52), .ofS ((["row", "at", "limit", "stirred"] : List String).map PySem.Str.ofString) (top 53), .ofS ((["row", "spot", "limit"] : List String).map PySem.Str.ofString) (top 54), .ofS ((["value", "one"] : List String).map PySem.Str.ofString) (top 55), .ofS ((["row", "spot", "value"] : List String).map PySem.Str.ofString) (top 56), .ofS ((["row", "spot", "things"] : List String).map PySem.Str.ofString) (top 57), .ofS ((["one", "other", "left", "right", "k", "over_by"] : List String).map PySem.Str.ofString) (top 58), .ofS ([]) (top 59), .ofS ((["n", "d", "common"] : List String).map PySem.Str.ofString) (top 60), .ofS ((["one", "other"] : List String).map PySem.Str.ofString) (top 61), .ofS ((["one", "other"] : List String).map PySem.Str.ofString) (top 62), .ofS ((["one", "other"] : List String).map PySem.Str.ofString) (top 63), .ofS ((["one", "other"] : List String).map PySem.Str.ofString) (top 64), .ofS ([]) (top 65), .ofS ((["a", "b"] : List String).map PySem.Str.ofString) (top 66), .ofS ((["sold", "share", "used", "whole", "part", "least"] : List String).map PySem.Str.ofString) (top 68), .ofS ((["script", "row", "spot", "turn", "sold", "whole", "share", "used", "meant", "total", "k", "now", "cards", "parts", "line", "part", "at", "half", "middle", "bad", "one", "n"] : List String).map PySem.Str.ofString) (top 69)]
def initOf : Stmt → Stmt
  | .ClassDef _ _ _ body _ _ _ _ _ _ _ => body.getD 0 (.Pass ⟨0, 0, 0, 0⟩)
  | s => s
def ers : List ERow := [⟨"BadValue", .ofS ((["self", "at"] : List String).map PySem.Str.ofString) (initOf (top 3))⟩]
def tld : List FRow := [.ofS ((["deed", "why"] : List String).map PySem.Str.ofString) (top 67)]
def RR : Rws := ⟨rows, ers, tld⟩
def G : Cfg := ⟨[f_need, f_is_integer, f_is_between, f_is_sequence, f_has_size, f_is_row, f_are_between, f_is_fraction, f_lowest, f_plus, f_half_of, f_is_below, f_by_size, f_middle_of, f_never_spent, f_earned_by, f_running_sums, f_steps_of, f_earned_in_each, f_owed_behind, f_is_share, f_is_sale, f_are_sales, f_need_periods, f_recognised, f_still_owed, f_share_of, f_middle_share, f_law_so, f_law_numbers, f_law_draw, f_law_take, f_law_listed, f_law_handed, f_law_pick, f_law_gcd, f_law_bad_integers, f_law_red, f_law_add, f_law_sub, f_law_mul, f_law_less, f_law_bad_fractions, f_law_div, f_law_earned, f_law], [], [.int 1000000, .int 1000000, .int 1000000, .int 12, .int 20, .int 10000], [[66, 97, 100, 86, 97, 108, 117, 101]]⟩
def M : NM := ⟨((["need", "is_integer", "is_between", "is_sequence", "has_size", "is_row", "are_between", "is_fraction", "lowest", "plus", "half_of", "is_below", "by_size", "middle_of", "never_spent", "earned_by", "running_sums", "steps_of", "earned_in_each", "owed_behind", "is_share", "is_sale", "are_sales", "need_periods", "recognised", "still_owed", "share_of", "middle_share", "_law_so", "_law_numbers", "_law_draw", "_law_take", "_law_listed", "_law_handed", "_law_pick", "_law_gcd", "_law_bad_integers", "_law_red", "_law_add", "_law_sub", "_law_mul", "_law_less", "_law_bad_fractions", "_law_div", "_law_earned", "law"] : List String).map PySem.Str.ofString), ((["WIDEST", "MOST_SOLD", "MOST_USED", "MOST_PERIODS", "MOST_CARDS", "MOST_ON_CARD"] : List String).map PySem.Str.ofString), ((["len", "tuple", "list", "sum", "max", "min", "int", "all", "range", "isinstance", "bool", "str"] : List String).map PySem.Str.ofString), some "gcd", [], some "_law_told", ((["BadValue"] : List String).map PySem.Str.ofString), ((["law"] : List String).map PySem.Str.ofString)⟩
-- law: index 45, statement 69
def lawAt : Nat := 69
-- loose
def loose0 : List PySem.Str := (["gcd", "GiftError", "BadValue", "BadText", "NoCard", "TakenCard", "TooEarly", "Lapsed", "TooMuch", "NotCash", "NoRevision", "need", "is_integer", "is_between", "is_sequence", "has_size", "is_row", "are_between", "WIDEST", "is_fraction", "lowest", "plus", "half_of", "is_below", "by_size", "middle_of", "never_spent", "earned_by", "running_sums", "steps_of"] : List String).map PySem.Str.ofString
def loose1 : List PySem.Str := (["earned_in_each", "owed_behind", "MOST_SOLD", "MOST_USED", "MOST_PERIODS", "MOST_CARDS", "MOST_ON_CARD", "is_share", "is_sale", "are_sales", "need_periods", "recognised", "still_owed", "share_of", "middle_share", "_law_so", "_law_numbers", "_law_draw", "_law_take", "_law_listed", "_law_handed", "_law_pick", "_law_gcd", "_law_bad_integers", "_law_red", "_law_add", "_law_sub", "_law_mul", "_law_less", "_law_bad_fractions"] : List String).map PySem.Str.ofString
def loose2 : List PySem.Str := (["_law_div", "_law_told", "_law_earned"] : List String).map PySem.Str.ofString
def loose : List PySem.Str := loose0 ++ loose1 ++ loose2
-- steps
@[simp] theorem d_need {cl : Nat → List SV → RC} {e : Ip.Env} {w0 w1 : W} : doCall G cl 0 [w0, w1] e = dc cl 0 [false, false] [w0, w1] e := doCallD (fd := f_need) rfl rfl rfl
theorem c_need {k : Nat} {x0 x1 : SV} : callI G (k + 1) 0 [x0, x1] = finC 2 (execSs G (callI G k) 2 b_need ([x0, x1])) := callI_eq (fd := f_need) rfl rfl
@[simp] theorem d_is_integer {cl : Nat → List SV → RC} {e : Ip.Env} {w0 : W} : doCall G cl 1 [w0] e = dc cl 1 [false] [w0] e := doCallD (fd := f_is_integer) rfl rfl rfl
theorem c_is_integer {k : Nat} {x0 : SV} : callI G (k + 1) 1 [x0] = finC 1 (execSs G (callI G k) 1 b_is_integer ([x0])) := callI_eq (fd := f_is_integer) rfl rfl
@[simp] theorem d_is_between {cl : Nat → List SV → RC} {e : Ip.Env} {w0 w1 w2 : W} : doCall G cl 2 [w0, w1, w2] e = dc cl 2 [false, false, false] [w0, w1, w2] e := doCallD (fd := f_is_between) rfl rfl rfl
theorem c_is_between {k : Nat} {x0 x1 x2 : SV} : callI G (k + 1) 2 [x0, x1, x2] = finC 3 (execSs G (callI G k) 3 b_is_between ([x0, x1, x2])) := callI_eq (fd := f_is_between) rfl rfl
@[simp] theorem d_is_sequence {cl : Nat → List SV → RC} {e : Ip.Env} {w0 : W} : doCall G cl 3 [w0] e = dc cl 3 [false] [w0] e := doCallD (fd := f_is_sequence) rfl rfl rfl
theorem c_is_sequence {k : Nat} {x0 : SV} : callI G (k + 1) 3 [x0] = finC 1 (execSs G (callI G k) 1 b_is_sequence ([x0])) := callI_eq (fd := f_is_sequence) rfl rfl
@[simp] theorem d_has_size {cl : Nat → List SV → RC} {e : Ip.Env} {w0 w1 w2 : W} : doCall G cl 4 [w0, w1, w2] e = dc cl 4 [false, false, false] [w0, w1, w2] e := doCallD (fd := f_has_size) rfl rfl rfl
theorem c_has_size {k : Nat} {x0 x1 x2 : SV} : callI G (k + 1) 4 [x0, x1, x2] = finC 3 (execSs G (callI G k) 3 b_has_size ([x0, x1, x2])) := callI_eq (fd := f_has_size) rfl rfl
@[simp] theorem d_is_row {cl : Nat → List SV → RC} {e : Ip.Env} {w0 w1 : W} : doCall G cl 5 [w0, w1] e = dc cl 5 [false, false] [w0, w1] e := doCallD (fd := f_is_row) rfl rfl rfl
theorem c_is_row {k : Nat} {x0 x1 : SV} : callI G (k + 1) 5 [x0, x1] = finC 2 (execSs G (callI G k) 2 b_is_row ([x0, x1])) := callI_eq (fd := f_is_row) rfl rfl
@[simp] theorem d_are_between {cl : Nat → List SV → RC} {e : Ip.Env} {w0 w1 w2 w3 w4 : W} : doCall G cl 6 [w0, w1, w2, w3, w4] e = dc cl 6 [false, false, false, false, false] [w0, w1, w2, w3, w4] e := doCallD (fd := f_are_between) rfl rfl rfl
theorem c_are_between {k : Nat} {x0 x1 x2 x3 x4 : SV} : callI G (k + 1) 6 [x0, x1, x2, x3, x4] = finC 5 (execSs G (callI G k) 5 b_are_between ([x0, x1, x2, x3, x4] ++ [.un])) := callI_eq (fd := f_are_between) rfl rfl
@[simp] theorem d_is_fraction {cl : Nat → List SV → RC} {e : Ip.Env} {w0 : W} : doCall G cl 7 [w0] e = dc cl 7 [false] [w0] e := doCallD (fd := f_is_fraction) rfl rfl rfl
theorem c_is_fraction {k : Nat} {x0 : SV} : callI G (k + 1) 7 [x0] = finC 1 (execSs G (callI G k) 1 b_is_fraction ([x0])) := callI_eq (fd := f_is_fraction) rfl rfl
@[simp] theorem d_lowest {cl : Nat → List SV → RC} {e : Ip.Env} {w0 w1 : W} : doCall G cl 8 [w0, w1] e = dc cl 8 [false, false] [w0, w1] e := doCallD (fd := f_lowest) rfl rfl rfl
theorem c_lowest {k : Nat} {x0 x1 : SV} : callI G (k + 1) 8 [x0, x1] = finC 2 (execSs G (callI G k) 2 b_lowest ([x0, x1] ++ [.un])) := callI_eq (fd := f_lowest) rfl rfl
@[simp] theorem d_plus {cl : Nat → List SV → RC} {e : Ip.Env} {w0 w1 : W} : doCall G cl 9 [w0, w1] e = dc cl 9 [false, false] [w0, w1] e := doCallD (fd := f_plus) rfl rfl rfl
theorem c_plus {k : Nat} {x0 x1 : SV} : callI G (k + 1) 9 [x0, x1] = finC 2 (execSs G (callI G k) 2 b_plus ([x0, x1])) := callI_eq (fd := f_plus) rfl rfl
@[simp] theorem d_half_of {cl : Nat → List SV → RC} {e : Ip.Env} {w0 : W} : doCall G cl 10 [w0] e = dc cl 10 [false] [w0] e := doCallD (fd := f_half_of) rfl rfl rfl
theorem c_half_of {k : Nat} {x0 : SV} : callI G (k + 1) 10 [x0] = finC 1 (execSs G (callI G k) 1 b_half_of ([x0])) := callI_eq (fd := f_half_of) rfl rfl
@[simp] theorem d_is_below {cl : Nat → List SV → RC} {e : Ip.Env} {w0 w1 : W} : doCall G cl 11 [w0, w1] e = dc cl 11 [false, false] [w0, w1] e := doCallD (fd := f_is_below) rfl rfl rfl
theorem c_is_below {k : Nat} {x0 x1 : SV} : callI G (k + 1) 11 [x0, x1] = finC 2 (execSs G (callI G k) 2 b_is_below ([x0, x1])) := callI_eq (fd := f_is_below) rfl rfl
@[simp] theorem d_by_size {cl : Nat → List SV → RC} {e : Ip.Env} {w0 : W} : doCall G cl 12 [w0] e = dc cl 12 [false] [w0] e := doCallD (fd := f_by_size) rfl rfl rfl
theorem c_by_size {k : Nat} {x0 : SV} : callI G (k + 1) 12 [x0] = finC 1 (execSs G (callI G k) 1 b_by_size ([x0] ++ [.un, .un, .un])) := callI_eq (fd := f_by_size) rfl rfl
@[simp] theorem d_middle_of {cl : Nat → List SV → RC} {e : Ip.Env} {w0 : W} : doCall G cl 13 [w0] e = dc cl 13 [false] [w0] e := doCallD (fd := f_middle_of) rfl rfl rfl
theorem c_middle_of {k : Nat} {x0 : SV} : callI G (k + 1) 13 [x0] = finC 1 (execSs G (callI G k) 1 b_middle_of ([x0] ++ [.un, .un])) := callI_eq (fd := f_middle_of) rfl rfl
@[simp] theorem d_never_spent {cl : Nat → List SV → RC} {e : Ip.Env} {w0 w1 : W} : doCall G cl 14 [w0, w1] e = dc cl 14 [false, false] [w0, w1] e := doCallD (fd := f_never_spent) rfl rfl rfl
theorem c_never_spent {k : Nat} {x0 x1 : SV} : callI G (k + 1) 14 [x0, x1] = finC 2 (execSs G (callI G k) 2 b_never_spent ([x0, x1] ++ [.un, .un])) := callI_eq (fd := f_never_spent) rfl rfl
@[simp] theorem d_earned_by {cl : Nat → List SV → RC} {e : Ip.Env} {w0 w1 w2 : W} : doCall G cl 15 [w0, w1, w2] e = dc cl 15 [false, false, false] [w0, w1, w2] e := doCallD (fd := f_earned_by) rfl rfl rfl
theorem c_earned_by {k : Nat} {x0 x1 x2 : SV} : callI G (k + 1) 15 [x0, x1, x2] = finC 3 (execSs G (callI G k) 3 b_earned_by ([x0, x1, x2] ++ [.un, .un, .un])) := callI_eq (fd := f_earned_by) rfl rfl
@[simp] theorem d_running_sums {cl : Nat → List SV → RC} {e : Ip.Env} {w0 : W} : doCall G cl 16 [w0] e = dc cl 16 [false] [w0] e := doCallD (fd := f_running_sums) rfl rfl rfl
theorem c_running_sums {k : Nat} {x0 : SV} : callI G (k + 1) 16 [x0] = finC 1 (execSs G (callI G k) 1 b_running_sums ([x0] ++ [.un, .un, .un])) := callI_eq (fd := f_running_sums) rfl rfl
@[simp] theorem d_steps_of {cl : Nat → List SV → RC} {e : Ip.Env} {w0 : W} : doCall G cl 17 [w0] e = dc cl 17 [false] [w0] e := doCallD (fd := f_steps_of) rfl rfl rfl
theorem c_steps_of {k : Nat} {x0 : SV} : callI G (k + 1) 17 [x0] = finC 1 (execSs G (callI G k) 1 b_steps_of ([x0] ++ [.un, .un, .un])) := callI_eq (fd := f_steps_of) rfl rfl
@[simp] theorem d_earned_in_each {cl : Nat → List SV → RC} {e : Ip.Env} {w0 w1 w2 : W} : doCall G cl 18 [w0, w1, w2] e = dc cl 18 [false, false, false] [w0, w1, w2] e := doCallD (fd := f_earned_in_each) rfl rfl rfl
theorem c_earned_in_each {k : Nat} {x0 x1 x2 : SV} : callI G (k + 1) 18 [x0, x1, x2] = finC 3 (execSs G (callI G k) 3 b_earned_in_each ([x0, x1, x2] ++ [.un, .un])) := callI_eq (fd := f_earned_in_each) rfl rfl
@[simp] theorem d_owed_behind {cl : Nat → List SV → RC} {e : Ip.Env} {w0 w1 w2 : W} : doCall G cl 19 [w0, w1, w2] e = dc cl 19 [false, false, false] [w0, w1, w2] e := doCallD (fd := f_owed_behind) rfl rfl rfl
theorem c_owed_behind {k : Nat} {x0 x1 x2 : SV} : callI G (k + 1) 19 [x0, x1, x2] = finC 3 (execSs G (callI G k) 3 b_owed_behind ([x0, x1, x2] ++ [.un])) := callI_eq (fd := f_owed_behind) rfl rfl
@[simp] theorem d_is_share {cl : Nat → List SV → RC} {e : Ip.Env} {w0 : W} : doCall G cl 20 [w0] e = dc cl 20 [false] [w0] e := doCallD (fd := f_is_share) rfl rfl rfl
theorem c_is_share {k : Nat} {x0 : SV} : callI G (k + 1) 20 [x0] = finC 1 (execSs G (callI G k) 1 b_is_share ([x0])) := callI_eq (fd := f_is_share) rfl rfl
@[simp] theorem d_is_sale {cl : Nat → List SV → RC} {e : Ip.Env} {w0 : W} : doCall G cl 21 [w0] e = dc cl 21 [false] [w0] e := doCallD (fd := f_is_sale) rfl rfl rfl
theorem c_is_sale {k : Nat} {x0 : SV} : callI G (k + 1) 21 [x0] = finC 1 (execSs G (callI G k) 1 b_is_sale ([x0])) := callI_eq (fd := f_is_sale) rfl rfl
@[simp] theorem d_are_sales {cl : Nat → List SV → RC} {e : Ip.Env} {w0 : W} : doCall G cl 22 [w0] e = dc cl 22 [false] [w0] e := doCallD (fd := f_are_sales) rfl rfl rfl
theorem c_are_sales {k : Nat} {x0 : SV} : callI G (k + 1) 22 [x0] = finC 1 (execSs G (callI G k) 1 b_are_sales ([x0] ++ [.un])) := callI_eq (fd := f_are_sales) rfl rfl
@[simp] theorem d_need_periods {cl : Nat → List SV → RC} {e : Ip.Env} {w0 w1 w2 : W} : doCall G cl 23 [w0, w1, w2] e = dc cl 23 [false, false, false] [w0, w1, w2] e := doCallD (fd := f_need_periods) rfl rfl rfl
theorem c_need_periods {k : Nat} {x0 x1 x2 : SV} : callI G (k + 1) 23 [x0, x1, x2] = finC 3 (execSs G (callI G k) 3 b_need_periods ([x0, x1, x2])) := callI_eq (fd := f_need_periods) rfl rfl
@[simp] theorem d_recognised {cl : Nat → List SV → RC} {e : Ip.Env} {w0 w1 w2 : W} : doCall G cl 24 [w0, w1, w2] e = dc cl 24 [false, false, false] [w0, w1, w2] e := doCallD (fd := f_recognised) rfl rfl rfl
theorem c_recognised {k : Nat} {x0 x1 x2 : SV} : callI G (k + 1) 24 [x0, x1, x2] = finC 3 (execSs G (callI G k) 3 b_recognised ([x0, x1, x2])) := callI_eq (fd := f_recognised) rfl rfl
@[simp] theorem d_still_owed {cl : Nat → List SV → RC} {e : Ip.Env} {w0 w1 w2 : W} : doCall G cl 25 [w0, w1, w2] e = dc cl 25 [false, false, false] [w0, w1, w2] e := doCallD (fd := f_still_owed) rfl rfl rfl
theorem c_still_owed {k : Nat} {x0 x1 x2 : SV} : callI G (k + 1) 25 [x0, x1, x2] = finC 3 (execSs G (callI G k) 3 b_still_owed ([x0, x1, x2])) := callI_eq (fd := f_still_owed) rfl rfl
@[simp] theorem d_share_of {cl : Nat → List SV → RC} {e : Ip.Env} {w0 : W} : doCall G cl 26 [w0] e = dc cl 26 [false] [w0] e := doCallD (fd := f_share_of) rfl rfl rfl
theorem c_share_of {k : Nat} {x0 : SV} : callI G (k + 1) 26 [x0] = finC 1 (execSs G (callI G k) 1 b_share_of ([x0] ++ [.un, .un, .un])) := callI_eq (fd := f_share_of) rfl rfl
@[simp] theorem d_middle_share {cl : Nat → List SV → RC} {e : Ip.Env} {w0 : W} : doCall G cl 27 [w0] e = dc cl 27 [false] [w0] e := doCallD (fd := f_middle_share) rfl rfl rfl
theorem c_middle_share {k : Nat} {x0 : SV} : callI G (k + 1) 27 [x0] = finC 1 (execSs G (callI G k) 1 b_middle_share ([x0] ++ [.un, .un])) := callI_eq (fd := f_middle_share) rfl rfl
@[simp] theorem d_law_so {cl : Nat → List SV → RC} {e : Ip.Env} {w0 w1 : W} : doCall G cl 28 [w0, w1] e = dc cl 28 [false, false] [w0, w1] e := doCallD (fd := f_law_so) rfl rfl rfl
theorem c_law_so {k : Nat} {x0 x1 : SV} : callI G (k + 1) 28 [x0, x1] = finC 2 (execSs G (callI G k) 2 b_law_so ([x0, x1] ++ [.un])) := callI_eq (fd := f_law_so) rfl rfl
@[simp] theorem d_law_numbers {cl : Nat → List SV → RC} {e : Ip.Env} {w0 : W} : doCall G cl 29 [w0] e = dc cl 29 [false] [w0] e := doCallD (fd := f_law_numbers) rfl rfl rfl
theorem c_law_numbers {k : Nat} {x0 : SV} : callI G (k + 1) 29 [x0] = finC 1 (execSs G (callI G k) 1 b_law_numbers ([x0] ++ [.un, .un, .un, .un, .un])) := callI_eq (fd := f_law_numbers) rfl rfl
@[simp] theorem d_law_draw {cl : Nat → List SV → RC} {e : Ip.Env} {w0 w1 w2 : W} : doCall G cl 30 [w0, w1, w2] e = dc cl 30 [false, false, false] [w0, w1, w2] e := doCallD (fd := f_law_draw) rfl rfl rfl
theorem c_law_draw {k : Nat} {x0 x1 x2 : SV} : callI G (k + 1) 30 [x0, x1, x2] = finC 3 (execSs G (callI G k) 3 b_law_draw ([x0, x1, x2] ++ [.un])) := callI_eq (fd := f_law_draw) rfl rfl
@[simp] theorem d_law_take {cl : Nat → List SV → RC} {e : Ip.Env} {w0 w1 w2 : W} : doCall G cl 31 [w0, w1, w2] e = dc cl 31 [false, false, false] [w0, w1, w2] e := doCallD (fd := f_law_take) rfl rfl rfl
theorem c_law_take {k : Nat} {x0 x1 x2 : SV} : callI G (k + 1) 31 [x0, x1, x2] = finC 3 (execSs G (callI G k) 3 b_law_take ([x0, x1, x2])) := callI_eq (fd := f_law_take) rfl rfl
@[simp] theorem d_law_listed {cl : Nat → List SV → RC} {e : Ip.Env} {w0 : W} : doCall G cl 32 [w0] e = dc cl 32 [false] [w0] e := doCallD (fd := f_law_listed) rfl rfl rfl
theorem c_law_listed {k : Nat} {x0 : SV} : callI G (k + 1) 32 [x0] = finC 1 (execSs G (callI G k) 1 b_law_listed ([x0] ++ [.un])) := callI_eq (fd := f_law_listed) rfl rfl
@[simp] theorem d_law_handed {cl : Nat → List SV → RC} {e : Ip.Env} {w0 w1 w2 : W} : doCall G cl 33 [w0, w1, w2] e = dc cl 33 [false, false, false] [w0, w1, w2] e := doCallD (fd := f_law_handed) rfl rfl rfl
theorem c_law_handed {k : Nat} {x0 x1 x2 : SV} : callI G (k + 1) 33 [x0, x1, x2] = finC 3 (execSs G (callI G k) 3 b_law_handed ([x0, x1, x2])) := callI_eq (fd := f_law_handed) rfl rfl
@[simp] theorem d_law_pick {cl : Nat → List SV → RC} {e : Ip.Env} {w0 w1 w2 : W} : doCall G cl 34 [w0, w1, w2] e = dc cl 34 [false, false, false] [w0, w1, w2] e := doCallD (fd := f_law_pick) rfl rfl rfl
theorem c_law_pick {k : Nat} {x0 x1 x2 : SV} : callI G (k + 1) 34 [x0, x1, x2] = finC 3 (execSs G (callI G k) 3 b_law_pick ([x0, x1, x2])) := callI_eq (fd := f_law_pick) rfl rfl
@[simp] theorem d_law_gcd {cl : Nat → List SV → RC} {e : Ip.Env} {w0 w1 : W} : doCall G cl 35 [w0, w1] e = dc cl 35 [false, false] [w0, w1] e := doCallD (fd := f_law_gcd) rfl rfl rfl
theorem c_law_gcd {k : Nat} {x0 x1 : SV} : callI G (k + 1) 35 [x0, x1] = finC 2 (execSs G (callI G k) 2 b_law_gcd ([x0, x1] ++ [.un, .un, .un, .un])) := callI_eq (fd := f_law_gcd) rfl rfl
@[simp] theorem d_law_bad_integers {cl : Nat → List SV → RC} {e : Ip.Env} : doCall G cl 36 [] e = dc cl 36 [] [] e := doCallD (fd := f_law_bad_integers) rfl rfl rfl
theorem c_law_bad_integers {k : Nat} : callI G (k + 1) 36 [] = finC 0 (execSs G (callI G k) 0 b_law_bad_integers ([])) := callI_eq (fd := f_law_bad_integers) rfl rfl
@[simp] theorem d_law_red {cl : Nat → List SV → RC} {e : Ip.Env} {w0 w1 : W} : doCall G cl 37 [w0, w1] e = dc cl 37 [false, false] [w0, w1] e := doCallD (fd := f_law_red) rfl rfl rfl
theorem c_law_red {k : Nat} {x0 x1 : SV} : callI G (k + 1) 37 [x0, x1] = finC 2 (execSs G (callI G k) 2 b_law_red ([x0, x1] ++ [.un])) := callI_eq (fd := f_law_red) rfl rfl
@[simp] theorem d_law_add {cl : Nat → List SV → RC} {e : Ip.Env} {w0 w1 : W} : doCall G cl 38 [w0, w1] e = dc cl 38 [false, false] [w0, w1] e := doCallD (fd := f_law_add) rfl rfl rfl
theorem c_law_add {k : Nat} {x0 x1 : SV} : callI G (k + 1) 38 [x0, x1] = finC 2 (execSs G (callI G k) 2 b_law_add ([x0, x1])) := callI_eq (fd := f_law_add) rfl rfl
@[simp] theorem d_law_sub {cl : Nat → List SV → RC} {e : Ip.Env} {w0 w1 : W} : doCall G cl 39 [w0, w1] e = dc cl 39 [false, false] [w0, w1] e := doCallD (fd := f_law_sub) rfl rfl rfl
theorem c_law_sub {k : Nat} {x0 x1 : SV} : callI G (k + 1) 39 [x0, x1] = finC 2 (execSs G (callI G k) 2 b_law_sub ([x0, x1])) := callI_eq (fd := f_law_sub) rfl rfl
@[simp] theorem d_law_mul {cl : Nat → List SV → RC} {e : Ip.Env} {w0 w1 : W} : doCall G cl 40 [w0, w1] e = dc cl 40 [false, false] [w0, w1] e := doCallD (fd := f_law_mul) rfl rfl rfl
theorem c_law_mul {k : Nat} {x0 x1 : SV} : callI G (k + 1) 40 [x0, x1] = finC 2 (execSs G (callI G k) 2 b_law_mul ([x0, x1])) := callI_eq (fd := f_law_mul) rfl rfl
@[simp] theorem d_law_less {cl : Nat → List SV → RC} {e : Ip.Env} {w0 w1 : W} : doCall G cl 41 [w0, w1] e = dc cl 41 [false, false] [w0, w1] e := doCallD (fd := f_law_less) rfl rfl rfl
theorem c_law_less {k : Nat} {x0 x1 : SV} : callI G (k + 1) 41 [x0, x1] = finC 2 (execSs G (callI G k) 2 b_law_less ([x0, x1])) := callI_eq (fd := f_law_less) rfl rfl
@[simp] theorem d_law_bad_fractions {cl : Nat → List SV → RC} {e : Ip.Env} : doCall G cl 42 [] e = dc cl 42 [] [] e := doCallD (fd := f_law_bad_fractions) rfl rfl rfl
theorem c_law_bad_fractions {k : Nat} : callI G (k + 1) 42 [] = finC 0 (execSs G (callI G k) 0 b_law_bad_fractions ([])) := callI_eq (fd := f_law_bad_fractions) rfl rfl
@[simp] theorem d_law_div {cl : Nat → List SV → RC} {e : Ip.Env} {w0 w1 : W} : doCall G cl 43 [w0, w1] e = dc cl 43 [false, false] [w0, w1] e := doCallD (fd := f_law_div) rfl rfl rfl
theorem c_law_div {k : Nat} {x0 x1 : SV} : callI G (k + 1) 43 [x0, x1] = finC 2 (execSs G (callI G k) 2 b_law_div ([x0, x1])) := callI_eq (fd := f_law_div) rfl rfl
@[simp] theorem d_law_earned {cl : Nat → List SV → RC} {e : Ip.Env} {w0 w1 w2 : W} : doCall G cl 44 [w0, w1, w2] e = dc cl 44 [false, false, false] [w0, w1, w2] e := doCallD (fd := f_law_earned) rfl rfl rfl
theorem c_law_earned {k : Nat} {x0 x1 x2 : SV} : callI G (k + 1) 44 [x0, x1, x2] = finC 3 (execSs G (callI G k) 3 b_law_earned ([x0, x1, x2] ++ [.un, .un, .un])) := callI_eq (fd := f_law_earned) rfl rfl
@[simp] theorem d_law {cl : Nat → List SV → RC} {e : Ip.Env} {w0 : W} : doCall G cl 45 [w0] e = dc cl 45 [false] [w0] e := doCallD (fd := f_law) rfl rfl rfl
theorem c_law {k : Nat} {x0 : SV} : callI G (k + 1) 45 [x0] = finC 1 (execSs G (callI G k) 1 b_law ([x0] ++ [.un, .un, .un, .un, .un, .un, .un, .un, .un, .un, .un, .un, .un, .un, .un, .un, .un, .un, .un, .un, .un])) := callI_eq (fd := f_law) rfl rfl
@[simp] theorem g_WIDEST : G.consts[0]? = some (.int 1000000) := rfl
@[simp] theorem g_MOST_SOLD : G.consts[1]? = some (.int 1000000) := rfl
@[simp] theorem g_MOST_USED : G.consts[2]? = some (.int 1000000) := rfl
@[simp] theorem g_MOST_PERIODS : G.consts[3]? = some (.int 12) := rfl
@[simp] theorem g_MOST_CARDS : G.consts[4]? = some (.int 20) := rfl
@[simp] theorem g_MOST_ON_CARD : G.consts[5]? = some (.int 10000) := rfl
theorem rows_ok : rowsB M G rows G.fns M.fn = true := by decide +kernel
theorem glb_ok : glbB M G = true := by decide +kernel
theorem exc_ok : excB M G RR = true := by decide +kernel
end K17
end

section
set_option maxRecDepth 100000
set_option maxHeartbeats 0
set_option linter.unusedSimpArgs false
set_option linter.unusedVariables false
open Ip K17
namespace K17
/-- ints as data -/
abbrev tI (xs : List Int) : List D := xs.map .int
/-- what a name holds once it was read as a whole -/
def fz : SV → D
  | .d d => d
  | .lst xs => .lst xs
  | _ => .non
@[simp] theorem fz_1 {d : D} : fz (.d d) = d := Eq.trans rfl rfl
@[simp] theorem fz_2 {xs : List D} : fz (.lst xs) = .lst xs := Eq.trans rfl rfl
/-- ints handed as a tuple or as a list -/
def Hn (s : SV) (xs : List Int) : Prop := s = .d (.tup (tI xs)) ∨ s = .lst (tI xs)
def Fz (d : D) (xs : List Int) : Prop := d = .tup (tI xs) ∨ d = .lst (tI xs)
theorem Hn.fz {s : SV} {xs : List Int} (h : Hn s xs) : Fz (K17.fz s) xs := by
  rcases h with rfl | rfl
  · exact .inl rfl
  · exact .inr rfl
def aT (xs : List Int) (i : Int) : Int := xs.getD i.toNat 0
section
variable {d : D} {xs : List Int}
theorem Fz.len (h : Fz d xs) : bfn .len [d] = some (.d (.int xs.length)) := by rcases h with rfl | rfl <;> simp
theorem Fz.sum (h : Fz d xs) : bfn .sum [d] = some (.d (.int xs.sum)) := by rcases h with rfl | rfl <;> simp [intsD_map]
theorem Fz.items (h : Fz d xs) : itemsD d = some (tI xs) := by rcases h with rfl | rfl <;> simp
theorem Fz.idx (h : Fz d xs) {i : Int} (h0 : 0 ≤ i) (h1 : i < xs.length) : idxD d (.int i) = some (.int (aT xs i)) := by
  obtain ⟨n, rfl⟩ : ∃ n : Nat, i = n := ⟨i.toNat, by omega⟩
  have hn : n < xs.length := by omega
  unfold aT
  rcases h with rfl | rfl
  · rw [ix_tup, ix_nat (j := n) rfl (by simpa using hn)]
    simp [hn]
  · rw [ix_lst, ix_nat (j := n) rfl (by simpa using hn)]
    simp [hn]
end
/-! the checks -/
theorem need_ok {k : Nat} {at_ : D} : callI G (k+1) i_need [.d (.bl true), .d at_] = .ok (.d .non) [.d (.bl true), .d at_] := by
  simp [c_need, b_need]
theorem is_integer_ok {k : Nat} {i : Int} : callI G (k+1) i_is_integer [.d (.int i)] = .ok (.d (.bl true)) [.d (.int i)] := by
  simp [c_is_integer, b_is_integer, isTy]
theorem is_between_ok {k : Nat} {i a b : Int} : callI G (k+2) i_is_between [.d (.int i), .d (.int a), .d (.int b)] = .ok (.d (.bl (decide (a ≤ i) && decide (i ≤ b)))) [.d (.int i), .d (.int a), .d (.int b)] := by
  simp [c_is_between, b_is_between, is_integer_ok, dc, cop]
  by_cases h : a ≤ i <;> simp [h]
theorem is_sequence_ok {k : Nat} {s : SV} {xs : List Int} (h : Hn s xs) : callI G (k+1) i_is_sequence [s] = .ok (.d (.bl true)) [s] := by
  rcases h with rfl | rfl <;> simp [c_is_sequence, b_is_sequence]
theorem has_size_ok {k : Nat} {s : SV} {xs : List Int} {a b : Int} (h : Hn s xs) (h1 : a ≤ xs.length) (h2 : xs.length ≤ b) : callI G (k+2) i_has_size [s, .d (.int a), .d (.int b)] = .ok (.d (.bl true)) [s, .d (.int a), .d (.int b)] := by
  have a1 : callI G (k+1) i_is_sequence [s] = .ok (.d (.bl true)) [s] := is_sequence_ok h
  rw [c_has_size]
  rcases h with rfl | rfl <;> generalize callI G (k+1) = cl at *
  · as_aux_lemma => simp [b_has_size, dcE, a1, h1, h2]
  · as_aux_lemma => simp [b_has_size, dcE, a1, h1, h2]
theorem are_between_ok {k : Nat} {s : SV} {xs : List Int} {a b c e : Int} (h : Hn s xs) (h1 : a ≤ xs.length) (h2 : xs.length ≤ b) (hl : xs.length ≤ 1000) (hx : ∀ x ∈ xs, c ≤ x ∧ x ≤ e) :
    callI G (k+3) i_are_between [s, .d (.int a), .d (.int b), .d (.int c), .d (.int e)] = .ok (.d (.bl true)) [.d (fz s), .d (.int a), .d (.int b), .d (.int c), .d (.int e)] := by
  have a1 : callI G (k+2) i_has_size [s, .d (.int a), .d (.int b)] = .ok (.d (.bl true)) [s, .d (.int a), .d (.int b)] := has_size_ok h h1 h2
  have a2 : ∀ x ∈ xs, callI G (k+2) i_is_between [.d (.int x), .d (.int c), .d (.int e)] = .ok (.d (.bl true)) [.d (.int x), .d (.int c), .d (.int e)] := fun x hm => by
    rw [is_between_ok, decide_eq_true (hx x hm).1, decide_eq_true (hx x hm).2]
    rfl
  have hc : ∀ s0 : SV, compL (cturn G (callI G (k+2)) [5] (.name 5) [] (.call 2 [.var 5, .var 3, .var 4])) (tI xs) [] [s0, .d (.int a), .d (.int b), .d (.int c), .d (.int e), .un] = .ok ((tI xs).map fun _ => .bl true) [s0, .d (.int a), .d (.int b), .d (.int c), .d (.int e), .un] := fun s0 => by
    refine compL_each (fun _ => .bl true) _ _ fun x hm => ?_
    obtain ⟨i, hi, rfl⟩ := List.mem_map.mp hm
    have h := a2 i hi
    generalize callI G (k+2) = cl at *
    as_aux_lemma => simp [cturn, dcE, h]
  have am : bfn .all [.lst ((tI xs).map fun _ => .bl true)] = some (.d (.bl true)) := all_mapT _
  have ll : xs.length ≤ 1000000 := by omega
  rw [c_are_between]
  generalize ((tI xs).map fun _ => D.bl true) = R at *
  rcases h with rfl | rfl <;> generalize callI G (k+2) = cl at *
  · as_aux_lemma => simp [b_are_between, dcE, a1, hc, am, ll, -bf_all]
  · as_aux_lemma => simp [b_are_between, dcE, a1, hc, am, ll, -bf_all]
/-! a share: two ints, handed or read -/
def Sh (s : SV) (p q : Int) : Prop := s = .d (.tup [.int p, .int q]) ∨ s = .lst [.int p, .int q]
def Sh3 (s : SV) (p q : Int) : Prop := s = .d (.tup [.int p, .int q]) ∨ s = .lst [.int p, .int q] ∨ s = .d (.lst [.int p, .int q])
theorem Sh.three {s : SV} {p q : Int} (h : Sh s p q) : Sh3 s p q := by
  rcases h with h | h
  · exact .inl h
  · exact .inr (.inl h)
theorem Sh3.fz {s : SV} {p q : Int} (h : Sh3 s p q) : Sh3 (.d (K17.fz s)) p q := by
  rcases h with rfl | rfl | rfl
  · exact .inl rfl
  · exact .inr (.inr rfl)
  · exact .inr (.inr rfl)
/-- a share of the law -/
structure Shr (p q : Int) : Prop where
  p0 : 0 ≤ p
  pq : p < q
  q1 : q ≤ 100
  g : Nat.gcd p.natAbs q.natAbs = 1
theorem is_row_ok {k : Nat} {s : SV} {p q : Int} (h : Sh s p q) : callI G (k+2) i_is_row [s, .d (.int 2)] = .ok (.d (.bl true)) [s, .d (.int 2)] := by
  rcases h with rfl | rfl <;> simp [c_is_row, b_is_row, dc, c_is_sequence, b_is_sequence]
theorem is_fraction_ok {k : Nat} {s : SV} {p q : Int} (h : Sh s p q) (r : Shr p q) : callI G (k+3) i_is_fraction [s] = .ok (.d (.bl true)) [s] := by
  have a1 : callI G (k+2) i_is_row [s, .d (.int 2)] = _ := is_row_ok h
  have a2 : callI G (k+2) i_is_between [.d (.int p), .d (.int (-1000000)), .d (.int 1000000)] = .ok (.d (.bl true)) [.d (.int p), .d (.int (-1000000)), .d (.int 1000000)] := by
    have h0 := r.p0; have h1 := r.pq; have h2 := r.q1
    rw [is_between_ok, decide_eq_true (by omega), decide_eq_true (by omega)]
    rfl
  have a3 : callI G (k+2) i_is_between [.d (.int q), .d (.int 1), .d (.int 1000000)] = .ok (.d (.bl true)) [.d (.int q), .d (.int 1), .d (.int 1000000)] := by
    have h0 := r.p0; have h1 := r.pq; have h2 := r.q1
    rw [is_between_ok, decide_eq_true (by omega), decide_eq_true (by omega)]
    rfl
  have hg := r.g
  rw [c_is_fraction]
  rcases h with rfl | rfl <;> generalize callI G (k+2) = cl at *
  · as_aux_lemma => simp [b_is_fraction, dcE, a1, a2, a3, ix, hg]
  · as_aux_lemma => simp [b_is_fraction, dcE, a1, a2, a3, ix, hg]
theorem is_share_ok {k : Nat} {s : SV} {p q : Int} (h : Sh s p q) (r : Shr p q) : callI G (k+4) i_is_share [s] = .ok (.d (.bl true)) [s] := by
  have a1 : callI G (k+3) i_is_fraction [s] = _ := is_fraction_ok h r
  have h0 := r.p0
  have h1 := r.pq
  rw [c_is_share]
  rcases h with rfl | rfl <;> generalize callI G (k+3) = cl at *
  · as_aux_lemma => simp [b_is_share, dcE, a1, ix, h0, h1]
  · as_aux_lemma => simp [b_is_share, dcE, a1, ix, h0, h1]
theorem need_periods_ok {k : Nat} {s t : SV} {p q sold : Int} {us : List Int} (h : Sh s p q) (r : Shr p q) (ht : Hn t us) (hs : 1 ≤ sold ∧ sold ≤ 1000000) (h1 : 1 ≤ us.length) (h2 : us.length ≤ 12) (hu : ∀ u ∈ us, 0 ≤ u ∧ u ≤ 1000000) :
    callI G (k+5) i_need_periods [.d (.int sold), s, t] = .ok (.d .non) [.d (.int sold), s, .d (fz t)] := by
  have a1 : callI G (k+4) i_is_between [.d (.int sold), .d (.int 1), .d (.int 1000000)] = .ok (.d (.bl true)) [.d (.int sold), .d (.int 1), .d (.int 1000000)] := by
    rw [is_between_ok, decide_eq_true hs.1, decide_eq_true hs.2]
    rfl
  have a2 : ∀ at_, callI G (k+4) i_need [.d (.bl true), .d at_] = .ok (.d .non) [.d (.bl true), .d at_] := fun _ => need_ok
  have a3 : callI G (k+4) i_is_share [s] = _ := is_share_ok h r
  have a4 : callI G (k+4) i_are_between [t, .d (.int 1), .d (.int 12), .d (.int 0), .d (.int 1000000)] = .ok (.d (.bl true)) [.d (fz t), .d (.int 1), .d (.int 12), .d (.int 0), .d (.int 1000000)] := are_between_ok (k := k+1) ht (by omega) (by omega) (by omega) hu
  rw [c_need_periods]
  rcases h with rfl | rfl <;> rcases ht with rfl | rfl <;> generalize callI G (k+4) = cl at * <;> simp only [fz_1, fz_2] at *
  · as_aux_lemma => simp [b_need_periods, dcE, a1, a2, a3, a4]
  · as_aux_lemma => simp [b_need_periods, dcE, a1, a2, a3, a4]
  · as_aux_lemma => simp [b_need_periods, dcE, a1, a2, a3, a4]
  · as_aux_lemma => simp [b_need_periods, dcE, a1, a2, a3, a4]
/-! what is earned -/
theorem never_spent_ok {k : Nat} {s : SV} {sold p q : Int} (h : Sh3 s p q) (r : Shr p q) (hs : 0 ≤ sold ∧ sold ≤ 1000000) : callI G (k+1) i_never_spent [.d (.int sold), s] = .ok (.d (.int (sold * p / q))) [.d (.int sold), .d (fz s)] := by
  have sm : small64 sold = true := by unfold small64; simp; omega
  have h0 := r.p0; have h1 := r.pq; have h2 := r.q1
  have e1 : 0 < q := by omega
  have e2 : q < 1073741824 := by omega
  rw [c_never_spent]
  rcases h with rfl | rfl | rfl <;> generalize callI G k = cl at * <;> simp only [fz_1, fz_2]
  · as_aux_lemma => simp [b_never_spent, sm, e1, e2]
  · as_aux_lemma => simp [b_never_spent, sm, e1, e2]
  · as_aux_lemma => simp [b_never_spent, sm, e1, e2]
def Er (s p q u : Int) : Int := if s * p / q < u * p / (q - p) then s * p / q else u * p / (q - p)
theorem earned_by_ok {k : Nat} {s : SV} {sold p q u : Int} (h : Sh3 s p q) (r : Shr p q) (hs : 0 ≤ sold ∧ sold ≤ 1000000) (hu : 0 ≤ u ∧ u ≤ 1000000000) : callI G (k+2) i_earned_by [.d (.int sold), s, .d (.int u)] = .ok (.d (.int (Er sold p q u))) [.d (.int sold), .d (fz s), .d (.int u)] := by
  have a1 : callI G (k+1) i_never_spent [.d (.int sold), .d (fz s)] = .ok (.d (.int (sold * p / q))) [.d (.int sold), .d (fz s)] := never_spent_ok h.fz r hs
  have sm : small64 u = true := by unfold small64; simp; omega
  have h0 := r.p0; have h1 := r.pq; have h2 := r.q1
  have e1 : 0 < q - p := by omega
  have e2 : q - p < 1073741824 := by omega
  have em : bfn .min [.int (u * p / (q - p)), .int (sold * p / q)] = some (.d (.int (Er sold p q u))) := bf_min2
  rw [c_earned_by]
  generalize sold * p / q = NS at *
  generalize Er sold p q u = ER at *
  rcases h with rfl | rfl | rfl <;> generalize callI G (k+1) = cl at * <;> simp only [fz_1, fz_2] at *
  · as_aux_lemma => simp [b_earned_by, dcE, a1, sm, h1, e2, em, -bf_min2]
  · as_aux_lemma => simp [b_earned_by, dcE, a1, sm, h1, e2, em, -bf_min2]
  · as_aux_lemma => simp [b_earned_by, dcE, a1, sm, h1, e2, em, -bf_min2]
/-- the sums so far -/
def sumsFrom : Int → List Int → List Int
  | _, [] => []
  | a, x :: xs => (a + x) :: sumsFrom (a + x) xs
theorem rs_loop {k : Nat} (sc : SV) : ∀ (xs : List Int) (acc : List Int) (s : Int) (n : SV), acc.length + xs.length ≤ 1000 → ∃ s' n', forL (turn G (callI G k) 1 (.name 3) b_running_sums_1) (xs.map .int) [sc, .lst (acc.map .int), .d (.int s), n] = .nx [sc, .lst ((acc ++ sumsFrom s xs).map .int), s', n']
  | [], acc, s, n, _ => ⟨.d (.int s), n, by simp [forL, sumsFrom]⟩
  | x :: xs, acc, s, n, h => by
    simp only [List.length_cons] at h
    have hl : acc.length < 1000000 := by omega
    have st : turn G (callI G k) 1 (.name 3) b_running_sums_1 (.int x) [sc, .lst (acc.map .int), .d (.int s), n] = .nx [sc, .lst ((acc ++ [s + x]).map .int), .d (.int (s + x)), .d (.int x)] := by
      simp [turn, b_running_sums_1, hl]
    obtain ⟨s', n', ih⟩ := rs_loop (k := k) sc xs (acc ++ [s + x]) (s + x) (.d (.int x)) (by simp; omega)
    refine ⟨s', n', ?_⟩
    rw [List.map_cons, forL_nx st, ih]
    simp [sumsFrom]
theorem running_sums_ok {k : Nat} {d : D} {xs : List Int} (hd : Fz d xs) (h : xs.length ≤ 1000) : callI G (k+1) i_running_sums [.d d] = .ok (.lst ((sumsFrom 0 xs).map .int)) [.d d] := by
  obtain ⟨s', n', hl⟩ := rs_loop (k := k) (.d d) xs [] 0 .un (by simpa using h)
  simp only [List.map_nil, List.nil_append] at hl
  have hit := hd.items
  rw [c_running_sums]
  generalize (sumsFrom 0 xs).map D.int = R at *
  generalize callI G k = cl at *
  as_aux_lemma => simp [b_running_sums, hit, hl, retW, getP]
/-- by how much each is above the one ahead -/
def stepsFrom : Int → List Int → List Int
  | _, [] => []
  | a, x :: xs => (x - a) :: stepsFrom x xs
theorem st_loop {k : Nat} (sc : SV) : ∀ (xs : List Int) (acc : List Int) (s : Int) (n : SV), acc.length + xs.length ≤ 1000 → ∃ s' n', forL (turn G (callI G k) 1 (.name 3) b_steps_of_1) (xs.map .int) [sc, .lst (acc.map .int), .d (.int s), n] = .nx [sc, .lst ((acc ++ stepsFrom s xs).map .int), s', n']
  | [], acc, s, n, _ => ⟨.d (.int s), n, by simp [forL, stepsFrom]⟩
  | x :: xs, acc, s, n, h => by
    simp only [List.length_cons] at h
    have hl : acc.length < 1000000 := by omega
    have st : turn G (callI G k) 1 (.name 3) b_steps_of_1 (.int x) [sc, .lst (acc.map .int), .d (.int s), n] = .nx [sc, .lst ((acc ++ [x - s]).map .int), .d (.int x), .d (.int x)] := by
      simp [turn, b_steps_of_1, hl]
    obtain ⟨s', n', ih⟩ := st_loop (k := k) sc xs (acc ++ [x - s]) x (.d (.int x)) (by simp; omega)
    refine ⟨s', n', ?_⟩
    rw [List.map_cons, forL_nx st, ih]
    simp [stepsFrom]
theorem steps_of_ok {k : Nat} {xs : List Int} (h : xs.length ≤ 1000) : callI G (k+1) i_steps_of [.lst (xs.map .int)] = .ok (.lst ((stepsFrom 0 xs).map .int)) [.d (.lst (xs.map .int))] := by
  obtain ⟨s', n', hl⟩ := st_loop (k := k) (.d (.lst (xs.map .int))) xs [] 0 .un (by simpa using h)
  simp only [List.map_nil, List.nil_append] at hl
  simp [c_steps_of, b_steps_of, hl, retW, getP]
theorem sumsFrom_len : ∀ (xs : List Int) (a : Int), (sumsFrom a xs).length = xs.length
  | [], _ => rfl
  | x :: xs, a => by simp [sumsFrom, sumsFrom_len xs]
theorem sumsFrom_bd : ∀ (xs : List Int) (a : Int) (x : Int), (∀ u ∈ xs, 0 ≤ u ∧ u ≤ 1000000) → x ∈ sumsFrom a xs → a ≤ x ∧ x ≤ a + 1000000 * xs.length
  | [], a, x, _, h => by simp [sumsFrom] at h
  | u :: xs, a, x, hu, h => by
    have h0 := hu u (by simp)
    have el : ((u :: xs).length : Int) = xs.length + 1 := by simp
    rcases List.mem_cons.mp h with rfl | h
    · omega
    · have := sumsFrom_bd xs (a + u) x (fun v hv => hu v (List.mem_cons_of_mem _ hv)) h
      omega
/-- a comprehension whose turns may change a name -/
theorem compL_eachP {P : Ip.Env → Prop} {f : D → Ip.Env → R (Option D)} (g : D → D) : ∀ (xs acc : List D) (e : Ip.Env), P e → (∀ x ∈ xs, ∀ e, P e → ∃ e', f x e = .ok (some (g x)) e' ∧ P e') → ∃ e', compL f xs acc e = .ok (acc ++ xs.map g) e' ∧ P e'
  | [], acc, e, p, _ => ⟨e, by simp [compL], p⟩
  | x :: xs, acc, e, p, h => by
    obtain ⟨e1, h1, p1⟩ := h x (by simp) e p
    obtain ⟨e', h2, h3⟩ := compL_eachP (P := P) (f := f) g xs (acc ++ [g x]) e1 p1 fun z hz => h z (List.mem_cons_of_mem _ hz)
    refine ⟨e', ?_, h3⟩
    rw [compL, h1]
    dsimp only
    rw [h2]
    simp
/-- what is earned in each period -/
def inEach (sold p q : Int) (us : List Int) : List Int := stepsFrom 0 ((sumsFrom 0 us).map (Er sold p q))
theorem earned_in_each_ok {k : Nat} {s : SV} {d : D} {sold p q : Int} {us : List Int} (h : Sh3 s p q) (r : Shr p q) (hs : 0 ≤ sold ∧ sold ≤ 1000000) (hd : Fz d us) (hl : us.length ≤ 12) (hu : ∀ u ∈ us, 0 ≤ u ∧ u ≤ 1000000) :
    ∃ fin, callI G (k+3) i_earned_in_each [.d (.int sold), s, .d d] = .ok (.d (.tup (tI (inEach sold p q us)))) fin := by
  have a1 : callI G (k+2) i_running_sums [.d d] = _ := running_sums_ok (k := k+1) hd (by omega)
  have hb : ∀ x ∈ sumsFrom 0 us, 0 ≤ x ∧ x ≤ 1000000000 := fun x hx => by have := sumsFrom_bd us 0 x hu hx; omega
  obtain ⟨e', hc, s1', h1', rfl⟩ := compL_eachP (P := fun e => ∃ s1, Sh3 s1 p q ∧ e = [.d (.int sold), s1, .d d, .un, .un]) (f := cturn G (callI G (k+2)) [4] (.name 4) [] (.call 15 [.var 0, .var 1, .var 4])) (fun x => match x with | .int u => .int (Er sold p q u) | x => x) ((sumsFrom 0 us).map .int) [] [.d (.int sold), s, .d d, .un, .un] ⟨s, h, rfl⟩ (by
    rintro x hx e ⟨s1, h1, rfl⟩
    obtain ⟨u, hum, rfl⟩ := List.mem_map.mp hx
    have a2 : callI G (k+2) i_earned_by [.d (.int sold), s1, .d (.int u)] = _ := earned_by_ok h1 r hs (hb u hum)
    refine ⟨[.d (.int sold), .d (fz s1), .d d, .un, .un], ?_, .d (fz s1), h1.fz, rfl⟩
    dsimp only
    generalize Er sold p q u = ER at *
    rcases h1 with rfl | rfl | rfl <;> generalize callI G (k+2) = cl at * <;> simp only [fz_1, fz_2] at *
    · as_aux_lemma => simp [cturn, dcE, a2]
    · as_aux_lemma => simp [cturn, dcE, a2]
    · as_aux_lemma => simp [cturn, dcE, a2])
  have em : ((sumsFrom 0 us).map D.int).map (fun x => match x with | .int u => D.int (Er sold p q u) | x => x) = ((sumsFrom 0 us).map (Er sold p q)).map .int := by simp
  rw [List.nil_append, em] at hc
  have a3 : callI G (k+2) i_steps_of [.lst (((sumsFrom 0 us).map (Er sold p q)).map .int)] = _ := steps_of_ok (k := k+1) (by rw [List.length_map, sumsFrom_len]; omega)
  have hln : ((sumsFrom 0 us).map D.int).length ≤ 1000000 := by rw [List.length_map, sumsFrom_len]; omega
  have ei : (stepsFrom 0 ((sumsFrom 0 us).map (Er sold p q))) = inEach sold p q us := rfl
  rw [ei] at a3
  refine ⟨[.d (.int sold), s1', .d d], ?_⟩
  show callI G (k+3) i_earned_in_each [.d (.int sold), s, .d d] = .ok (.d (.tup ((inEach sold p q us).map .int))) _
  rw [c_earned_in_each]
  clear hb em hd hu
  generalize (inEach sold p q us).map D.int = RI at *
  generalize (((sumsFrom 0 us).map (Er sold p q)).map D.int) = R2 at *
  generalize (sumsFrom 0 us).map D.int = R1 at *
  generalize callI G (k+2) = cl at *
  as_aux_lemma => simp [b_earned_in_each, dcE, a1, hc, a3, hln]
theorem owed_behind_ok {k : Nat} {s : SV} {d : D} {sold p q : Int} {us : List Int} (h : Sh3 s p q) (r : Shr p q) (hs : 0 ≤ sold ∧ sold ≤ 1000000) (hd : Fz d us) (hu : 0 ≤ us.sum ∧ us.sum ≤ 1000000000) :
    ∃ fin, callI G (k+3) i_owed_behind [.d (.int sold), s, .d d] = .ok (.d (.int (mx 0 (sold - us.sum - Er sold p q us.sum)))) fin := by
  have a1 : callI G (k+2) i_earned_by [.d (.int sold), s, .d (.int us.sum)] = _ := earned_by_ok h r hs hu
  have hsum := hd.sum
  have em : ∀ x, bfn .max [.int 0, .int x] = some (.d (.int (mx 0 x))) := fun x => bf_max2
  refine ⟨[.d (.int sold), .d (fz s), .d d], ?_⟩
  rw [c_owed_behind]
  clear hd hu
  generalize Er sold p q us.sum = ER at *
  generalize us.sum = US at *
  rcases h with rfl | rfl | rfl <;> generalize callI G (k+2) = cl at * <;> simp only [fz_1, fz_2] at *
  · as_aux_lemma => simp [b_owed_behind, dcE, a1, hsum, em, -bf_max2]
  · as_aux_lemma => simp [b_owed_behind, dcE, a1, hsum, em, -bf_max2]
  · as_aux_lemma => simp [b_owed_behind, dcE, a1, hsum, em, -bf_max2]
theorem recognised_ok {k : Nat} {s t : SV} {p q sold : Int} {us : List Int} (h : Sh s p q) (r : Shr p q) (ht : Hn t us) (hs : 1 ≤ sold ∧ sold ≤ 1000000) (h1 : 1 ≤ us.length) (h2 : us.length ≤ 12) (hu : ∀ u ∈ us, 0 ≤ u ∧ u ≤ 1000000) :
    ∃ fin, callI G (k+6) i_recognised [.d (.int sold), s, t] = .ok (.d (.tup (tI (inEach sold p q us)))) fin := by
  have a1 : callI G (k+5) i_need_periods [.d (.int sold), s, t] = _ := need_periods_ok (k := k) h r ht hs h1 h2 hu
  obtain ⟨f2, a2⟩ : ∃ fin, callI G (k+5) i_earned_in_each [.d (.int sold), s, .d (fz t)] = .ok (.d (.tup (tI (inEach sold p q us)))) fin := earned_in_each_ok (k := k+2) h.three r (by omega) ht.fz h2 hu
  rw [c_recognised]
  generalize tI (inEach sold p q us) = RI at *
  match f2, a2 with
  | f2, a2 =>
    have key : ∃ e2, execSs G (callI G (k+5)) 3 b_recognised [.d (.int sold), s, t] = .rt (.d (.tup RI)) e2 := by
      rcases h with rfl | rfl <;> rcases ht with rfl | rfl <;> generalize callI G (k+5) = cl at * <;> simp only [fz_1, fz_2] at *
      · exact ⟨_, by simp [b_recognised, dcE, a1, a2]; rfl⟩
      · exact ⟨_, by simp [b_recognised, dcE, a1, a2]; rfl⟩
      · exact ⟨_, by simp [b_recognised, dcE, a1, a2]; rfl⟩
      · exact ⟨_, by simp [b_recognised, dcE, a1, a2]; rfl⟩
    obtain ⟨e2, he⟩ := key
    rw [he]
    exact ⟨_, rfl⟩
theorem still_owed_ok {k : Nat} {s t : SV} {p q sold : Int} {us : List Int} (h : Sh s p q) (r : Shr p q) (ht : Hn t us) (hs : 1 ≤ sold ∧ sold ≤ 1000000) (h1 : 1 ≤ us.length) (h2 : us.length ≤ 12) (hu : ∀ u ∈ us, 0 ≤ u ∧ u ≤ 1000000) (hsum : 0 ≤ us.sum ∧ us.sum ≤ 1000000000) :
    ∃ fin, callI G (k+6) i_still_owed [.d (.int sold), s, t] = .ok (.d (.int (mx 0 (sold - us.sum - Er sold p q us.sum)))) fin := by
  have a1 : callI G (k+5) i_need_periods [.d (.int sold), s, t] = _ := need_periods_ok (k := k) h r ht hs h1 h2 hu
  obtain ⟨f2, a2⟩ : ∃ fin, callI G (k+5) i_owed_behind [.d (.int sold), s, .d (fz t)] = .ok (.d (.int (mx 0 (sold - us.sum - Er sold p q us.sum)))) fin := owed_behind_ok (k := k+2) h.three r (by omega) ht.fz hsum
  rw [c_still_owed]
  generalize mx 0 (sold - us.sum - Er sold p q us.sum) = RI at *
  have key : ∃ e2, execSs G (callI G (k+5)) 3 b_still_owed [.d (.int sold), s, t] = .rt (.d (.int RI)) e2 := by
    rcases h with rfl | rfl <;> rcases ht with rfl | rfl <;> generalize callI G (k+5) = cl at * <;> simp only [fz_1, fz_2] at *
    · exact ⟨_, by simp [b_still_owed, dcE, a1, a2]; rfl⟩
    · exact ⟨_, by simp [b_still_owed, dcE, a1, a2]; rfl⟩
    · exact ⟨_, by simp [b_still_owed, dcE, a1, a2]; rfl⟩
    · exact ⟨_, by simp [b_still_owed, dcE, a1, a2]; rfl⟩
  obtain ⟨e2, he⟩ := key
  rw [he]
  exact ⟨_, rfl⟩
end K17
end

section
set_option maxRecDepth 100000
set_option maxHeartbeats 0
set_option linter.unusedSimpArgs false
set_option linter.unusedVariables false
open Ip K17
namespace K17
def Row (row : List Int) : Prop := row ≠ [] ∧ (∀ x ∈ row, 0 ≤ x) ∧ row.length ≤ 10000
def NumP (sc : SV) (n : Nat) (e : Ip.Env) : Prop := ∃ (row : List Int) (s l k t : SV), e = [sc, .lst (row.map .int), s, l, k, t] ∧ (∀ x ∈ row, 0 ≤ x) ∧ row.length ≤ n
theorem app_pos {row : List Int} {y : Int} (h : ∀ x ∈ row, 0 ≤ x) (hy : 0 ≤ y) : ∀ x ∈ row ++ [y], 0 ≤ x := by
  intro x hx
  rcases List.mem_append.mp hx with hx | hx
  · exact h x hx
  · rw [List.mem_singleton.mp hx]; exact hy
theorem num1a {k : Nat} {sc s t : SV} {row : List Int} {l i : Int} {kk : SV} (h : row.length < 1000000) : turn G (callI G k) 1 (.name 4) b_law_numbers_1 (.int i) [sc, .lst (row.map .int), s, .d (.int l), kk, t] = if l = 0 then .bk [sc, .lst (row.map .int), s, .d (.int l), .d (.int i), t] else .nx [sc, .lst ((row ++ [l % 997]).map .int), s, .d (.int (l / 997)), .d (.int i), t] := by
  by_cases hl : l = 0 <;> simp [turn, b_law_numbers_1, hl, h]
theorem num1 {k : Nat} {sc s t : SV} {m : Nat} (hm : m ≤ 100000) (row : List Int) (l : Int) (kk : SV) (h1 : ∀ x ∈ row, 0 ≤ x) (h2 : row.length ≤ m) :
    ∃ e', forL (turn G (callI G k) 1 (.name 4) b_law_numbers_1) (rangeL 0 60) [sc, .lst (row.map .int), s, .d (.int l), kk, t] = .nx e' ∧ NumP sc (m + 60) e' := by
  obtain ⟨n', e', h3, h4, row', l', k', rfl, h5, h6⟩ := forL_cnt (N := 60) (P := fun n e => ∃ (row : List Int) (l : Int) (kk : SV), e = [sc, .lst (row.map .int), s, .d (.int l), kk, t] ∧ (∀ x ∈ row, 0 ≤ x) ∧ row.length ≤ m + n) (f := turn G (callI G k) 1 (.name 4) b_law_numbers_1) (rangeL 0 60) 0 _ (by rw [rangeL_len]; omega) ⟨row, l, kk, rfl, h1, h2⟩ (by
    rintro x hx n e hn ⟨row, l, kk, rfl, h1, h2⟩
    obtain ⟨i, hi, rfl⟩ := mem_rangeL hx
    rw [num1a (by omega)]
    by_cases hz : l = 0
    · rw [if_pos hz]
      exact ⟨_, .inr ⟨rfl, row, l, _, rfl, h1, h2⟩⟩
    · rw [if_neg hz]
      exact ⟨_, .inl ⟨.inl rfl, _, _, _, rfl, app_pos h1 (Int.emod_nonneg _ (by omega)), by rw [List.length_append]; simp; omega⟩⟩)
  rw [rangeL_len] at h4
  exact ⟨_, h3, row', _, _, _, _, rfl, h5, by omega⟩
theorem num2a {k : Nat} {sc l t : SV} {row : List Int} {i s : Int} {kk : SV} (h : row.length < 1000000) : turn G (callI G k) 1 (.name 4) b_law_numbers_2 (.int i) [sc, .lst (row.map .int), .d (.int s), l, kk, t] = .nx [sc, .lst ((row ++ [((s * 48271 + i * 69621 + 11) % 2147483647 * 16807 + i) % 2147483629]).map .int), .d (.int s), l, .d (.int i), .d (.int ((s * 48271 + i * 69621 + 11) % 2147483647))] := by
  simp [turn, b_law_numbers_2, h, small64]
theorem num2 {k : Nat} {sc l t : SV} {m : Nat} (hm : m ≤ 100000) (row : List Int) (s : Int) (kk : SV) (h1 : ∀ x ∈ row, 0 ≤ x) (h2 : row.length ≤ m) :
    ∃ e', forL (turn G (callI G k) 1 (.name 4) b_law_numbers_2) (rangeL 0 4) [sc, .lst (row.map .int), .d (.int s), l, kk, t] = .nx e' ∧ NumP sc (m + 60) e' := by
  obtain ⟨n', e', h3, h4, row', k', t', rfl, h5, h6⟩ := forL_cnt (N := 4) (P := fun n e => ∃ (row : List Int) (kk t : SV), e = [sc, .lst (row.map .int), .d (.int s), l, kk, t] ∧ (∀ x ∈ row, 0 ≤ x) ∧ row.length ≤ m + n) (f := turn G (callI G k) 1 (.name 4) b_law_numbers_2) (rangeL 0 4) 0 _ (by rw [rangeL_len]; omega) ⟨row, kk, t, rfl, h1, h2⟩ (by
    rintro x hx n e hn ⟨row, kk, t, rfl, h1, h2⟩
    obtain ⟨i, hi, rfl⟩ := mem_rangeL hx
    rw [num2a (by omega)]
    exact ⟨_, .inl ⟨.inl rfl, _, _, _, rfl, app_pos h1 (Int.emod_nonneg _ (by omega)), by rw [List.length_append]; simp; omega⟩⟩)
  rw [rangeL_len] at h4
  exact ⟨_, h3, row', _, _, _, _, rfl, h5, by omega⟩
theorem law_numbers_ok {k : Nat} {ns : List Int} (hn : ns.length ≤ 63) : ∃ row fin, Row row ∧ callI G (k+1) i_law_numbers [.d (scriptD ns)] = .ok (.lst (row.map .int)) fin := by
  have hcut : cut (ns.map D.int) none (some 63) = ns.map D.int := by
    unfold cut cutIx
    simp only [List.length_map]
    have : ¬ (63 : Int) < 0 := by omega
    rw [if_neg this]
    rw [List.take_of_length_le]
    · rfl
    · simp only [List.length_drop, List.length_map]; show _ ≤ min (63 : Int).toNat ns.length - 0; have : (63 : Int).toNat = 63 := rfl; omega
  obtain ⟨n', e', h3, h4, row, s, l, kk, t, rfl, h5, h6⟩ := forL_cnt (N := 63) (P := fun n e => NumP (.d (.lst (ns.map D.int))) (60 * n) e) (f := turn G (callI G k) 1 (.name 2) b_law_numbers_3) (ns.map D.int) 0 [.d (.lst (ns.map D.int)), .lst [], .un, .un, .un, .un] (by simpa using hn) ⟨[], _, _, _, _, rfl, by simp, by simp⟩ (by
    rintro x hx n e hn ⟨row, s, l, kk, t, rfl, h1, h2⟩
    obtain ⟨i, hi, rfl⟩ := List.mem_map.mp hx
    by_cases hb : 1000000000000000000 ≤ i
    · obtain ⟨e', h3, h4⟩ := num1 (k := k) (sc := .d (.lst (ns.map D.int))) (s := .d (.int i)) (t := t) (m := 60 * n) (by omega) row i kk h1 h2
      refine ⟨e', .inl ⟨.inl ?_, h4⟩⟩
      simp [turn, b_law_numbers_3, hb, small64, h3]
    · obtain ⟨e', h3, h4⟩ := num2 (k := k) (sc := .d (.lst (ns.map D.int))) (l := l) (t := t) (m := 60 * n) (by omega) row i kk h1 h2
      refine ⟨e', .inl ⟨.inl ?_, h4⟩⟩
      simp [turn, b_law_numbers_3, hb, small64, h3])
  have hl : (ns.map D.int).length = ns.length := by simp
  rw [hl] at h4
  by_cases hr : row = []
  · subst hr
    refine ⟨[0], [.d (.lst (ns.map D.int))], ⟨by simp, by simp, by simp⟩, ?_⟩
    simp [c_law_numbers, b_law_numbers, scriptD, hcut, h3, retW, getP]
  · refine ⟨row, [.d (.lst (ns.map D.int))], ⟨hr, h5, by omega⟩, ?_⟩
    have hz : ¬ row.length = 0 := by cases row <;> simp at hr ⊢
    simp [c_law_numbers, b_law_numbers, scriptD, hcut, h3, retW, getP, hr, hz]
theorem law_draw_ok {k : Nat} {row : List Int} {a l : Int} (hr : Row row) (ha : 0 ≤ a) (hl : 0 < l) : ∃ t, 0 ≤ t ∧ t < l ∧ callI G (k+1) i_law_draw [.lst (row.map .int), .d (.int a), .d (.int l)] = .ok (.d (.int t)) [.lst (row.map .int), .d (.int a), .d (.int l)] := by
  obtain ⟨h1, h2, h3⟩ := hr
  have hlen : 0 < row.length := by cases row <;> simp at h1 ⊢
  by_cases h : a < row.length
  · have hn : a.toNat < row.length := by omega
    refine ⟨row[a.toNat] % l, Int.emod_nonneg _ (by omega), Int.emod_lt_of_pos _ hl, ?_⟩
    simp [c_law_draw, b_law_draw, ix, h, ha, hl, hn]
  · have hm : 0 ≤ a % row.length := Int.emod_nonneg _ (by omega)
    have hm2 : a % row.length < row.length := Int.emod_lt_of_pos _ (by omega)
    have hn : (a % row.length).toNat < row.length := by omega
    have key : ∃ s, callI G (k+1) i_law_draw [.lst (row.map .int), .d (.int a), .d (.int l)] = .ok (.d (.int (s % l))) [.lst (row.map .int), .d (.int a), .d (.int l)] := by
      simp [c_law_draw, b_law_draw, ix, h, ha, hl, hn, hm, hm2, hlen, small64]
      exact ⟨_, rfl⟩
    obtain ⟨s, hs⟩ := key
    exact ⟨s % l, Int.emod_nonneg _ (by omega), Int.emod_lt_of_pos _ hl, hs⟩
theorem law_take_ok {k : Nat} {row : List Int} {a l : Int} (hr : Row row) (ha : 0 ≤ a) (hl : 0 < l) : ∃ t, 0 ≤ t ∧ t < l ∧ callI G (k+2) i_law_take [.lst (row.map .int), .lst [.int a], .d (.int l)] = .ok (.d (.int t)) [.lst (row.map .int), .lst [.int (a + 1)], .d (.int l)] := by
  obtain ⟨t, h1, h2, h3⟩ := law_draw_ok (k := k) hr ha hl
  refine ⟨t, h1, h2, ?_⟩
  simp [c_law_take, b_law_take, ix, setI, dc, h3, Int.add_sub_cancel]

/-- data that the comparison of the laws knows, of at most this depth -/
def okSo : Nat → D → Bool
  | _, .non => true
  | _, .bl _ => true
  | _, .int _ => true
  | _, .str _ => true
  | n + 1, .tup xs => decide (xs.length ≤ 1000) && xs.all (okSo n)
  | _, _ => false
theorem law_so_tup {m : Nat} {xs : List D} (hl : xs.length ≤ 1000) (h : ∀ x ∈ xs, ∃ fin, callI G m 28 [.d x, .d x] = .ok (.d (.bl true)) fin) : ∃ fin, callI G (m + 1) 28 [.d (.tup xs), .d (.tup xs)] = .ok (.d (.bl true)) fin := by
  obtain ⟨e', h1, h2⟩ := forL_all (P := fun e => ∃ kk : SV, e = [.d (.tup xs), .d (.tup xs), kk]) (f := turn G (callI G m) 2 (.name 2) b_law_so_1) (rangeL 0 xs.length) [.d (.tup xs), .d (.tup xs), .un] ⟨_, rfl⟩ (by
    rintro x hx e ⟨kk, rfl⟩
    obtain ⟨i, hi, rfl⟩ := mem_rangeL hx
    obtain ⟨fin, hf⟩ := h xs[i] (List.getElem_mem hi)
    refine ⟨[.d (.tup xs), .d (.tup xs), .d (.int (0 + i))], ?_, _, rfl⟩
    simp [turn, b_law_so_1, ix, hi, dc, hf])
  obtain ⟨kk, rfl⟩ := h2
  refine ⟨[.d (.tup xs), .d (.tup xs)], ?_⟩
  simp [c_law_so, b_law_so, h1, rangeD_nat (show xs.length ≤ 1000000 by omega), -rangeD_1]
theorem law_so_0 {m : Nat} {x : D} (h : okSo 0 x = true) : ∃ fin, callI G (m + 1) 28 [.d x, .d x] = .ok (.d (.bl true)) fin := by
  refine ⟨[.d x, .d x], ?_⟩
  cases x <;> first | (cases h; done) | simp [c_law_so, b_law_so, eqD]
theorem law_so_ok (n : Nat) : ∀ {m : Nat} {x : D}, okSo n x = true → ∃ fin, callI G (m + n + 1) 28 [.d x, .d x] = .ok (.d (.bl true)) fin := by
  induction n with
  | zero => exact fun h => law_so_0 h
  | succ n ih =>
    intro m x h
    by_cases h0 : okSo 0 x = true
    · exact law_so_0 h0
    · cases x <;> first | exact absurd rfl h0 | (cases h; done) | skip
      rename_i xs
      simp only [okSo, Bool.and_eq_true, List.all_eq_true, decide_eq_true_eq] at h
      exact law_so_tup h.1 fun x hx => ih (h.2 x hx)

end K17
end

section
set_option maxRecDepth 100000
set_option maxHeartbeats 0
set_option linter.unusedSimpArgs false
set_option linter.unusedVariables false
open Ip K17
namespace K17
/-! fractions of the law -/
theorem half_mod {l r : Nat} (hr : 0 < r) (h : r ≤ l) : 2 * (l % r) ≤ l := by
  have h1 := Nat.mod_lt l hr
  have h2 : l % r + r ≤ l := by
    have h3 := Nat.div_add_mod l r
    have h4 : 1 ≤ l / r := (Nat.one_le_div_iff hr).mpr h
    have h5 : r * 1 ≤ r * (l / r) := Nat.mul_le_mul_left r h4
    omega
  omega
theorem law_gcd_ok {k : Nat} {n d : Nat} (hd : d < 1073741824) : ∃ fin, callI G (k+1) i_law_gcd [.d (.int n), .d (.int d)] = .ok (.d (.int (Nat.gcd n d : Nat))) fin := by
  obtain ⟨e', h1, h2⟩ := forL_brk (P := fun m e => ∃ (l r : Nat) (kk o : SV), e = [.d (.int n), .d (.int d), .d (.int l), .d (.int r), kk, o] ∧ Nat.gcd l r = Nat.gcd n d ∧ ((m = 0 ∧ r = d) ∨ ∃ m', m = m' + 1 ∧ r ≤ l ∧ l * r * 2 ^ m' ≤ 2 ^ 60))
    (Q := fun e => ∃ (kk o : SV), e = [.d (.int n), .d (.int d), .d (.int (Nat.gcd n d : Nat)), .d (.int 0), kk, o]) (f := turn G (callI G k) 2 (.name 4) b_law_gcd_1) (rangeL 0 20000) 0 [.d (.int n), .d (.int d), .d (.int n), .d (.int d), .un, .un] ⟨n, d, _, _, rfl, rfl, .inl ⟨rfl, rfl⟩⟩ (by
    rintro x hx m e ⟨l, r, kk, o, rfl, p3, p4⟩
    obtain ⟨i, hi, rfl⟩ := mem_rangeL hx
    by_cases hr : r = 0
    · subst hr
      have hl : l = Nat.gcd n d := by rw [← p3]; simp
      subst hl
      refine ⟨[.d (.int n), .d (.int d), .d (.int (Nat.gcd n d : Nat)), .d (.int 0), .d (.int (0 + i)), o], .inr ⟨?_, _, _, rfl⟩⟩
      have e0 : ((0 : Nat) : Int) = 0 := rfl
      rw [e0]
      generalize ((Nat.gcd n d : Nat) : Int) = GG at *
      generalize (n : Int) = N at *
      generalize (d : Int) = D at *
      generalize callI G k = cl at *
      as_aux_lemma => simp [turn, b_law_gcd_1]
    · refine ⟨[.d (.int n), .d (.int d), .d (.int r), .d (.int (l % r : Nat)), .d (.int (0 + i)), .d (.int (l % r : Nat))], .inl ⟨.inl ?_, r, l % r, _, _, rfl, ?_, .inr ?_⟩⟩
      · have h0 : (0 : Int) < r := by omega
        have h0' : ¬ (r : Int) = 0 := by omega
        have em : ((l % r : Nat) : Int) = (l : Int) % (r : Int) := Int.natCast_emod l r
        rw [em]
        clear p3 p4 em
        generalize (n : Int) = N at *
        generalize (d : Int) = D at *
        generalize (l : Int) = L at *
        generalize (r : Int) = R at *
        generalize callI G k = cl at *
        as_aux_lemma => simp [turn, b_law_gcd_1, h0, h0']
      · rw [Nat.gcd_comm r, ← Nat.gcd_rec, Nat.gcd_comm]
        exact p3
      · refine ⟨m, rfl, Nat.le_of_lt (Nat.mod_lt l (by omega)), ?_⟩
        rcases p4 with ⟨rfl, rfl⟩ | ⟨m', rfl, h1, h2⟩
        · have h3 := Nat.mod_lt l (show 0 < r by omega)
          have h4 : r * (l % r) ≤ 1073741824 * 1073741824 := Nat.mul_le_mul (by omega) (by omega)
          have h5 : (2 : Nat) ^ 60 = 1073741824 * 1073741824 := by decide
          rw [h5, Nat.pow_zero, Nat.mul_one]
          exact h4
        · have h3 := half_mod (show 0 < r by omega) h1
          have h4 : r * (2 * (l % r)) ≤ r * l := Nat.mul_le_mul_left r h3
          have h5 : r * (l % r) * 2 ^ (m' + 1) = r * (2 * (l % r)) * 2 ^ m' := by
            rw [Nat.pow_succ, Nat.mul_comm (2 ^ m') 2, ← Nat.mul_assoc, Nat.mul_assoc r, Nat.mul_comm (l % r) 2]
          rw [h5]
          refine Nat.le_trans (Nat.mul_le_mul_right _ h4) ?_
          rw [Nat.mul_comm r l]
          exact h2)
  have h2 : ∃ (kk o : SV), e' = [.d (.int n), .d (.int d), .d (.int (Nat.gcd n d : Nat)), .d (.int 0), kk, o] := by
    rcases h2 with ⟨l, r, kk, o, rfl, p3, p4⟩ | h2
    · rw [rangeL_len] at p4
      rcases p4 with ⟨h, _⟩ | ⟨m', hm, hle, hb⟩
      · omega
      · have hm' : m' = 19999 := by omega
        by_cases hr : r = 0
        · subst hr
          refine ⟨kk, o, ?_⟩
          rw [← p3]
          simp
        · exfalso
          have h1 : 1 ≤ l * r := Nat.mul_pos (by omega) (by omega)
          have h3 : 2 ^ m' ≤ l * r * 2 ^ m' := Nat.le_mul_of_pos_left _ h1
          have h4 : (2 : Nat) ^ 61 ≤ 2 ^ m' := Nat.pow_le_pow_right (by omega) (by omega)
          have h5 : (2 : Nat) ^ 60 < 2 ^ 61 := by decide
          omega
    · exact h2
  obtain ⟨kk, o, rfl⟩ := h2
  refine ⟨[.d (.int n), .d (.int d)], ?_⟩
  have hn0 : (0 : Int) ≤ n := by omega
  have hd0 : (0 : Int) ≤ d := by omega
  rw [c_law_gcd]
  generalize ((Nat.gcd n d : Nat) : Int) = GG at *
  generalize (n : Int) = N at *
  generalize (d : Int) = D at *
  generalize callI G k = cl at *
  as_aux_lemma => simp [b_law_gcd, hn0, hd0, h1]
/-- a fraction -/
def frD (a b : Int) : D := .tup [.int a, .int b]
/-- in lowest terms -/
def lowD (n d : Nat) : D := frD ((n / Nat.gcd n d : Nat) : Int) ((d / Nat.gcd n d : Nat) : Int)
theorem law_red_ok {k : Nat} {n d : Nat} (h0 : 0 < d) (hd : d < 1073741824) : ∃ fin, callI G (k+2) i_law_red [.d (.int n), .d (.int d)] = .ok (.d (lowD n d)) fin := by
  obtain ⟨fin, hg⟩ := law_gcd_ok (k := k) (n := n) hd
  have hp : 0 < Nat.gcd n d := Nat.gcd_pos_of_pos_right _ h0
  have hle : Nat.gcd n d ≤ d := Nat.gcd_le_right _ h0
  refine ⟨[.d (.int n), .d (.int d)], ?_⟩
  have h1 : ¬ (d : Int) < 0 := by omega
  have h2 : ¬ ((Nat.gcd n d : Nat) : Int) = 0 := by omega
  have h3 : (0 : Int) < (Nat.gcd n d : Nat) := by omega
  have h4 : ((Nat.gcd n d : Nat) : Int) < 1073741824 := by omega
  unfold lowD frD
  rw [Int.natCast_ediv, Int.natCast_ediv]
  rw [c_law_red]
  clear hp hle hd h0
  generalize ((Nat.gcd n d : Nat) : Int) = GG at *
  generalize (n : Int) = N at *
  generalize (d : Int) = DD at *
  generalize callI G (k+1) = cl at *
  as_aux_lemma => simp [b_law_red, dcE, hg, h1, h2, h3, h4]
theorem lowest_ok {k : Nat} {n d : Nat} (h0 : 0 < d) (hd : d < 1073741824) : callI G (k+1) i_lowest [.d (.int n), .d (.int d)] = .ok (.d (lowD n d)) [.d (.int n), .d (.int d)] := by
  have hp : 0 < Nat.gcd n d := Nat.gcd_pos_of_pos_right _ h0
  have hle : Nat.gcd n d ≤ d := Nat.gcd_le_right _ h0
  have h3 : (0 : Int) < (Nat.gcd n d : Nat) := by omega
  have h4 : ((Nat.gcd n d : Nat) : Int) < 1073741824 := by omega
  have hg : bfn .gcd [.int n, .int d] = some (.d (.int (Nat.gcd n d : Nat))) := by
    rw [bf_gcd, Int.natAbs_natCast, Int.natAbs_natCast]
  unfold lowD frD
  rw [Int.natCast_ediv, Int.natCast_ediv]
  rw [c_lowest]
  clear hp hle hd h0
  generalize ((Nat.gcd n d : Nat) : Int) = GG at *
  generalize (n : Int) = N at *
  generalize (d : Int) = DD at *
  generalize callI G k = cl at *
  as_aux_lemma => simp [b_lowest, hg, h3, h4, -bf_gcd]
/-- a pair of a numerator and a denominator -/
abbrev Fr := Nat × Nat
def eF (x : Fr) : D := frD x.1 x.2
def low (n d : Nat) : Fr := (n / Nat.gcd n d, d / Nat.gcd n d)
theorem low_eF {n d : Nat} : lowD n d = eF (low n d) := rfl
/-- a fraction of the law's sizes -/
structure Ok2 (x : Fr) (A B : Nat) : Prop where
  d0 : 0 < x.2
  n1 : x.1 ≤ A
  d1 : x.2 ≤ B
theorem low_ok {n d A B : Nat} (h0 : 0 < d) (hn : n ≤ A) (hd : d ≤ B) : Ok2 (low n d) A B := by
  have hp : 0 < Nat.gcd n d := Nat.gcd_pos_of_pos_right _ h0
  refine ⟨Nat.div_pos (Nat.gcd_le_right _ h0) hp, Nat.le_trans (Nat.div_le_self _ _) hn, Nat.le_trans (Nat.div_le_self _ _) hd⟩
/-- as large as n over d -/
theorem low_eq {n d : Nat} (h0 : 0 < d) : (low n d).1 * d = n * (low n d).2 := by
  have h1 := Nat.div_mul_cancel (Nat.gcd_dvd_left n d)
  have h2 := Nat.div_mul_cancel (Nat.gcd_dvd_right n d)
  unfold low
  dsimp only
  generalize Nat.gcd n d = g at *
  generalize hx : n / g = x at *
  generalize hy : d / g = y at *
  rw [← h1, ← h2, ← Nat.mul_assoc, Nat.mul_assoc x g y, Nat.mul_comm g y, ← Nat.mul_assoc]
theorem sm_of {n : Nat} (h : n ≤ 1000000000000) : small64 (n : Int) = true := by unfold small64; simp; omega
theorem law_mul_ok {k : Nat} {x y : Fr} {A B C E : Nat} (hx : Ok2 x A B) (hy : Ok2 y C E) (hA : A ≤ 1000000000000) (hB : B ≤ 1000000000) (hBE : B * E < 1073741824) : ∃ fin, callI G (k+3) i_law_mul [.d (eF x), .d (eF y)] = .ok (.d (eF (low (x.1 * y.1) (x.2 * y.2)))) fin := by
  have hd : x.2 * y.2 ≤ B * E := Nat.mul_le_mul hx.d1 hy.d1
  obtain ⟨f, h⟩ := law_red_ok (k := k) (n := x.1 * y.1) (d := x.2 * y.2) (Nat.mul_pos hx.d0 hy.d0) (by omega)
  have s1 := sm_of (n := x.1) (by have := hx.n1; omega)
  have s2 := sm_of (n := x.2) (by have := hx.d1; omega)
  rw [Int.natCast_mul, Int.natCast_mul, low_eF] at h
  refine ⟨[.d (eF x), .d (eF y)], ?_⟩
  have j1 : idxD (eF x) (.int 0) = some (.int x.1) := rfl
  have j2 : idxD (eF x) (.int 1) = some (.int x.2) := rfl
  have j3 : idxD (eF y) (.int 0) = some (.int y.1) := rfl
  have j4 : idxD (eF y) (.int 1) = some (.int y.2) := rfl
  rw [c_law_mul]
  clear hd hx hy
  generalize eF (low (x.1 * y.1) (x.2 * y.2)) = R at *
  generalize eF x = X at *
  generalize eF y = Y at *
  generalize (x.1 : Int) = x1 at *
  generalize (x.2 : Int) = x2 at *
  generalize (y.1 : Int) = y1 at *
  generalize (y.2 : Int) = y2 at *
  generalize callI G (k+2) = cl at *
  as_aux_lemma => simp [b_law_mul, dcE, j1, j2, j3, j4, s1, s2, h]
theorem law_add_ok {k : Nat} {x y : Fr} {A B C E : Nat} (hx : Ok2 x A B) (hy : Ok2 y C E) (hA : A ≤ 1000000) (hB : B ≤ 1000000) (hC : C ≤ 1000000) (hBE : B * E < 1073741824) : ∃ fin, callI G (k+3) i_law_add [.d (eF x), .d (eF y)] = .ok (.d (eF (low (x.1 * y.2 + y.1 * x.2) (x.2 * y.2)))) fin := by
  have hd : x.2 * y.2 ≤ B * E := Nat.mul_le_mul hx.d1 hy.d1
  obtain ⟨f, h⟩ := law_red_ok (k := k) (n := x.1 * y.2 + y.1 * x.2) (d := x.2 * y.2) (Nat.mul_pos hx.d0 hy.d0) (by omega)
  have s1 := sm_of (n := x.1) (by have := hx.n1; omega)
  have s2 := sm_of (n := x.2) (by have := hx.d1; omega)
  have s3 := sm_of (n := y.1) (by have := hy.n1; omega)
  rw [Int.natCast_add, Int.natCast_mul, Int.natCast_mul, Int.natCast_mul, low_eF] at h
  refine ⟨[.d (eF x), .d (eF y)], ?_⟩
  have j1 : idxD (eF x) (.int 0) = some (.int x.1) := rfl
  have j2 : idxD (eF x) (.int 1) = some (.int x.2) := rfl
  have j3 : idxD (eF y) (.int 0) = some (.int y.1) := rfl
  have j4 : idxD (eF y) (.int 1) = some (.int y.2) := rfl
  rw [c_law_add]
  clear hd hx hy
  generalize eF (low (x.1 * y.2 + y.1 * x.2) (x.2 * y.2)) = R at *
  generalize eF x = X at *
  generalize eF y = Y at *
  generalize (x.1 : Int) = x1 at *
  generalize (x.2 : Int) = x2 at *
  generalize (y.1 : Int) = y1 at *
  generalize (y.2 : Int) = y2 at *
  generalize callI G (k+2) = cl at *
  as_aux_lemma => simp [b_law_add, dcE, j1, j2, j3, j4, s1, s2, s3, h]
theorem plus_ok {k : Nat} {x y : Fr} {A B C E : Nat} (hx : Ok2 x A B) (hy : Ok2 y C E) (hA : A ≤ 1000000) (hB : B ≤ 1000000) (hC : C ≤ 1000000) (hBE : B * E < 1073741824) : callI G (k+2) i_plus [.d (eF x), .d (eF y)] = .ok (.d (eF (low (x.1 * y.2 + y.1 * x.2) (x.2 * y.2)))) [.d (eF x), .d (eF y)] := by
  have hd : x.2 * y.2 ≤ B * E := Nat.mul_le_mul hx.d1 hy.d1
  have h := lowest_ok (k := k) (n := x.1 * y.2 + y.1 * x.2) (d := x.2 * y.2) (Nat.mul_pos hx.d0 hy.d0) (by omega)
  have s1 := sm_of (n := x.1) (by have := hx.n1; omega)
  have s2 := sm_of (n := x.2) (by have := hx.d1; omega)
  have s3 := sm_of (n := y.1) (by have := hy.n1; omega)
  rw [Int.natCast_add, Int.natCast_mul, Int.natCast_mul, Int.natCast_mul, low_eF] at h
  have j1 : idxD (eF x) (.int 0) = some (.int x.1) := rfl
  have j2 : idxD (eF x) (.int 1) = some (.int x.2) := rfl
  have j3 : idxD (eF y) (.int 0) = some (.int y.1) := rfl
  have j4 : idxD (eF y) (.int 1) = some (.int y.2) := rfl
  rw [c_plus]
  clear hd hx hy
  generalize eF (low (x.1 * y.2 + y.1 * x.2) (x.2 * y.2)) = R at *
  generalize eF x = X at *
  generalize eF y = Y at *
  generalize (x.1 : Int) = x1 at *
  generalize (x.2 : Int) = x2 at *
  generalize (y.1 : Int) = y1 at *
  generalize (y.2 : Int) = y2 at *
  generalize callI G (k+1) = cl at *
  as_aux_lemma => simp [b_plus, dcE, j1, j2, j3, j4, s1, s2, s3, h]
theorem half_of_ok {k : Nat} {x : Fr} {A B : Nat} (hx : Ok2 x A B) (hB : B ≤ 500000000) : callI G (k+2) i_half_of [.d (eF x)] = .ok (.d (eF (low x.1 (x.2 * 2)))) [.d (eF x)] := by
  have h := lowest_ok (k := k) (n := x.1) (d := x.2 * 2) (by have := hx.d0; omega) (by have := hx.d1; omega)
  have s2 := sm_of (n := x.2) (by have := hx.d1; omega)
  rw [Int.natCast_mul, low_eF] at h
  have e2 : ((2 : Nat) : Int) = 2 := rfl
  rw [e2] at h
  have j1 : idxD (eF x) (.int 0) = some (.int x.1) := rfl
  have j2 : idxD (eF x) (.int 1) = some (.int x.2) := rfl
  rw [c_half_of]
  clear hx
  generalize eF (low x.1 (x.2 * 2)) = R at *
  generalize eF x = X at *
  generalize (x.1 : Int) = x1 at *
  generalize (x.2 : Int) = x2 at *
  generalize callI G (k+1) = cl at *
  as_aux_lemma => simp [b_half_of, dcE, j1, j2, s2, h]
/-- by size -/
def ltF (x y : Fr) : Bool := decide (x.1 * y.2 < y.1 * x.2)
theorem less_ok {k : Nat} {x y : Fr} {A B C E : Nat} (hx : Ok2 x A B) (hy : Ok2 y C E) (hA : A ≤ 1000000000000) (hC : C ≤ 1000000000000) : callI G (k+1) i_law_less [.d (eF x), .d (eF y)] = .ok (.d (.bl (ltF x y))) [.d (eF x), .d (eF y)] := by
  have s1 := sm_of (n := x.1) (by have := hx.n1; omega)
  have s3 := sm_of (n := y.1) (by have := hy.n1; omega)
  have e : ltF x y = decide ((x.1 : Int) * y.2 < y.1 * x.2) := by
    unfold ltF
    have : (x.1 * y.2 < y.1 * x.2) = ((x.1 : Int) * y.2 < y.1 * x.2) := by
      rw [← Int.natCast_mul, ← Int.natCast_mul]
      exact propext (by omega)
    simp only [this]
  rw [e]
  have j1 : idxD (eF x) (.int 0) = some (.int x.1) := rfl
  have j2 : idxD (eF x) (.int 1) = some (.int x.2) := rfl
  have j3 : idxD (eF y) (.int 0) = some (.int y.1) := rfl
  have j4 : idxD (eF y) (.int 1) = some (.int y.2) := rfl
  rw [c_law_less]
  clear hx hy e
  generalize eF x = X at *
  generalize eF y = Y at *
  generalize (x.1 : Int) = x1 at *
  generalize (x.2 : Int) = x2 at *
  generalize (y.1 : Int) = y1 at *
  generalize (y.2 : Int) = y2 at *
  generalize callI G k = cl at *
  as_aux_lemma => simp [b_law_less, j1, j2, j3, j4, s1, s3]
theorem below_ok {k : Nat} {x y : Fr} {A B C E : Nat} (hx : Ok2 x A B) (hy : Ok2 y C E) (hA : A ≤ 1000000000000) (hC : C ≤ 1000000000000) : callI G (k+1) i_is_below [.d (eF x), .d (eF y)] = .ok (.d (.bl (ltF x y))) [.d (eF x), .d (eF y)] := by
  have s1 := sm_of (n := x.1) (by have := hx.n1; omega)
  have s3 := sm_of (n := y.1) (by have := hy.n1; omega)
  have e : ltF x y = decide ((x.1 : Int) * y.2 < y.1 * x.2) := by
    unfold ltF
    have : (x.1 * y.2 < y.1 * x.2) = ((x.1 : Int) * y.2 < y.1 * x.2) := by
      rw [← Int.natCast_mul, ← Int.natCast_mul]
      exact propext (by omega)
    simp only [this]
  rw [e]
  have j1 : idxD (eF x) (.int 0) = some (.int x.1) := rfl
  have j2 : idxD (eF x) (.int 1) = some (.int x.2) := rfl
  have j3 : idxD (eF y) (.int 0) = some (.int y.1) := rfl
  have j4 : idxD (eF y) (.int 1) = some (.int y.2) := rfl
  rw [c_is_below]
  clear hx hy e
  generalize eF x = X at *
  generalize eF y = Y at *
  generalize (x.1 : Int) = x1 at *
  generalize (x.2 : Int) = x2 at *
  generalize (y.1 : Int) = y1 at *
  generalize (y.2 : Int) = y2 at *
  generalize callI G k = cl at *
  as_aux_lemma => simp [b_is_below, j1, j2, j3, j4, s1, s3]
end K17
end

section
set_option maxRecDepth 100000
set_option maxHeartbeats 0
set_option linter.unusedSimpArgs false
set_option linter.unusedVariables false
open Ip K17
namespace K17
theorem law_sub_ok {k : Nat} {p q : Nat} (hp : p < q) (hq : q ≤ 100) : ∃ fin, callI G (k+3) i_law_sub [.d (eF (1, 1)), .d (eF (p, q))] = .ok (.d (eF (low (q - p) q))) fin := by
  obtain ⟨f, h⟩ := law_red_ok (k := k) (n := q - p) (d := q) (by omega) (by omega)
  rw [low_eF, Int.ofNat_sub (by omega)] at h
  have s2 := sm_of (n := p) (by omega)
  refine ⟨[.d (eF (1, 1)), .d (eF (p, q))], ?_⟩
  have j1 : idxD (eF (1, 1)) (.int 0) = some (.int 1) := rfl
  have j2 : idxD (eF (1, 1)) (.int 1) = some (.int 1) := rfl
  have j3 : idxD (eF (p, q)) (.int 0) = some (.int p) := rfl
  have j4 : idxD (eF (p, q)) (.int 1) = some (.int q) := rfl
  have s1 : small64 1 = true := by decide
  rw [c_law_sub]
  generalize eF (low (q - p) q) = R at *
  generalize eF (p, q) = Y at *
  generalize eF (1, 1) = X at *
  generalize (p : Int) = y1 at *
  generalize (q : Int) = y2 at *
  generalize callI G (k+2) = cl at *
  as_aux_lemma => simp [b_law_sub, dcE, j1, j2, j3, j4, s1, s2, h]
theorem law_div_ok {k : Nat} {x y : Fr} {A B C E : Nat} (hx : Ok2 x A B) (hy : Ok2 y C E) (hA : A ≤ 1000000000000) (hB : B ≤ 1000000000) (hy0 : 0 < y.1) (hBC : B * C < 1073741824) : ∃ fin, callI G (k+4) i_law_div [.d (eF x), .d (eF y)] = .ok (.d (eF (low (x.1 * y.2) (x.2 * y.1)))) fin := by
  obtain ⟨f, h⟩ := law_mul_ok (k := k) (x := x) (y := (y.2, y.1)) hx ⟨hy0, hy.d1, hy.n1⟩ hA hB hBC
  refine ⟨[.d (eF x), .d (eF y)], ?_⟩
  have j3 : idxD (eF y) (.int 0) = some (.int y.1) := rfl
  have j4 : idxD (eF y) (.int 1) = some (.int y.2) := rfl
  have e : eF (y.2, y.1) = .tup [.int y.2, .int y.1] := rfl
  have h0 : (0 : Int) < y.1 := by omega
  dsimp only at h
  rw [e] at h
  rw [c_law_div]
  clear hx hy e hy0
  generalize eF (low (x.1 * y.2) (x.2 * y.1)) = R at *
  generalize eF x = X at *
  generalize eF y = Y at *
  generalize (y.1 : Int) = y1 at *
  generalize (y.2 : Int) = y2 at *
  generalize callI G (k+3) = cl at *
  as_aux_lemma => simp [b_law_div, dcE, j3, j4, h0, h]
theorem div_cross {n d N Dn : Nat} (hd : 0 < d) (hD : 0 < Dn) (h : n * Dn = N * d) : n / d = N / Dn := by
  have h1 : n * Dn / (d * Dn) = n / d := Nat.mul_div_mul_right n d hD
  have h2 : N * d / (Dn * d) = N / Dn := Nat.mul_div_mul_right N Dn hd
  rw [← h1, h, Nat.mul_comm d Dn, h2]
theorem div_le_cross {n d N Dn : Nat} (hd : 0 < d) (hD : 0 < Dn) (h : n * Dn ≤ N * d) : n / d ≤ N / Dn := by
  have h1 : n * Dn / (d * Dn) = n / d := Nat.mul_div_mul_right n d hD
  have h2 : N * d / (Dn * d) = N / Dn := Nat.mul_div_mul_right N Dn hd
  rw [← h1, ← h2, Nat.mul_comm d Dn]
  exact Nat.div_le_div_right h
theorem Er_nat {s p q u : Nat} (hp : p < q) : Er s p q u = ((if s * p / q < p * u / (q - p) then s * p / q else p * u / (q - p) : Nat) : Int) := by
  have e1 : (s : Int) * p / q = ((s * p / q : Nat) : Int) := by rw [Int.natCast_ediv, Int.natCast_mul]
  have e2 : (u : Int) * p / ((q : Int) - p) = ((p * u / (q - p) : Nat) : Int) := by
    rw [Int.natCast_ediv, Int.natCast_mul, Int.ofNat_sub (by omega), Int.mul_comm]
  unfold Er
  rw [e1, e2]
  split <;> split <;> omega
theorem law_earned_ok {k : Nat} {s p q u : Nat} (hp : p < q) (hq : q ≤ 100) (hs : s ≤ 1000000) (hu : u ≤ 1000000) : ∃ fin, callI G (k+5) i_law_earned [.d (.int s), .d (eF (p, q)), .d (.int u)] = .ok (.d (.int (Er s p q u))) fin := by
  have oP : Ok2 (p, q) 100 100 := ⟨by dsimp only; omega, by dsimp only; omega, hq⟩
  obtain ⟨f1, h1⟩ : ∃ fin, callI G (k+4) i_law_mul [.d (eF (s, 1)), .d (eF (p, q))] = .ok (.d (eF (low (s * p) (1 * q)))) fin := law_mul_ok (k := k+1) (x := (s, 1)) (y := (p, q)) (A := 1000000) (B := 1) ⟨Nat.zero_lt_one, hs, Nat.le_refl _⟩ oP (by omega) (by omega) (by omega)
  obtain ⟨f2, h2⟩ : ∃ fin, callI G (k+4) i_law_mul [.d (eF (p, q)), .d (eF (u, 1))] = .ok (.d (eF (low (p * u) (q * 1)))) fin := law_mul_ok (k := k+1) (x := (p, q)) (y := (u, 1)) (C := 1000000) (E := 1) oP ⟨Nat.zero_lt_one, hu, Nat.le_refl _⟩ (by omega) (by omega) (by omega)
  obtain ⟨f3, h3⟩ : ∃ fin, callI G (k+4) i_law_sub [.d (eF (1, 1)), .d (eF (p, q))] = .ok (.d (eF (low (q - p) q))) fin := law_sub_ok (k := k+1) hp hq
  have hpu : p * u ≤ 100 * 1000000 := Nat.mul_le_mul (by omega) hu
  have hsp : s * p ≤ 1000000 * 100 := Nat.mul_le_mul hs (by omega)
  have oW : Ok2 (low (s * p) (1 * q)) 100000000 100 := low_ok (by omega) hsp (by omega)
  have oA : Ok2 (low (p * u) (q * 1)) 100000000 100 := low_ok (by omega) hpu (by omega)
  have oB : Ok2 (low (q - p) q) 100 100 := low_ok (by omega) (by omega) hq
  have eW := low_eq (n := s * p) (d := 1 * q) (by omega)
  have eA := low_eq (n := p * u) (d := q * 1) (by omega)
  have eB := low_eq (n := q - p) (d := q) (by omega)
  generalize low (s * p) (1 * q) = W at *
  generalize low (p * u) (q * 1) = A at *
  rw [Nat.one_mul] at eW
  rw [Nat.mul_one] at eA
  generalize low (q - p) q = B at *
  have hB0 : 0 < B.1 := by
    rcases Nat.eq_zero_or_pos B.1 with h | h
    · rw [h, Nat.zero_mul] at eB
      have := Nat.mul_pos (show 0 < q - p by omega) oB.d0
      omega
    · exact h
  obtain ⟨f4, h4⟩ : ∃ fin, callI G (k+4) i_law_div [.d (eF A), .d (eF B)] = .ok (.d (eF (low (A.1 * B.2) (A.2 * B.1)))) fin := law_div_ok (k := k) oA oB (by omega) (by omega) hB0 (by omega)
  have hn : A.1 * B.2 ≤ 100000000 * 100 := Nat.mul_le_mul oA.n1 oB.d1
  have hdn : A.2 * B.1 ≤ 100 * 100 := Nat.mul_le_mul oA.d1 oB.n1
  have oV : Ok2 (low (A.1 * B.2) (A.2 * B.1)) 10000000000 10000 := low_ok (Nat.mul_pos oA.d0 hB0) hn hdn
  have eV := low_eq (n := A.1 * B.2) (d := A.2 * B.1) (Nat.mul_pos oA.d0 hB0)
  generalize low (A.1 * B.2) (A.2 * B.1) = V at *
  have h5 : callI G (k+4) i_law_less [.d (eF W), .d (eF V)] = _ := less_ok (k := k+3) oW oV (by omega) (by omega)
  -- the part as large as p * u over q - p
  have cV : V.1 * (q - p) = p * u * V.2 := by
    have hpos : 0 < A.2 * B.2 := Nat.mul_pos oA.d0 oB.d0
    refine Nat.eq_of_mul_eq_mul_right hpos ?_
    calc V.1 * (q - p) * (A.2 * B.2) = V.1 * A.2 * ((q - p) * B.2) := by simp only [Nat.mul_assoc, Nat.mul_comm, Nat.mul_left_comm]
      _ = V.1 * A.2 * (B.1 * q) := by rw [eB]
      _ = V.1 * (A.2 * B.1) * q := by simp only [Nat.mul_assoc, Nat.mul_comm, Nat.mul_left_comm]
      _ = A.1 * B.2 * V.2 * q := by rw [eV]
      _ = A.1 * q * (B.2 * V.2) := by simp only [Nat.mul_assoc, Nat.mul_comm, Nat.mul_left_comm]
      _ = p * u * A.2 * (B.2 * V.2) := by rw [eA]
      _ = p * u * V.2 * (A.2 * B.2) := by simp only [Nat.mul_assoc, Nat.mul_comm, Nat.mul_left_comm]
  have q1 : W.1 / W.2 = s * p / q := div_cross oW.d0 (by omega) eW
  have q2 : V.1 / V.2 = p * u / (q - p) := div_cross oV.d0 (by omega) cV
  have fin : ((if ltF W V then W else V).1 / (if ltF W V then W else V).2 : Nat) = (if s * p / q < p * u / (q - p) then s * p / q else p * u / (q - p)) := by
    unfold ltF
    by_cases hlt : W.1 * V.2 < V.1 * W.2
    · rw [decide_eq_true hlt, if_pos rfl, q1]
      have := div_le_cross oW.d0 oV.d0 (Nat.le_of_lt hlt)
      rw [q1, q2] at this
      split <;> omega
    · rw [decide_eq_false hlt, if_neg (by simp), q2]
      have := div_le_cross (n := V.1) (d := V.2) (N := W.1) (Dn := W.2) oV.d0 oW.d0 (by omega)
      rw [q1, q2] at this
      split <;> omega
  rw [Er_nat hp, ← fin, Int.natCast_ediv]
  have e1 : eF (s, 1) = .tup [.int s, .int 1] := rfl
  have e2 : eF (u, 1) = .tup [.int u, .int 1] := rfl
  have e3 : eF (1, 1) = .tup [.int 1, .int 1] := rfl
  have d1 : (0 : Int) < W.2 := by have := oW.d0; omega
  have d2 : (W.2 : Int) < 1073741824 := by have := oW.d1; omega
  have d3 : (0 : Int) < V.2 := by have := oV.d0; omega
  have d4 : (V.2 : Int) < 1073741824 := by have := oV.d1; omega
  have j1 : idxD (eF W) (.int 0) = some (.int W.1) := rfl
  have j2 : idxD (eF W) (.int 1) = some (.int W.2) := rfl
  have j3 : idxD (eF V) (.int 0) = some (.int V.1) := rfl
  have j4 : idxD (eF V) (.int 1) = some (.int V.2) := rfl
  rw [e1] at h1
  rw [e2] at h2
  rw [e3] at h3
  refine ⟨[.d (.int s), .d (eF (p, q)), .d (.int u)], ?_⟩
  rw [c_law_earned]
  clear fin q1 q2 cV eV eW eA eB oP oW oA oB oV hn hdn hpu hsp hB0 e1 e2 e3
  cases hb : ltF W V with
  | true =>
    rw [hb] at h5
    rw [if_pos rfl]
    generalize eF W = XW at *
    generalize eF V = XV at *
    generalize eF A = XA at *
    generalize eF B = XB at *
    generalize eF (p, q) = XP at *
    generalize (W.1 : Int) = w1 at *
    generalize (W.2 : Int) = w2 at *
    generalize (s : Int) = S at *
    generalize (u : Int) = U at *
    generalize callI G (k+4) = cl at *
    as_aux_lemma => simp [b_law_earned, dcE, h1, h2, h3, h4, h5, j1, j2, d1, d2]
  | false =>
    rw [hb] at h5
    rw [if_neg (by simp)]
    generalize eF W = XW at *
    generalize eF V = XV at *
    generalize eF A = XA at *
    generalize eF B = XB at *
    generalize eF (p, q) = XP at *
    generalize (V.1 : Int) = w1 at *
    generalize (V.2 : Int) = w2 at *
    generalize (s : Int) = S at *
    generalize (u : Int) = U at *
    generalize callI G (k+4) = cl at *
    as_aux_lemma => simp [b_law_earned, dcE, h1, h2, h3, h4, h5, j3, j4, d3, d4]
/-! the order by size -/
theorem le_trans {a b c : Fr} (hb : 0 < b.2) (h1 : ltF b a = false) (h2 : ltF c b = false) : ltF c a = false := by
  unfold ltF at *
  have h1 := of_decide_eq_false h1
  have h2 := of_decide_eq_false h2
  apply decide_eq_false
  intro h
  have g1 : a.1 * b.2 ≤ b.1 * a.2 := by omega
  have g2 : b.1 * c.2 ≤ c.1 * b.2 := by omega
  have e1 : a.1 * b.2 * c.2 ≤ b.1 * a.2 * c.2 := Nat.mul_le_mul_right _ g1
  have e2 : b.1 * c.2 * a.2 ≤ c.1 * b.2 * a.2 := Nat.mul_le_mul_right _ g2
  have e3 : c.1 * a.2 * b.2 < a.1 * c.2 * b.2 := (Nat.mul_lt_mul_right hb).mpr h
  have r1 : a.1 * b.2 * c.2 = a.1 * c.2 * b.2 := by simp only [Nat.mul_assoc, Nat.mul_comm, Nat.mul_left_comm]
  have r2 : b.1 * a.2 * c.2 = b.1 * c.2 * a.2 := by simp only [Nat.mul_assoc, Nat.mul_comm, Nat.mul_left_comm]
  have r3 : c.1 * b.2 * a.2 = c.1 * a.2 * b.2 := by simp only [Nat.mul_assoc, Nat.mul_comm, Nat.mul_left_comm]
  omega
theorem lt_le {x y b : Fr} (hy : 0 < x.2) (hb : 0 < b.2) (h1 : ltF x y = true) (h2 : ltF b y = false) : ltF x b = true := by
  cases q : ltF x b with
  | true => rfl
  | false =>
    rw [le_trans hb h2 q] at h1
    cases h1
def Asc (L : List Fr) : Prop := L.Pairwise fun a b => ltF b a = false
def pos (x : Fr) (L : List Fr) : Nat → Nat
  | 0 => 0
  | n + 1 => if ltF x (L.getD n (0, 1)) then pos x L n else n + 1
def insF (x : Fr) : List Fr → List Fr
  | [] => [x]
  | y :: r => if ltF x y then x :: y :: r else y :: insF x r
def cntF (x : Fr) (L : List Fr) : Nat := (L.filter fun y => !ltF x y).length
theorem pos_app {x : Fr} {M N : List Fr} : ∀ {n : Nat}, n ≤ M.length → pos x (M ++ N) n = pos x M n
  | 0, _ => rfl
  | n + 1, h => by
    have e : (M ++ N).getD n (0, 1) = M.getD n (0, 1) := by
      simp [List.getD, List.getElem?_append_left (show n < M.length by omega)]
    rw [pos, pos, e, pos_app (n := n) (by omega)]
theorem pos_cnt {x : Fr} (hx : 0 < x.2) : ∀ (R : List Fr), Asc R.reverse → (∀ y ∈ R, 0 < y.2) → pos x R.reverse R.length = cntF x R.reverse
  | [], _, _ => rfl
  | y :: R, hs, hd => by
    rw [List.reverse_cons] at hs ⊢
    obtain ⟨h1, _, h3⟩ := List.pairwise_append.mp hs
    have ih := pos_cnt hx R h1 fun z hz => hd z (List.mem_cons_of_mem _ hz)
    have eg : (R.reverse ++ [y]).getD R.length (0, 1) = y := by
      simp [List.getD, List.getElem?_append_right (show R.reverse.length ≤ R.length by simp)]
    rw [List.length_cons, pos, eg, pos_app (by simp), ih]
    unfold cntF
    rw [List.filter_append, List.length_append]
    cases q : ltF x y with
    | true => simp [q]
    | false =>
      have : R.reverse.filter (fun z => !ltF x z) = R.reverse := by
        rw [List.filter_eq_self]
        intro z hz
        have := le_trans (hd y (by simp)) (h3 z hz y (by simp)) q
        simp [this]
      rw [this]
      simp [q]
theorem ins_cut {x : Fr} (hx : 0 < x.2) : ∀ (L : List Fr), Asc L → (∀ y ∈ L, 0 < y.2) → L.take (cntF x L) ++ [x] ++ L.drop (cntF x L) = insF x L
  | [], _, _ => rfl
  | y :: r, hs, hd => by
    obtain ⟨h1, h2⟩ := List.pairwise_cons.mp hs
    have ih := ins_cut hx r h2 fun z hz => hd z (List.mem_cons_of_mem _ hz)
    unfold insF
    cases q : ltF x y with
    | true =>
      have : cntF x (y :: r) = 0 := by
        unfold cntF
        rw [List.length_eq_zero_iff, List.filter_eq_nil_iff]
        intro z hz
        rcases List.mem_cons.mp hz with rfl | hz
        · simp [q]
        · simp [lt_le hx (hd z (List.mem_cons_of_mem _ hz)) q (h1 z hz)]
      rw [this]
      rfl
    | false =>
      have : cntF x (y :: r) = cntF x r + 1 := by
        unfold cntF
        rw [List.filter_cons]
        simp [q]
      rw [this, if_neg (by simp), ← ih]
      rfl
theorem ins_mem {x z : Fr} : ∀ {L : List Fr}, z ∈ insF x L → z = x ∨ z ∈ L
  | [], h => by simpa [insF] using h
  | y :: r, h => by
    unfold insF at h
    split at h
    · rcases List.mem_cons.mp h with h | h
      · exact .inl h
      · exact .inr h
    · rcases List.mem_cons.mp h with rfl | h
      · exact .inr (by simp)
      · rcases ins_mem h with h | h
        · exact .inl h
        · exact .inr (List.mem_cons_of_mem _ h)
theorem lt_asym {x y : Fr} (h : ltF x y = true) : ltF y x = false := by
  unfold ltF at *
  have := of_decide_eq_true h
  apply decide_eq_false
  omega
theorem ins_asc {x : Fr} (hx : 0 < x.2) : ∀ {L : List Fr}, Asc L → (∀ y ∈ L, 0 < y.2) → Asc (insF x L)
  | [], _, _ => by simp [insF, Asc]
  | y :: r, hs, hd => by
    obtain ⟨h1, h2⟩ := List.pairwise_cons.mp hs
    unfold insF
    cases q : ltF x y with
    | true =>
      rw [if_pos rfl]
      refine List.pairwise_cons.mpr ⟨fun z hz => ?_, hs⟩
      rcases List.mem_cons.mp hz with rfl | hz
      · exact lt_asym q
      · exact lt_asym (lt_le hx (hd z (List.mem_cons_of_mem _ hz)) q (h1 z hz))
    | false =>
      rw [if_neg (by simp)]
      refine List.pairwise_cons.mpr ⟨fun z hz => ?_, ins_asc hx h2 fun z hz => hd z (List.mem_cons_of_mem _ hz)⟩
      rcases ins_mem hz with rfl | hz
      · exact q
      · exact h1 z hz
theorem ins_len {x : Fr} : ∀ {L : List Fr}, (insF x L).length = L.length + 1
  | [] => rfl
  | y :: r => by
    unfold insF
    split
    · rfl
    · rw [List.length_cons, ins_len, List.length_cons]
/-- all of them, the least first -/
def sortF (xs L : List Fr) : List Fr := xs.foldl (fun L x => insF x L) L
/-- parts of the law's cards -/
structure Pt (L : List Fr) : Prop where
  ok : ∀ y ∈ L, Ok2 y 1000 1000
  asc : Asc L
  len : L.length ≤ 1000
theorem Pt.ins {L : List Fr} {x : Fr} (h : Pt L) (hx : Ok2 x 1000 1000) (hl : L.length < 1000) : Pt (insF x L) := by
  refine ⟨fun y hy => ?_, ins_asc hx.d0 h.asc fun y hy => (h.ok y hy).d0, by rw [ins_len]; omega⟩
  rcases ins_mem hy with rfl | hy
  · exact hx
  · exact h.ok y hy
end K17
end

section
set_option maxRecDepth 100000
set_option maxHeartbeats 0
set_option linter.unusedSimpArgs false
set_option linter.unusedVariables false
open Ip K17
namespace K17
@[simp] theorem okM_ins {x : List D} : okM .insert (.lst x) = true := Eq.trans rfl rfl
theorem meth_insert {e : Ip.Env} {i : Nat} {xs : List D} {j : Int} {x : D} (h : getP e i none = .lst xs) (h0 : 0 ≤ j) (h1 : j < 1000000) (hl : xs.length < 1000000) : methW e .insert (.r i none) [.v (.d (.int j)), .v (.d x)] = .ok (.v (.d .non)) (e.set i (.lst (xs.take j.toNat ++ [x] ++ xs.drop j.toNat))) := by
  have hs : see e (.r i none) = some (.lst xs) := by rw [see_rn, h]; rfl
  unfold methW
  simp only [all_cons, all_nil, hs, see_v, tk_cons, tk_nil, take_v]
  rw [show rmeth .insert (.lst xs) [.int j, x] = none from rfl]
  simp only [h, mmeth, decide_eq_true h0, decide_eq_true h1, decide_eq_true hl, Bool.and_self, if_true, setP_n]
theorem idx_F {L : List Fr} {j : Int} (n : Nat) (hj : j = n) (h : n < L.length) : idxD (.lst (L.map eF)) (.int j) = some (eF (L.getD n (0, 1))) := by
  rw [ix_lst, List.length_map, ix_nat hj h]
  simp [h]
theorem by_whl {k : Nat} {x : Fr} {L : List Fr} {s0 : SV} (hx : Ok2 x 1000 1000) (hL : Pt L) : ∀ (n f : Nat), n ≤ L.length → n + 1 ≤ f →
    whlL (wtest G (callI G (k+1)) (.and (.cmp .gt (.var 3) (.cst (.int 0))) (.call 11 [.var 2, .idx (.var 1) (.bin .sub (.var 3) (.cst (.int 1)))]))) (execSs G (callI G (k+1)) 1 b_by_size_1) f [s0, .lst (L.map eF), .d (eF x), .d (.int n)] = .nx [s0, .lst (L.map eF), .d (eF x), .d (.int (pos x L n : Nat))]
  | 0, f, _, hf => by
    obtain ⟨f, rfl⟩ : ∃ f', f = f' + 1 := ⟨f - 1, by omega⟩
    have e0 : ((0 : Nat) : Int) = 0 := rfl
    have e1 : ((pos x L 0 : Nat) : Int) = 0 := rfl
    rw [e0, e1]
    refine whlL_end ?_
    generalize L.map eF = LL
    generalize eF x = X
    generalize callI G (k+1) = cl
    as_aux_lemma => simp [wtest]
  | n + 1, f, hn, hf => by
    obtain ⟨f, rfl⟩ : ∃ f', f = f' + 1 := ⟨f - 1, by omega⟩
    have hi : idxD (.lst (L.map eF)) (.int (((n + 1 : Nat) : Int) - 1)) = some (eF (L.getD n (0, 1))) := idx_F n (by omega) (by omega)
    have hm : L.getD n (0, 1) ∈ L := getD_mem (by omega)
    have hb : callI G (k+1) i_is_below [.d (eF x), .d (eF (L.getD n (0, 1)))] = _ := below_ok (k := k) hx (hL.ok _ hm) (by omega) (by omega)
    have h0 : (0 : Int) < ((n + 1 : Nat) : Int) := by omega
    rw [pos]
    cases q : ltF x (L.getD n (0, 1)) with
    | true =>
      rw [q] at hb
      rw [if_pos rfl, ← by_whl (k := k) (s0 := s0) hx hL n f (by omega) (by omega)]
      have em : ((n : Nat) : Int) = ((n + 1 : Nat) : Int) - 1 := by omega
      rw [em]
      clear hm q em
      generalize ((n + 1 : Nat) : Int) = N at *
      generalize eF (L.getD n (0, 1)) = Y at *
      generalize L.map eF = LL at *
      generalize eF x = X at *
      generalize callI G (k+1) = cl at *
      refine whlL_go (e1 := [s0, .lst LL, .d X, .d (.int N)]) ?_ (.inl ?_)
      · as_aux_lemma => simp [wtest, dcE, hi, hb, h0, -ix_lst]
      · as_aux_lemma => simp [b_by_size_1]
    | false =>
      rw [q] at hb
      rw [if_neg (by simp)]
      clear hm q
      generalize ((n + 1 : Nat) : Int) = N at *
      generalize eF (L.getD n (0, 1)) = Y at *
      generalize L.map eF = LL at *
      generalize eF x = X at *
      generalize callI G (k+1) = cl at *
      refine whlL_end (e1 := [s0, .lst LL, .d X, .d (.int N)]) ?_
      as_aux_lemma => simp [wtest, dcE, hi, hb, h0, -ix_lst]
theorem cnt_le {x : Fr} {L : List Fr} : cntF x L ≤ L.length := List.length_filter_le _ _
theorem pos_eq {x : Fr} {L : List Fr} (hx : 0 < x.2) (hL : Pt L) : pos x L L.length = cntF x L := by
  have h := pos_cnt hx L.reverse (by rw [List.reverse_reverse]; exact hL.asc) (fun y hy => (hL.ok y (by simpa using hy)).d0)
  rw [List.reverse_reverse, List.length_reverse] at h
  exact h
theorem by_turn {k : Nat} {x : Fr} {L : List Fr} {s0 s2 s3 : SV} (hx : Ok2 x 1000 1000) (hL : Pt L) (hl : L.length < 1000) :
    turn G (callI G (k+1)) 1 (.name 2) b_by_size_2 (eF x) [s0, .lst (L.map eF), s2, s3] = .nx [s0, .lst ((insF x L).map eF), .d (eF x), .d (.int (cntF x L : Nat))] := by
  have hw := by_whl (k := k) (s0 := s0) hx hL L.length turns (Nat.le_refl _) (by unfold turns; omega)
  rw [pos_eq hx.d0 hL] at hw
  have hc := cnt_le (x := x) (L := L)
  have hi : ∀ (xs : List D) (e : Ip.Env), xs = L.map eF → getP e 1 none = .lst xs → methW e .insert (.r 1 none) [.v (.d (.int (cntF x L : Nat))), .v (.d (eF x))] = .ok (.v (.d .non)) (e.set 1 (.lst ((insF x L).map eF))) := fun xs e hx2 he => by
    subst hx2
    rw [meth_insert he (by omega) (by omega) (by simp; omega)]
    have : (L.map eF).take ((cntF x L : Nat) : Int).toNat ++ [eF x] ++ (L.map eF).drop ((cntF x L : Nat) : Int).toNat = (insF x L).map eF := by
      rw [Int.toNat_natCast, ← ins_cut hx.d0 L hL.asc fun y hy => (hL.ok y hy).d0]
      simp [List.map_take, List.map_drop]
    rw [this]
  have hi := fun e => hi _ e rfl
  have hln : bfn .len [.lst (L.map eF)] = some (.d (.int L.length)) := by rw [bf_lenL, List.length_map]
  clear hL hl hc hx
  generalize (insF x L).map eF = L2 at *
  generalize L.map eF = LL at *
  generalize eF x = X at *
  generalize ((cntF x L : Nat) : Int) = C at *
  generalize (L.length : Int) = N at *
  generalize callI G (k+1) = cl at *
  as_aux_lemma => simp [turn, b_by_size_2, hw, hi, hln, -bf_lenL]
theorem by_loop {k : Nat} {s0 : SV} : ∀ (xs L : List Fr) (s2 s3 : SV), (∀ x ∈ xs, Ok2 x 1000 1000) → Pt L → L.length + xs.length < 1000 →
    ∃ s2' s3', forL (turn G (callI G (k+1)) 1 (.name 2) b_by_size_2) (xs.map eF) [s0, .lst (L.map eF), s2, s3] = .nx [s0, .lst ((sortF xs L).map eF), s2', s3']
  | [], L, s2, s3, _, _, _ => ⟨s2, s3, rfl⟩
  | x :: xs, L, s2, s3, hx, hL, hl => by
    rw [List.length_cons] at hl
    have hx0 := hx x (by simp)
    obtain ⟨u2, u3, ih⟩ := by_loop (k := k) (s0 := s0) xs (insF x L) (.d (eF x)) (.d (.int (cntF x L : Nat))) (fun y hy => hx y (List.mem_cons_of_mem _ hy)) (hL.ins hx0 (by omega)) (by rw [ins_len]; omega)
    refine ⟨u2, u3, ?_⟩
    rw [List.map_cons, forL_nx (by_turn hx0 hL (by omega)), ih]
    rfl
theorem Pt.nil : Pt [] := ⟨by simp, by simp [Asc], by simp⟩
theorem sort_Pt : ∀ (xs L : List Fr), (∀ x ∈ xs, Ok2 x 1000 1000) → Pt L → L.length + xs.length < 1000 → Pt (sortF xs L) ∧ (sortF xs L).length = L.length + xs.length
  | [], L, _, hL, _ => ⟨hL, rfl⟩
  | x :: xs, L, hx, hL, hl => by
    rw [List.length_cons] at hl
    have := sort_Pt xs (insF x L) (fun y hy => hx y (List.mem_cons_of_mem _ hy)) (hL.ins (hx x (by simp)) (by omega)) (by rw [ins_len]; omega)
    rw [ins_len] at this
    refine ⟨this.1, ?_⟩
    show (sortF xs (insF x L)).length = _
    rw [this.2, List.length_cons]
    omega
theorem by_size_ok {k : Nat} {xs : List Fr} (hx : ∀ x ∈ xs, Ok2 x 1000 1000) (hl : xs.length < 1000) : callI G (k+2) i_by_size [.lst (xs.map eF)] = .ok (.lst ((sortF xs []).map eF)) [.d (.lst (xs.map eF))] := by
  obtain ⟨s2, s3, hf⟩ := by_loop (k := k) (s0 := .d (.lst (xs.map eF))) xs [] .un .un hx Pt.nil (by simpa using hl)
  have e0 : ([] : List Fr).map eF = [] := rfl
  rw [e0] at hf
  rw [c_by_size]
  generalize (sortF xs []).map eF = R at *
  generalize xs.map eF = X at *
  generalize callI G (k+1) = cl at *
  as_aux_lemma => simp [b_by_size, hf, retW, getP]
/-- the middle one -/
def midF (S : List Fr) : Fr := if S.length % 2 = 1 then S.getD (S.length / 2) (0, 1) else
  low (low ((S.getD (S.length / 2 - 1) (0, 1)).1 * (S.getD (S.length / 2) (0, 1)).2 + (S.getD (S.length / 2) (0, 1)).1 * (S.getD (S.length / 2 - 1) (0, 1)).2) ((S.getD (S.length / 2 - 1) (0, 1)).2 * (S.getD (S.length / 2) (0, 1)).2)).1
    ((low ((S.getD (S.length / 2 - 1) (0, 1)).1 * (S.getD (S.length / 2) (0, 1)).2 + (S.getD (S.length / 2) (0, 1)).1 * (S.getD (S.length / 2 - 1) (0, 1)).2) ((S.getD (S.length / 2 - 1) (0, 1)).2 * (S.getD (S.length / 2) (0, 1)).2)).2 * 2)
theorem band_1 : ∀ n : Nat, n < 30 → bop .band (.int n) (.int 1) = some (.d (.int (n % 2 : Nat))) := by
  intro n hn
  have : ∀ n : Nat, n < 30 → PySem.Builtin.bitAnd (n : Int) 1 = ((n % 2 : Nat) : Int) := by decide
  show some (SV.d (.int (PySem.Builtin.bitAnd (n : Int) 1))) = _
  rw [this n hn]
theorem middle_of_ok {k : Nat} {xs : List Fr} (hx : ∀ x ∈ xs, Ok2 x 1000 1000) (h1 : 1 ≤ xs.length) (hl : xs.length < 30) : ∃ fin, callI G (k+4) i_middle_of [.lst (xs.map eF)] = .ok (.d (eF (midF (sortF xs [])))) fin := by
  have a1 : callI G (k+3) i_by_size [.lst (xs.map eF)] = _ := by_size_ok (k := k+1) hx (by omega)
  obtain ⟨hP, hPl⟩ := sort_Pt xs [] hx Pt.nil (by simp; omega)
  simp only [List.length_nil, Nat.zero_add] at hPl
  generalize sortF xs [] = S at *
  have hln : bfn .len [.lst (S.map eF)] = some (.d (.int S.length)) := by rw [bf_lenL, List.length_map]
  have hh : ((S.length : Int) / 2) = ((S.length / 2 : Nat) : Int) := by omega
  have hhl : S.length / 2 < S.length := by omega
  have i1 : idxD (.lst (S.map eF)) (.int ((S.length : Int) / 2)) = some (eF (S.getD (S.length / 2) (0, 1))) := idx_F _ hh hhl
  have hbd := band_1 S.length (by omega)
  refine ⟨[.d (.lst (xs.map eF))], ?_⟩
  rw [c_middle_of]
  unfold midF
  by_cases ho : S.length % 2 = 1
  · rw [if_pos ho]
    rw [ho] at hbd
    have e1 : ((1 : Nat) : Int) = 1 := rfl
    rw [e1] at hbd
    clear hP hPl hx h1 hl hh hhl ho
    generalize eF (S.getD (S.length / 2) (0, 1)) = R at *
    generalize S.map eF = SS at *
    generalize xs.map eF = XS at *
    generalize (S.length : Int) = N at *
    generalize callI G (k+3) = cl at *
    as_aux_lemma => simp [b_middle_of, dcE, a1, hln, i1, hbd, truD, -ix_lst, -bf_lenL]
  · have ho2 : S.length % 2 = 0 := by omega
    rw [if_neg ho]
    rw [ho2] at hbd
    have e1 : ((0 : Nat) : Int) = 0 := rfl
    rw [e1] at hbd
    have i2 : idxD (.lst (S.map eF)) (.int ((S.length : Int) / 2 - 1)) = some (eF (S.getD (S.length / 2 - 1) (0, 1))) := idx_F _ (by omega) (by omega)
    have m1 := hP.ok _ (getD_mem (d := (0, 1)) hhl)
    have m2 := hP.ok _ (getD_mem (d := (0, 1)) (show S.length / 2 - 1 < S.length by omega))
    generalize S.getD (S.length / 2) (0, 1) = Y at *
    generalize S.getD (S.length / 2 - 1) (0, 1) = X at *
    have a2 : callI G (k+3) i_plus [.d (eF X), .d (eF Y)] = _ := plus_ok (k := k+1) m2 m1 (by omega) (by omega) (by omega) (by omega)
    have hn : X.1 * Y.2 + Y.1 * X.2 ≤ 2000000 := by
      have := Nat.mul_le_mul m2.n1 m1.d1
      have := Nat.mul_le_mul m1.n1 m2.d1
      omega
    have hd : X.2 * Y.2 ≤ 1000000 := Nat.mul_le_mul m2.d1 m1.d1
    have o2 : Ok2 (low (X.1 * Y.2 + Y.1 * X.2) (X.2 * Y.2)) 2000000 1000000 := low_ok (Nat.mul_pos m2.d0 m1.d0) hn hd
    have a3 : callI G (k+3) i_half_of [.d (eF (low (X.1 * Y.2 + Y.1 * X.2) (X.2 * Y.2)))] = _ := half_of_ok (k := k+1) o2 (by omega)
    generalize low (X.1 * Y.2 + Y.1 * X.2) (X.2 * Y.2) = M at *
    clear hP hPl hx h1 hl hh hhl ho ho2 m1 m2 hn hd o2
    generalize eF (low M.1 (M.2 * 2)) = R at *
    generalize eF M = ME at *
    generalize eF X = XE at *
    generalize eF Y = YE at *
    generalize S.map eF = SS at *
    generalize xs.map eF = XS at *
    generalize (S.length : Int) = N at *
    generalize callI G (k+3) = cl at *
    as_aux_lemma => simp [b_middle_of, dcE, a1, a2, a3, hln, i1, i2, hbd, truD, -ix_lst, -bf_lenL]
/-! cards: what was sold, what was spent -/
abbrev TL := List (Nat × Nat)
def stD (p : Nat × Nat) : D := .tup [.int p.1, .int p.2]
def tlD (t : TL) : D := .tup (t.map stD)
def stX (b : Bool) (p : Nat × Nat) : D := if b then .lst [.int p.1, .int p.2] else .tup [.int p.1, .int p.2]
def Ht (s : SV) (t : TL) : Prop := s = .d (tlD t) ∨ s = .lst (t.map (stX true))
theorem st_false : stX false = stD := rfl
structure Cd (t : TL) : Prop where
  l1 : 1 ≤ t.length
  l2 : t.length ≤ 20
  px : ∀ p ∈ t, 1 ≤ p.1 ∧ p.1 ≤ 1000 ∧ p.2 ≤ p.1
theorem is_sale_ok {k : Nat} {c : Bool} {p : Nat × Nat} (h : 1 ≤ p.1 ∧ p.1 ≤ 1000 ∧ p.2 ≤ p.1) : callI G (k+3) i_is_sale [.d (stX c p)] = .ok (.d (.bl true)) [.d (stX c p)] := by
  obtain ⟨a, m⟩ := p
  dsimp only at h
  have h1 : callI G (k+2) i_is_between [.d (.int (a : Int)), .d (.int 1), .d (.int 10000)] = .ok (.d (.bl true)) [.d (.int (a : Int)), .d (.int 1), .d (.int 10000)] := by
    rw [is_between_ok, decide_eq_true (by omega), decide_eq_true (by omega)]
    rfl
  have h2 : callI G (k+2) i_is_between [.d (.int (m : Int)), .d (.int 0), .d (.int (a : Int))] = .ok (.d (.bl true)) [.d (.int (m : Int)), .d (.int 0), .d (.int (a : Int))] := by
    rw [is_between_ok, decide_eq_true (by omega), decide_eq_true (by omega)]
    rfl
  have h3 : callI G (k+2) i_is_row [.d (stX c (a, m)), .d (.int 2)] = .ok (.d (.bl true)) [.d (stX c (a, m)), .d (.int 2)] := by
    cases c <;> simp [c_is_row, b_is_row, dc, c_is_sequence, b_is_sequence, stX]
  have j0 : idxD (stX c (a, m)) (.int 0) = some (.int a) := by cases c <;> rfl
  have j1 : idxD (stX c (a, m)) (.int 1) = some (.int m) := by cases c <;> rfl
  rw [c_is_sale]
  generalize stX c (a, m) = S at *
  generalize (a : Int) = A at *
  generalize (m : Int) = M at *
  generalize callI G (k + 2) = cl at *
  as_aux_lemma => simp [b_is_sale, dcE, h1, h2, h3, j0, j1]
theorem Ht.items {s : SV} {t : TL} (h : Ht s t) : ∃ b, itemsD (fz s) = some (t.map (stX b)) := by
  rcases h with rfl | rfl
  · exact ⟨false, rfl⟩
  · exact ⟨true, rfl⟩
theorem are_sales_ok {k : Nat} {s : SV} {t : TL} (h : Cd t) (hs : Ht s t) : callI G (k+4) i_are_sales [s] = .ok (.d (.bl true)) [.d (fz s)] := by
  have l1 : 1 ≤ (t.length : Int) := by have := h.l1; omega
  have l2 : (t.length : Int) ≤ 20 := by have := h.l2; omega
  have l3 : t.length ≤ 1000000 := by omega
  have g1 : callI G (k+3) i_has_size [s, .d (.int 1), .d (.int 20)] = .ok (.d (.bl true)) [s, .d (.int 1), .d (.int 20)] := by
    rcases hs with rfl | rfl <;> simp [c_has_size, b_has_size, dc, c_is_sequence, b_is_sequence, tlD, l1, l2]
  have hc : ∀ (b : Bool) (s0 : SV), compL (cturn G (callI G (k+3)) [1] (.name 1) [] (.call 21 [.var 1])) (t.map (stX b)) [] [s0, .un] = .ok ((t.map (stX b)).map fun _ => .bl true) [s0, .un] := fun b s0 => compL_each (fun _ => .bl true) _ _ (by
    intro z hz
    obtain ⟨p, hp, rfl⟩ := List.mem_map.mp hz
    have hsl : callI G (k+3) i_is_sale [.d (stX b p)] = _ := is_sale_ok (h.px p hp)
    generalize stX b p = S at *
    generalize callI G (k+3) = cl at *
    as_aux_lemma => simp [cturn, dcE, hsl])
  have bt : ∀ b, bfn .all [.lst ((t.map (stX b)).map fun _ => D.bl true)] = some (.d (.bl true)) := fun b => all_mapT _
  have hc' := hc false
  have bt' := bt false
  rw [st_false] at hc' bt'
  have hl4 : (t.map (stX true)).length ≤ 1000000 := by simpa using l3
  have hl5 : (t.map stD).length ≤ 1000000 := by simpa using l3
  rw [c_are_sales]
  rcases hs with rfl | rfl
  · have ht : itemsD (tlD t) = some (t.map stD) := rfl
    simp only [fz_1] at *
    generalize ((t.map stD).map fun _ => D.bl true) = BB at *
    generalize t.map stD = S at *
    generalize tlD t = T at *
    generalize callI G (k+3) = cl at *
    as_aux_lemma => simp [b_are_sales, dcE, g1, hc', bt', ht, hl5, -items_tup, -bf_all]
  · have hc := hc true
    have bt := bt true
    simp only [fz_2] at *
    generalize ((t.map (stX true)).map fun _ => D.bl true) = BB at *
    generalize t.map (stX true) = S at *
    generalize callI G (k+3) = cl at *
    as_aux_lemma => simp [b_are_sales, dcE, g1, hc, bt, hl4, -bf_all]
def soldN (t : TL) : Nat := (t.map (·.1)).sum
def spentN (t : TL) : Nat := (t.map (·.2)).sum
theorem sum_cast : ∀ w : List Nat, (w.map fun (x : Nat) => (x : Int)).sum = (w.sum : Nat)
  | [] => rfl
  | x :: w => by rw [List.map_cons, List.sum_cons, List.sum_cons, sum_cast w, Int.natCast_add]
theorem bf_sumN {w : List Nat} : bfn .sum [.lst (w.map fun (x : Nat) => D.int x)] = some (.d (.int (w.sum : Nat))) := by
  have e : (w.map fun (x : Nat) => D.int x) = (w.map fun (x : Nat) => (x : Int)).map .int := by simp
  rw [e, bf_sumL, intsD_map, ← sum_cast]
  rfl
theorem spent_le : ∀ {t : TL}, (∀ p ∈ t, 1 ≤ p.1 ∧ p.1 ≤ 1000 ∧ p.2 ≤ p.1) → spentN t ≤ soldN t ∧ soldN t ≤ 1000 * t.length ∧ t.length ≤ soldN t
  | [], _ => by simp [spentN, soldN]
  | p :: t, h => by
    have ih := spent_le (t := t) fun q hq => h q (List.mem_cons_of_mem _ hq)
    have := h p (by simp)
    simp only [spentN, soldN, List.map_cons, List.sum_cons, List.length_cons] at ih ⊢
    omega
theorem share_of_ok {k : Nat} {s : SV} {t : TL} (h : Cd t) (hs : Ht s t) : ∃ fin, callI G (k+5) i_share_of [s] = .ok (.d (eF (low (soldN t - spentN t) (soldN t)))) fin := by
  have a1 : callI G (k+4) i_are_sales [s] = _ := are_sales_ok (k := k) h hs
  have a2 : ∀ at_, callI G (k+4) i_need [.d (.bl true), .d at_] = .ok (.d .non) [.d (.bl true), .d at_] := fun _ => need_ok
  have sl := spent_le h.px
  have hl2 := h.l2
  have hl1 := h.l1
  have a3 : callI G (k+4) i_lowest [.d (.int (soldN t - spentN t : Nat)), .d (.int (soldN t))] = _ := lowest_ok (k := k+3) (by omega) (by omega)
  rw [low_eF, Int.ofNat_sub sl.1] at a3
  obtain ⟨b, hit⟩ := hs.items
  have hc0 : ∀ s0 s1 s2 : SV, compL (cturn G (callI G (k+4)) [3] (.name 3) [] (.idx (.var 3) (.cst (.int 0)))) (t.map (stX b)) [] [s0, s1, s2, .un] = .ok ((t.map (·.1)).map fun (x : Nat) => D.int x) [s0, s1, s2, .un] := fun s0 s1 s2 => by
    have := compL_each (f := cturn G (callI G (k+4)) [3] (.name 3) [] (.idx (.var 3) (.cst (.int 0)))) (fun z => match z with | .tup (z :: _) => z | .lst (z :: _) => z | _ => .non) (t.map (stX b)) [s0, s1, s2, .un] (by
      intro z hz
      obtain ⟨p, hp, rfl⟩ := List.mem_map.mp hz
      have j0 : idxD (stX b p) (.int 0) = some (.int p.1) := by cases b <;> rfl
      have e : (match stX b p with | .tup (z :: _) => z | .lst (z :: _) => z | _ => .non) = D.int p.1 := by cases b <;> rfl
      rw [e]
      generalize stX b p = S at *
      generalize (p.1 : Int) = P at *
      generalize callI G (k+4) = cl at *
      as_aux_lemma => simp [cturn, j0, -ix_lst, -ix_tup])
    rw [this]
    refine congrArg (fun z => R.ok z _) ?_
    rw [List.map_map, List.map_map]
    apply List.map_congr_left
    intro p _
    cases b <;> rfl
  have hc1 : ∀ s0 s1 s2 : SV, compL (cturn G (callI G (k+4)) [3] (.name 3) [] (.idx (.var 3) (.cst (.int 1)))) (t.map (stX b)) [] [s0, s1, s2, .un] = .ok ((t.map (·.2)).map fun (x : Nat) => D.int x) [s0, s1, s2, .un] := fun s0 s1 s2 => by
    have := compL_each (f := cturn G (callI G (k+4)) [3] (.name 3) [] (.idx (.var 3) (.cst (.int 1)))) (fun z => match z with | .tup (_ :: z :: _) => z | .lst (_ :: z :: _) => z | _ => .non) (t.map (stX b)) [s0, s1, s2, .un] (by
      intro z hz
      obtain ⟨p, hp, rfl⟩ := List.mem_map.mp hz
      have j0 : idxD (stX b p) (.int 1) = some (.int p.2) := by cases b <;> rfl
      have e : (match stX b p with | .tup (_ :: z :: _) => z | .lst (_ :: z :: _) => z | _ => .non) = D.int p.2 := by cases b <;> rfl
      rw [e]
      generalize stX b p = S at *
      generalize (p.2 : Int) = P at *
      generalize callI G (k+4) = cl at *
      as_aux_lemma => simp [cturn, j0, -ix_lst, -ix_tup])
    rw [this]
    refine congrArg (fun z => R.ok z _) ?_
    rw [List.map_map, List.map_map]
    apply List.map_congr_left
    intro p _
    cases b <;> rfl
  have s0 := bf_sumN (w := t.map (·.1))
  have s1 := bf_sumN (w := t.map (·.2))
  have es0 : (t.map (·.1)).sum = soldN t := rfl
  have es1 : (t.map (·.2)).sum = spentN t := rfl
  rw [es0] at s0
  rw [es1] at s1
  have hll : (t.map (stX b)).length ≤ 1000000 := by simp; omega
  rw [c_share_of]
  have key : ∃ e2, execSs G (callI G (k+4)) 1 b_share_of [s, .un, .un, .un] = .rt (.d (eF (low (soldN t - spentN t) (soldN t)))) e2 := by
    clear sl hl1 hl2 h
    generalize eF (low (soldN t - spentN t) (soldN t)) = R at *
    generalize ((soldN t : Nat) : Int) = SO at *
    generalize ((spentN t : Nat) : Int) = SP at *
    generalize (t.map (·.1)).map (fun (x : Nat) => D.int x) = L1 at *
    generalize (t.map (·.2)).map (fun (x : Nat) => D.int x) = L2 at *
    generalize t.map (stX b) = IT at *
    generalize callI G (k+4) = cl at *
    rcases hs with rfl | rfl <;> simp only [fz_1, fz_2] at *
    · generalize tlD t = T at *
      exact ⟨_, by simp [b_share_of, dcE, a1, a2, a3, hit, hc0, hc1, s0, s1, hll, -items_tup, -bf_sumL]; rfl⟩
    · generalize t.map (stX true) = T at *
      exact ⟨_, by simp [b_share_of, dcE, a1, a2, a3, hit, hc0, hc1, s0, s1, hll, -items_lst, -bf_sumL]; rfl⟩
  obtain ⟨e2, he⟩ := key
  show ∃ fin, finC 1 (execSs G (callI G (k+4)) 1 b_share_of [s, .un, .un, .un]) = _
  rw [he]
  exact ⟨_, rfl⟩
def partsF (t : TL) : List Fr := t.map fun p => low (p.1 - p.2) p.1
theorem parts_ok {t : TL} (h : Cd t) : ∀ x ∈ partsF t, Ok2 x 1000 1000 := by
  intro x hx
  obtain ⟨p, hp, rfl⟩ := List.mem_map.mp hx
  have := h.px p hp
  exact low_ok (by omega) (by omega) (by omega)
theorem middle_share_ok {k : Nat} {s : SV} {t : TL} (h : Cd t) (hs : Ht s t) : ∃ fin, callI G (k+5) i_middle_share [s] = .ok (.d (eF (midF (sortF (partsF t) [])))) fin := by
  have a1 : callI G (k+4) i_are_sales [s] = _ := are_sales_ok (k := k) h hs
  have a2 : ∀ at_, callI G (k+4) i_need [.d (.bl true), .d at_] = .ok (.d .non) [.d (.bl true), .d at_] := fun _ => need_ok
  have hl2 := h.l2
  obtain ⟨f3, a3⟩ : ∃ fin, callI G (k+4) i_middle_of [.lst ((partsF t).map eF)] = .ok (.d (eF (midF (sortF (partsF t) [])))) fin := middle_of_ok (k := k) (parts_ok h) (by have := h.l1; simp [partsF]; omega) (by simp [partsF]; omega)
  obtain ⟨b, hit⟩ := hs.items
  have hc : ∀ s0 : SV, compL (cturn G (callI G (k+4)) [1, 2] (.tup [.name 1, .name 2]) [] (.call 8 [.bin .sub (.var 1) (.var 2), .var 1])) (t.map (stX b)) [] [s0, .un, .un] = .ok ((partsF t).map eF) [s0, .un, .un] := fun s0 => by
    have := compL_each (f := cturn G (callI G (k+4)) [1, 2] (.tup [.name 1, .name 2]) [] (.call 8 [.bin .sub (.var 1) (.var 2), .var 1])) (fun z => match z with | .tup [.int a, .int b] => eF (low (a.toNat - b.toNat) a.toNat) | .lst [.int a, .int b] => eF (low (a.toNat - b.toNat) a.toNat) | _ => .non) (t.map (stX b)) [s0, .un, .un] (by
      intro z hz
      obtain ⟨p, hp, rfl⟩ := List.mem_map.mp hz
      have hq := h.px p hp
      have a4 : callI G (k+4) i_lowest [.d (.int (p.1 - p.2 : Nat)), .d (.int p.1)] = _ := lowest_ok (k := k+3) (by omega) (by omega)
      rw [low_eF, Int.ofNat_sub (by omega)] at a4
      have e : (match stX b p with | .tup [.int a, .int b] => eF (low (a.toNat - b.toNat) a.toNat) | .lst [.int a, .int b] => eF (low (a.toNat - b.toNat) a.toNat) | _ => .non) = eF (low (p.1 - p.2) p.1) := by cases b <;> simp [stX]
      rw [e]
      clear e hq hz
      generalize eF (low (p.1 - p.2) p.1) = R at *
      cases b with
      | false =>
        have e1 : stX false p = .tup [.int p.1, .int p.2] := rfl
        rw [e1]
        generalize (p.1 : Int) = P1 at *
        generalize (p.2 : Int) = P2 at *
        generalize callI G (k+4) = cl at *
        as_aux_lemma => simp [cturn, dcE, a4]
      | true =>
        have e1 : stX true p = .lst [.int p.1, .int p.2] := rfl
        rw [e1]
        generalize (p.1 : Int) = P1 at *
        generalize (p.2 : Int) = P2 at *
        generalize callI G (k+4) = cl at *
        as_aux_lemma => simp [cturn, dcE, a4])
    rw [this]
    refine congrArg (fun z => R.ok z _) ?_
    unfold partsF
    rw [List.map_map, List.map_map]
    apply List.map_congr_left
    intro p _
    cases b <;> simp [stX]
  have hll : (t.map (stX b)).length ≤ 1000000 := by simp; omega
  rw [c_middle_share]
  have key : ∃ e2, execSs G (callI G (k+4)) 1 b_middle_share [s, .un, .un] = .rt (.d (eF (midF (sortF (partsF t) [])))) e2 := by
    clear hl2 h
    generalize eF (midF (sortF (partsF t) [])) = R at *
    generalize (partsF t).map eF = PF at *
    generalize t.map (stX b) = IT at *
    generalize callI G (k+4) = cl at *
    rcases hs with rfl | rfl <;> simp only [fz_1, fz_2] at *
    · generalize tlD t = T at *
      exact ⟨_, by simp [b_middle_share, dcE, a1, a2, a3, hit, hc, hll, -items_tup]; rfl⟩
    · generalize t.map (stX true) = T at *
      exact ⟨_, by simp [b_middle_share, dcE, a1, a2, a3, hit, hc, hll, -items_lst]; rfl⟩
  obtain ⟨e2, he⟩ := key
  show ∃ fin, finC 1 (execSs G (callI G (k+4)) 1 b_middle_share [s, .un, .un]) = _
  rw [he]
  exact ⟨_, rfl⟩
end K17
end

section
set_option maxRecDepth 100000
set_option maxHeartbeats 0
set_option linter.unusedSimpArgs false
set_option linter.unusedVariables false
open Ip K17
namespace K17
theorem execSs_seq {G : Cfg} {cl : Nat → List SV → RC} {np : Nat} {B : List CS} {e1 : Ip.Env} : ∀ {A : List CS} {e : Ip.Env}, execSs G cl np A e = .nx e1 → execSs G cl np (A ++ B) e = execSs G cl np B e1
  | [], e, h => by
    rw [execSs_nil] at h
    cases h
    rfl
  | c :: A, e, h => by
    rw [List.cons_append, execSs_cons]
    rw [execSs_cons] at h
    cases q : execS G cl np c e with
    | nx e2 =>
      rw [q] at h
      rw [andThen_nx] at h ⊢
      exact execSs_seq h
    | _ => rw [q] at h; cases h
def mn (i j : Int) : Int := if j < i then j else i
def minO : List Int → Option Int
  | [] => none
  | x :: xs => some (xs.foldl mn x)
theorem leastD_int : ∀ {xs : List Int} {x : Int}, leastD (.int x) (xs.map .int) = .int (xs.foldl mn x)
  | [], x => rfl
  | y :: xs, x => by
    have ih := leastD_int (xs := xs) (x := mn x y)
    unfold leastD at ih ⊢
    rw [List.map_cons, List.foldl_cons, List.foldl_cons, ← ih]
    congr 1
    unfold mn
    simp only [ltB, decide_eq_true_eq]
    split <;> rfl
theorem bf_min_int {x : Int} {xs : List Int} : bfn .min [.lst (.int x :: xs.map .int)] = some (.d (.int (xs.foldl mn x))) := by
  show (if okLts (.int x :: xs.map .int) then some (SV.d (leastD (.int x) (xs.map .int))) else none) = _
  rw [← List.map_cons (f := D.int), okLts_int, leastD_int]
  rfl
theorem mn_ok : ∀ {xs : List Int} {x : Int}, (xs.foldl mn x = x ∨ xs.foldl mn x ∈ xs) ∧ xs.foldl mn x ≤ x ∧ ∀ y ∈ xs, xs.foldl mn x ≤ y
  | [], x => ⟨.inl rfl, Int.le_refl _, by simp⟩
  | z :: xs, x => by
    obtain ⟨h1, h2, h3⟩ := mn_ok (xs := xs) (x := mn x z)
    rw [List.foldl_cons]
    have hm : (mn x z = x ∨ mn x z = z) ∧ mn x z ≤ x ∧ mn x z ≤ z := by
      unfold mn
      split <;> omega
    refine ⟨?_, by omega, fun y hy => ?_⟩
    · rcases h1 with h1 | h1
      · rw [h1]
        rcases hm.1 with h | h
        · exact .inl h
        · rw [h]; exact .inr (by simp)
      · exact .inr (List.mem_cons_of_mem _ h1)
    · rcases List.mem_cons.mp hy with rfl | hy
      · omega
      · exact h3 y hy
/-! drawing -/
theorem law_pick_D {k : Nat} {row : List Int} {a : Int} {xs : List D} (hr : Row row) (ha : 0 ≤ a) (h0 : xs ≠ []) (hl : xs.length ≤ 1000) : ∃ x ∈ xs, callI G (k+3) i_law_pick [.lst (row.map .int), .lst [.int a], .lst xs] = .ok (.d x) [.lst (row.map .int), .lst [.int (a + 1)], .lst xs] := by
  have hpos : 0 < xs.length := by cases xs <;> simp at h0 ⊢
  obtain ⟨t, p1, p2, tc⟩ := law_take_ok (k := k) (a := a) (l := (xs.length : Int)) hr ha (by omega)
  obtain ⟨n, rfl⟩ : ∃ n : Nat, t = n := ⟨t.toNat, by omega⟩
  have hn : n < xs.length := by omega
  refine ⟨xs[n], List.getElem_mem hn, ?_⟩
  have hi : idxD (.lst xs) (.int (n : Int)) = some xs[n] := by
    rw [ix_lst, ix_nat rfl hn]
    simp [hn]
  have hb : bfn .len [.lst xs] = some (.d (.int xs.length)) := bf_lenL
  rw [c_law_pick]
  generalize xs[n] = v at *
  generalize row.map D.int = R at *
  generalize (xs.length : Int) = LN at *
  generalize (n : Int) = N at *
  generalize callI G (k+2) = cl at *
  as_aux_lemma => simp [b_law_pick, dcE, tc, hi, hb, retW, getP, -bf_lenL, -ix_lst]
/-- a comprehension whose turns change the names -/
theorem compL_inv {P : Ip.Env → Prop} {Q : D → Prop} {f : D → Ip.Env → R (Option D)} : ∀ (xs acc : List D) (e : Ip.Env), P e → (∀ x ∈ xs, ∀ e, P e → ∃ y e', f x e = .ok (some y) e' ∧ Q y ∧ P e') →
    ∃ ys e', compL f xs acc e = .ok (acc ++ ys) e' ∧ ys.length = xs.length ∧ (∀ y ∈ ys, Q y) ∧ P e'
  | [], acc, e, p, _ => ⟨[], e, by simp [compL], rfl, by simp, p⟩
  | x :: xs, acc, e, p, h => by
    obtain ⟨y, e1, h1, hq, p1⟩ := h x (by simp) e p
    obtain ⟨ys, e', h2, h3, h4, h5⟩ := compL_inv (P := P) (Q := Q) (f := f) xs (acc ++ [y]) e1 p1 fun z hz => h z (List.mem_cons_of_mem _ hz)
    refine ⟨y :: ys, e', ?_, by simp [h3], ?_, h5⟩
    · rw [compL, h1]
      dsimp only
      rw [h2]
      simp
    · intro z hz
      rcases List.mem_cons.mp hz with rfl | hz
      · exact hq
      · exact h4 z hz
theorem ints_of {R : Int → Prop} : ∀ {ys : List D}, (∀ y ∈ ys, ∃ i, y = .int i ∧ R i) → ∃ is : List Int, ys = tI is ∧ is.length = ys.length ∧ ∀ i ∈ is, R i
  | [], _ => ⟨[], rfl, rfl, by simp⟩
  | y :: ys, h => by
    obtain ⟨i, rfl, hi⟩ := h y (by simp)
    obtain ⟨is, rfl, hl, hs⟩ := ints_of (R := R) (ys := ys) fun z hz => h z (List.mem_cons_of_mem _ hz)
    refine ⟨i :: is, rfl, by simp, ?_⟩
    intro j hj
    rcases List.mem_cons.mp hj with rfl | hj
    · exact hi
    · exact hs j hj
theorem listed_ints {k : Nat} {xs : List Int} (hl : xs.length ≤ 1000) : callI G (k+2) i_law_listed [.d (.tup (tI xs))] = .ok (.lst (tI xs)) [.d (.tup (tI xs))] := by
  have h1 : ∀ i, callI G (k+1) i_law_listed [.d (.int i)] = .ok (.d (.int i)) [.d (.int i)] := fun i => by
    simp [c_law_listed, b_law_listed]
  have hc : compL (cturn G (callI G (k+1)) [1] (.name 1) [] (.call 32 [.var 1])) (tI xs) [] [.d (.tup (tI xs)), .un] = .ok (tI xs) [.d (.tup (tI xs)), .un] := by
    have := compL_each (f := cturn G (callI G (k+1)) [1] (.name 1) [] (.call 32 [.var 1])) (fun x => x) (tI xs) [.d (.tup (tI xs)), .un] fun x hm => by
      obtain ⟨i, him, rfl⟩ := List.mem_map.mp hm
      have h1 := h1 i
      generalize callI G (k+1) = cl at *
      as_aux_lemma => simp [cturn, dcE, h1]
    rw [this]
    simp
  have ll : xs.length ≤ 1000000 := by omega
  rw [c_law_listed]
  generalize callI G (k + 1) = cl at *
  as_aux_lemma => simp [b_law_listed, dcE, hc, retW, ll]
theorem listed_cards {k : Nat} {t : TL} (hl : t.length ≤ 1000) : callI G (k+3) i_law_listed [.d (tlD t)] = .ok (.lst (t.map (stX true))) [.d (tlD t)] := by
  have hc : compL (cturn G (callI G (k+2)) [1] (.name 1) [] (.call 32 [.var 1])) (t.map stD) [] [.d (tlD t), .un] = .ok (t.map (stX true)) [.d (tlD t), .un] := by
    have := compL_each (f := cturn G (callI G (k+2)) [1] (.name 1) [] (.call 32 [.var 1])) (fun z => match z with | .tup z => .lst z | z => z) (t.map stD) [.d (tlD t), .un] (by
      intro z hz
      obtain ⟨p, hp, rfl⟩ := List.mem_map.mp hz
      have h1 : callI G (k+2) i_law_listed [.d (stD p)] = .ok (.lst [.int p.1, .int p.2]) [.d (stD p)] := listed_ints (k := k) (xs := [(p.1 : Int), (p.2 : Int)]) (by simp)
      have e : (match stD p with | .tup z => D.lst z | z => z) = .lst [.int p.1, .int p.2] := rfl
      rw [e]
      generalize stD p = S at *
      generalize (p.1 : Int) = A at *
      generalize (p.2 : Int) = B at *
      generalize callI G (k + 2) = cl at *
      as_aux_lemma => simp [cturn, dcE, h1])
    rw [this]
    refine congrArg (fun z => R.ok z _) ?_
    rw [List.map_map]
    rfl
  have ht : itemsD (tlD t) = some (t.map stD) := rfl
  have hy : isTy (tlD t) .tuple = true := rfl
  have ll : (t.map stD).length ≤ 1000000 := by simp; omega
  rw [c_law_listed]
  generalize t.map (stX true) = S2 at *
  generalize t.map stD = S at *
  generalize tlD t = T at *
  generalize callI G (k + 2) = cl at *
  as_aux_lemma => simp [b_law_listed, dcE, hc, ht, hy, retW, ll]
theorem handed_any {k : Nat} {row : List Int} {a : Int} {d : D} {xs : List D} (hr : Row row) (ha : 0 ≤ a) (h1 : callI G (k+3) i_law_listed [.d d] = .ok (.lst xs) [.d d]) : ∃ s, (s = .d d ∨ s = .lst xs) ∧ callI G (k+4) i_law_handed [.lst (row.map .int), .lst [.int a], .d d] = .ok s [.lst (row.map .int), .lst [.int (a + 1)], .d d] := by
  obtain ⟨t0, p1, p2, tc⟩ := law_take_ok (k := k+1) (a := a) (l := 2) hr ha (by omega)
  by_cases h : t0 = 0
  · refine ⟨.lst xs, .inr rfl, ?_⟩
    rw [c_law_handed]
    generalize row.map D.int = R at *
    generalize callI G (k+3) = cl at *
    subst h
    as_aux_lemma => simp [b_law_handed, dcE, tc, h1, retW, getP]
  · refine ⟨.d d, .inl rfl, ?_⟩
    rw [c_law_handed]
    generalize row.map D.int = R at *
    generalize callI G (k+3) = cl at *
    as_aux_lemma => simp [b_law_handed, dcE, tc, h, retW, getP]
theorem handed_ints {row : List Int} {a : Int} {xs : List Int} (hr : Row row) (ha : 0 ≤ a) (hl : xs.length ≤ 1000) : ∃ s, Hn s xs ∧ callI G 59 i_law_handed [.lst (row.map .int), .lst [.int a], .d (.tup (tI xs))] = .ok s [.lst (row.map .int), .lst [.int (a + 1)], .d (.tup (tI xs))] :=
  handed_any (k := 55) hr ha (listed_ints (k := 56) hl)
theorem handed_share {row : List Int} {a : Int} {p q : Nat} (hr : Row row) (ha : 0 ≤ a) : ∃ s, Sh s p q ∧ callI G 59 i_law_handed [.lst (row.map .int), .lst [.int a], .d (eF (p, q))] = .ok s [.lst (row.map .int), .lst [.int (a + 1)], .d (eF (p, q))] :=
  handed_any (k := 55) (d := eF (p, q)) (xs := [.int p, .int q]) hr ha (listed_ints (k := 56) (xs := [(p : Int), (q : Int)]) (by simp))
theorem handed_cards {row : List Int} {a : Int} {t : TL} (hr : Row row) (ha : 0 ≤ a) (hl : t.length ≤ 1000) : ∃ s, Ht s t ∧ callI G 59 i_law_handed [.lst (row.map .int), .lst [.int a], .d (tlD t)] = .ok s [.lst (row.map .int), .lst [.int (a + 1)], .d (tlD t)] :=
  handed_any (k := 55) hr ha (listed_cards (k := 55) hl)
theorem so_1 {x : D} (h : okSo 1 x = true) : ∃ fin, callI G 59 i_law_so [.d x, .d x] = .ok (.d (.bl true)) fin := law_so_ok 1 (m := 57) h
def Pu (s : SV) : Prop := s = .un ∨ ∃ x, s = .d x
theorem pure10 {s : SV} (h : Pu s) : ∀ e : Ip.Env, e[10]? = some s → pureAt e 10 = true := fun e he => by
  rcases h with rfl | ⟨x, rfl⟩
  · exact pureAt_un he
  · exact pureAt_d he
/-- a share as the law draws it -/
structure ShN (x : Fr) : Prop where
  lt : x.1 < x.2
  le : x.2 ≤ 100
  g : Nat.gcd x.1 x.2 = 1
theorem ShN.shr {x : Fr} (h : ShN x) : Shr (x.1 : Int) (x.2 : Int) := ⟨by omega, by have := h.lt; omega, by have := h.le; omega, by rw [Int.natAbs_natCast, Int.natAbs_natCast]; exact h.g⟩
theorem low_share {t w : Nat} (h : t < w) (hw : w ≤ 100) : ShN (low t w) := by
  have hp : 0 < Nat.gcd t w := Nat.gcd_pos_of_pos_right _ (by omega)
  refine ⟨?_, Nat.le_trans (Nat.div_le_self _ _) hw, by
    show Nat.gcd (t / Nat.gcd t w) (w / Nat.gcd t w) = 1
    rw [Nat.gcd_div (Nat.gcd_dvd_left t w) (Nat.gcd_dvd_right t w), Nat.div_self hp]⟩
  have h1 := Nat.div_mul_cancel (Nat.gcd_dvd_left t w)
  have h2 := Nat.div_mul_cancel (Nat.gcd_dvd_right t w)
  show t / Nat.gcd t w < w / Nat.gcd t w
  refine Nat.lt_of_mul_lt_mul_right (a := Nat.gcd t w) ?_
  rw [h1, h2]
  exact h
def uI (us : List Nat) : List Int := us.map fun (u : Nat) => (u : Int)
/-! a round: what is drawn -/
def A1 : List CS := b_law_2.take 4
def A2 : List CS := (b_law_2.drop 4).take 3
def A3 : List CS := b_law_2.drop 7
theorem b2_split : b_law_2 = A1 ++ (A2 ++ A3) := rfl
/-- what a round has drawn -/
structure Rd (s : Nat) (x : Fr) (us : List Nat) : Prop where
  s1 : 1 ≤ s
  s2 : s ≤ 100000
  sh : ShN x
  l1 : 1 ≤ us.length
  l2 : us.length ≤ 8
  ub : ∀ u ∈ us, u ≤ 40000
theorem a1_ok {row : List Int} {a : Int} {e0 e3 e4 e5 e6 e7 e8 e9 e10 e11 e12 e13 e14 e15 e16 e17 e18 e19 e20 e21 : SV} (hr : Row row) (ha : 0 ≤ a) (hp : Pu e10) : ∃ (s w : Nat) (x : Fr) (us : List Nat) (a' : Int), Rd s x us ∧ 0 ≤ a' ∧
    execSs G (callI G 59) 1 A1 [e0, .lst (row.map .int), .lst [.int a], e3, e4, e5, e6, e7, e8, e9, e10, e11, e12, e13, e14, e15, e16, e17, e18, e19, e20, e21] = .nx [e0, .lst (row.map .int), .lst [.int a'], e3, .d (.int s), .d (.int w), .d (eF x), .d (.tup (tI (uI us))), e8, e9, e10, e11, e12, e13, e14, e15, e16, e17, e18, e19, e20, e21] := by
  obtain ⟨y1, hy1, k1⟩ : ∃ x ∈ [D.int 9, .int 997, .int 100000], callI G 59 i_law_pick [.lst (row.map .int), .lst [.int a], .lst [D.int 9, .int 997, .int 100000]] = _ := law_pick_D (k := 56) (a := a) (xs := [.int 9, .int 997, .int 100000]) hr ha (by simp) (by simp)
  obtain ⟨l1, rfl, l11, l12⟩ : ∃ l : Int, y1 = .int l ∧ 1 ≤ l ∧ l ≤ 100000 := by
    simp only [List.mem_cons, List.not_mem_nil, or_false] at hy1
    rcases hy1 with rfl | rfl | rfl <;> exact ⟨_, rfl, by omega, by omega⟩
  obtain ⟨t1, p1, p2, k2⟩ : ∃ t, 0 ≤ t ∧ t < l1 ∧ callI G 59 i_law_take [.lst (row.map .int), .lst [.int (a + 1)], .d (.int l1)] = .ok (.d (.int t)) [.lst (row.map .int), .lst [.int (a + 1 + 1)], .d (.int l1)] := law_take_ok (k := 57) hr (by omega) (by omega)
  obtain ⟨s, hs⟩ : ∃ s : Nat, 1 + t1 = s := ⟨(1 + t1).toNat, by omega⟩
  obtain ⟨t2, p3, p4, k3⟩ : ∃ t, 0 ≤ t ∧ t < (60 : Int) ∧ callI G 59 i_law_take [.lst (row.map .int), .lst [.int (a + 1 + 1)], .d (.int 60)] = .ok (.d (.int t)) [.lst (row.map .int), .lst [.int (a + 1 + 1 + 1)], .d (.int 60)] := law_take_ok (k := 57) hr (by omega) (by omega)
  obtain ⟨w, hw⟩ : ∃ w : Nat, 1 + t2 = w := ⟨(1 + t2).toNat, by omega⟩
  obtain ⟨t3, p5, p6, k4⟩ : ∃ t, 0 ≤ t ∧ t < (w : Int) ∧ callI G 59 i_law_take [.lst (row.map .int), .lst [.int (a + 1 + 1 + 1)], .d (.int w)] = .ok (.d (.int t)) [.lst (row.map .int), .lst [.int (a + 1 + 1 + 1 + 1)], .d (.int w)] := law_take_ok (k := 57) hr (by omega) (by omega)
  obtain ⟨tn, rfl⟩ : ∃ n : Nat, t3 = n := ⟨t3.toNat, by omega⟩
  obtain ⟨f5, k5⟩ : ∃ fin, callI G 59 i_law_red [.d (.int tn), .d (.int w)] = .ok (.d (lowD tn w)) fin := law_red_ok (k := 57) (by omega) (by omega)
  obtain ⟨f6, k6⟩ : ∃ fin, callI G 59 i_law_red [.d (.int (99 : Nat)), .d (.int (100 : Nat))] = .ok (.d (lowD 99 100)) fin := law_red_ok (k := 57) (by omega) (by omega)
  obtain ⟨y7, hy7, k7⟩ : ∃ x ∈ [eF (0, 1), lowD tn w, lowD 99 100], callI G 59 i_law_pick [.lst (row.map .int), .lst [.int (a + 1 + 1 + 1 + 1)], .lst [eF (0, 1), lowD tn w, lowD 99 100]] = .ok (.d x) [.lst (row.map .int), .lst [.int (a + 1 + 1 + 1 + 1 + 1)], .lst [eF (0, 1), lowD tn w, lowD 99 100]] := law_pick_D (k := 56) hr (by omega) (by simp) (by simp)
  obtain ⟨x, rfl, hx⟩ : ∃ x : Fr, y7 = eF x ∧ ShN x := by
    simp only [List.mem_cons, List.not_mem_nil, or_false] at hy7
    rcases hy7 with rfl | rfl | rfl
    · exact ⟨(0, 1), rfl, by decide, by decide, by decide⟩
    · exact ⟨low tn w, rfl, low_share (by omega) (by omega)⟩
    · exact ⟨low 99 100, rfl, low_share (by omega) (by omega)⟩
  obtain ⟨t8, p7, p8, k8⟩ : ∃ t, 0 ≤ t ∧ t < (8 : Int) ∧ callI G 59 i_law_take [.lst (row.map .int), .lst [.int (a + 1 + 1 + 1 + 1 + 1)], .d (.int 8)] = .ok (.d (.int t)) [.lst (row.map .int), .lst [.int (a + 1 + 1 + 1 + 1 + 1 + 1)], .d (.int 8)] := law_take_ok (k := 57) hr (by omega) (by omega)
  obtain ⟨n, hn⟩ : ∃ n : Nat, 1 + t8 = n := ⟨(1 + t8).toNat, by omega⟩
  have hr1 : rangeD [.int (1 + t8)] = some (rangeL 0 n) := by rw [hn]; exact rangeD_nat (by omega)
  have hmx : ∀ z, bfn .max [.int 1, .int z] = some (.d (.int (mx 1 z))) := fun z => bf_max2
  obtain ⟨ys, e', hc, hl, hq, a', ha', rfl⟩ := compL_inv (P := fun e => ∃ a : Int, 0 ≤ a ∧ e = [e0, .lst (row.map .int), .lst [.int a], e3, .d (.int s), .d (.int w), .d (eF x), e7, e8, e9, e10, e11, e12, e13, e14, e15, e16, e17, e18, e19, e20, e21]) (Q := fun y => ∃ i, y = .int i ∧ 0 ≤ i ∧ i ≤ 40000)
    (f := cturn G (callI G 59) [10] (.name 10) [] (.call 31 [.var 1, .var 2, .call 34 [.var 1, .var 2, .lst [.cst (.int 3), .bi .max [.cst (.int 1), .bin .fdiv (.var 4) (.cst (.int 3))]]]])) (rangeL 0 n) [] [e0, .lst (row.map .int), .lst [.int (a + 1 + 1 + 1 + 1 + 1 + 1)], e3, .d (.int s), .d (.int w), .d (eF x), e7, e8, e9, e10, e11, e12, e13, e14, e15, e16, e17, e18, e19, e20, e21] ⟨_, by omega, rfl⟩ (by
    rintro y hy e ⟨a, ha, rfl⟩
    obtain ⟨i, hi, rfl⟩ := mem_rangeL hy
    have hm1 : 1 ≤ mx 1 ((s : Int) / 3) ∧ mx 1 ((s : Int) / 3) ≤ 40000 := by unfold mx; split <;> omega
    obtain ⟨z, hz, g1⟩ : ∃ x ∈ [D.int 3, .int (mx 1 ((s : Int) / 3))], callI G 59 i_law_pick [.lst (row.map .int), .lst [.int a], .lst [D.int 3, .int (mx 1 ((s : Int) / 3))]] = _ := law_pick_D (k := 56) (a := a) (xs := [.int 3, .int (mx 1 ((s : Int) / 3))]) hr ha (by simp) (by simp)
    obtain ⟨l, rfl, b1, b2⟩ : ∃ l : Int, z = .int l ∧ 1 ≤ l ∧ l ≤ 40000 := by
      simp only [List.mem_cons, List.not_mem_nil, or_false] at hz
      rcases hz with rfl | rfl
      · exact ⟨_, rfl, by omega, by omega⟩
      · exact ⟨_, rfl, hm1.1, hm1.2⟩
    obtain ⟨u, c1, c2, g2⟩ : ∃ t, 0 ≤ t ∧ t < l ∧ callI G 59 i_law_take [.lst (row.map .int), .lst [.int (a + 1)], .d (.int l)] = .ok (.d (.int t)) [.lst (row.map .int), .lst [.int (a + 1 + 1)], .d (.int l)] := law_take_ok (k := 57) hr (by omega) (by omega)
    refine ⟨.int u, _, ?_, ⟨_, rfl, c1, by omega⟩, a + 1 + 1, by omega, rfl⟩
    have hmz := hmx ((s : Int) / 3)
    clear hr k1 k2 k3 k4 k5 k6 k7 k8 hr1 hmx hm1 hz
    generalize mx 1 ((s : Int) / 3) = MX at *
    generalize row.map D.int = R at *
    generalize eF x = XE at *
    generalize (w : Int) = W at *
    generalize (s : Int) = SS at *
    generalize h2 : a + 1 + 1 = B2 at *
    generalize h1 : a + 1 = B1 at *
    generalize callI G 59 = cl at *
    as_aux_lemma => simp [cturn, dcE, g1, g2, hmz, getP, -bf_max2])
  obtain ⟨is, rfl, hl2, hx2⟩ := ints_of hq
  obtain ⟨us, rfl⟩ : ∃ us : List Nat, is = uI us := by
    refine ⟨is.map Int.toNat, ?_⟩
    unfold uI
    rw [List.map_map]
    conv => lhs; rw [← List.map_id is]
    apply List.map_congr_left
    intro i hi
    have := hx2 i hi
    simp; omega
  have hul : us.length = n := by
    have h := hl
    simp only [tI, uI, List.length_map, rangeL_len] at h
    omega
  refine ⟨s, w, x, us, a', ⟨by omega, by omega, hx, by omega, by omega, fun u hu => ?_⟩, ha', ?_⟩
  · have := hx2 (u : Int) (by unfold uI; exact List.mem_map.mpr ⟨u, hu, rfl⟩)
    omega
  · have pu := pure10 hp
    have hnl : n ≤ 1000000 := by omega
    have e01 : eF (0, 1) = .tup [.int 0, .int 1] := rfl
    have c99 : ((99 : Nat) : Int) = 99 := rfl
    have c100 : ((100 : Nat) : Int) = 100 := rfl
    rw [c99, c100] at k6
    rw [e01] at k7
    clear hr hy1 hy7 hx hq hx2 hl hl2 hul hp hmx e01 c99 c100
    simp only [List.nil_append] at hc
    generalize tI (uI us) = UI at *
    generalize row.map D.int = R at *
    generalize lowD tn w = LW at *
    generalize lowD 99 100 = L9 at *
    generalize eF x = XE at *
    generalize h6 : a + 1 + 1 + 1 + 1 + 1 + 1 = B6 at *
    generalize h5 : a + 1 + 1 + 1 + 1 + 1 = B5 at *
    generalize h4 : a + 1 + 1 + 1 + 1 = B4 at *
    generalize h3 : a + 1 + 1 + 1 = B3 at *
    generalize h2 : a + 1 + 1 = B2 at *
    generalize h1 : a + 1 = B1 at *
    generalize (w : Int) = W at *
    generalize (s : Int) = SS at *
    generalize (tn : Int) = TN at *
    generalize callI G 59 = cl at *
    as_aux_lemma => simp [A1, b_law_2, dcE, k1, k2, k3, k4, k5, k6, k7, k8, hs, hw, hr1, hc, pu, rangeL_len, hnl, getP, -rangeD_1, -bf_max2]
/-! what is meant -/
def mN (s p q : Nat) : Nat → List Nat → List Int
  | _, [] => []
  | T, u :: r => (Er s p q (T + u : Nat) - Er s p q (T : Nat)) :: mN s p q (T + u) r
theorem mN_len {s p q : Nat} : ∀ (us : List Nat) (T : Nat), (mN s p q T us).length = us.length
  | [], _ => rfl
  | u :: us, T => by rw [mN, List.length_cons, mN_len us, List.length_cons]
theorem mN_snoc {s p q : Nat} : ∀ (as : List Nat) (T u : Nat), mN s p q T (as ++ [u]) = mN s p q T as ++ [Er s p q (T + as.sum + u : Nat) - Er s p q (T + as.sum : Nat)]
  | [], T, u => by simp [mN]
  | a :: as, T, u => by
    rw [List.cons_append, mN, mN_snoc as (T + a) u, mN, List.cons_append, List.sum_cons, Nat.add_assoc T]
theorem mN_sum {s p q : Nat} : ∀ (us : List Nat) (T : Nat), (mN s p q T us).sum = Er s p q (T + us.sum : Nat) - Er s p q (T : Nat)
  | [], T => by simp [mN]
  | u :: us, T => by
    rw [mN, List.sum_cons, mN_sum us, List.sum_cons, ← Nat.add_assoc]
    omega
theorem Er_mono {s p q u v : Nat} (hp : p < q) (h : u ≤ v) : Er s p q u ≤ Er s p q v := by
  rw [Er_nat hp, Er_nat hp]
  have h1 : p * u / (q - p) ≤ p * v / (q - p) := Nat.div_le_div_right (Nat.mul_le_mul_left p h)
  generalize p * u / (q - p) = X at *
  generalize p * v / (q - p) = Y at *
  split <;> split <;> omega
theorem Er_0 {s p q : Nat} (hp : p < q) : Er s p q (0 : Nat) = 0 := by
  rw [Er_nat hp]
  simp
theorem mN_nn {s p q : Nat} (hp : p < q) : ∀ (us : List Nat) (T : Nat), ∀ x ∈ mN s p q T us, 0 ≤ x
  | [], _, x, h => by simp [mN] at h
  | u :: us, T, x, h => by
    rcases List.mem_cons.mp h with rfl | h
    · have := Er_mono (s := s) (u := T) (v := T + u) hp (by omega)
      omega
    · exact mN_nn hp us _ x h
theorem inEach_mN {s p q : Nat} (hp : p < q) {us : List Nat} : inEach s p q (uI us) = mN s p q 0 us := by
  have : ∀ (us : List Nat) (T : Nat), stepsFrom (Er s p q (T : Nat)) ((sumsFrom (T : Nat) (uI us)).map (Er s p q)) = mN s p q T us := by
    intro us
    induction us with
    | nil => intro T; rfl
    | cons u us ih =>
      intro T
      have e : ((T : Nat) : Int) + (u : Int) = ((T + u : Nat) : Int) := by omega
      have h := ih (T + u)
      simp only [uI, List.map_cons, sumsFrom, stepsFrom, mN, e] at h ⊢
      rw [h]
  have h := this us 0
  rw [Er_0 hp] at h
  exact h
theorem uI_sum {us : List Nat} : (uI us).sum = (us.sum : Nat) := sum_cast us
theorem sum_bdN {M : Nat} : ∀ {us : List Nat}, (∀ u ∈ us, u ≤ M) → us.sum ≤ M * us.length
  | [], _ => by simp
  | u :: us, h => by
    have ih := sum_bdN (M := M) (us := us) fun v hv => h v (List.mem_cons_of_mem _ hv)
    have := h u (by simp)
    rw [List.sum_cons, List.length_cons, Nat.mul_add]
    omega
theorem take_snocN {us : List Nat} {j : Nat} (h : j < us.length) : us.take (j + 1) = us.take j ++ [us.getD j 0] := by
  rw [List.take_add_one]
  simp [h]
theorem take_sum {us : List Nat} {j : Nat} : (us.take j).sum ≤ us.sum := by
  have : us.sum = (us.take j).sum + (us.drop j).sum := by rw [← List.sum_append, List.take_append_drop]
  omega
theorem b1_turn {s : Nat} {x : Fr} {us : List Nat} {j : Nat} {W : List Int} {e0 e1 e2 e3 e5 e10 e11 e12 e13 e14 e15 e16 e17 e18 e19 e20 e21 : SV} (h : Rd s x us) (hj : j < us.length) (hW : W.length ≤ 1000) :
    ∃ s11 : SV, turn G (callI G 59) 1 (.name 10) b_law_1 (.int (j : Int)) [e0, e1, e2, e3, .d (.int s), e5, .d (eF x), .d (.tup (tI (uI us))), .lst (W.map .int), .d (.int ((us.take j).sum : Nat)), e10, e11, e12, e13, e14, e15, e16, e17, e18, e19, e20, e21] = .nx [e0, e1, e2, e3, .d (.int s), e5, .d (eF x), .d (.tup (tI (uI us))), .lst ((W ++ [Er s x.1 x.2 ((us.take j).sum + us.getD j 0 : Nat) - Er s x.1 x.2 ((us.take j).sum : Nat)]).map .int), .d (.int ((us.take j).sum + us.getD j 0 : Nat)), .d (.int j), s11, e12, e13, e14, e15, e16, e17, e18, e19, e20, e21] := by
  have hsb := sum_bdN (M := 40000) h.ub
  have hl2 := h.l2
  have ts := take_sum (us := us) (j := j)
  have ts1 := take_sum (us := us) (j := j + 1)
  rw [take_snocN hj, List.sum_append, List.sum_singleton] at ts1
  obtain ⟨f1, k1⟩ : ∃ fin, callI G 59 i_law_earned [.d (.int s), .d (eF (x.1, x.2)), .d (.int ((us.take j).sum + us.getD j 0 : Nat))] = .ok (.d (.int (Er s x.1 x.2 ((us.take j).sum + us.getD j 0 : Nat)))) fin := law_earned_ok (k := 54) h.sh.lt h.sh.le (by have := h.s2; omega) (by omega)
  obtain ⟨f2, k2⟩ : ∃ fin, callI G 59 i_law_earned [.d (.int s), .d (eF (x.1, x.2)), .d (.int ((us.take j).sum : Nat))] = .ok (.d (.int (Er s x.1 x.2 ((us.take j).sum : Nat)))) fin := law_earned_ok (k := 54) h.sh.lt h.sh.le (by have := h.s2; omega) (by omega)
  have hi : idxD (.tup (tI (uI us))) (.int (j : Int)) = some (.int (us.getD j 0 : Nat)) := by
    have h1 := Fz.idx (d := .tup (tI (uI us))) (xs := uI us) (i := (j : Int)) (.inl rfl) (by omega) (by unfold uI; simp; omega)
    rw [h1]
    simp [aT, uI, hj]
  refine ⟨.d (.int (Er s x.1 x.2 ((us.take j).sum + us.getD j 0 : Nat))), ?_⟩
  have hW2 : (W.map D.int).length < 1000000 := by simp; omega
  have ea : (W ++ [Er s x.1 x.2 ((us.take j).sum + us.getD j 0 : Nat) - Er s x.1 x.2 ((us.take j).sum : Nat)]).map D.int = W.map D.int ++ [.int (Er s x.1 x.2 ((us.take j).sum + us.getD j 0 : Nat) - Er s x.1 x.2 ((us.take j).sum : Nat))] := by simp
  have ex : eF (x.1, x.2) = eF x := rfl
  rw [ea]
  rw [ex] at k1 k2
  have ec : (((us.take j).sum + us.getD j 0 : Nat) : Int) = ((us.take j).sum : Nat) + (us.getD j 0 : Nat) := Int.natCast_add _ _
  generalize Er s x.1 x.2 ((us.take j).sum : Nat) = E2 at *
  generalize Er s x.1 x.2 ((us.take j).sum + us.getD j 0 : Nat) = E1 at *
  rw [ec] at k1 ⊢
  clear h hj hW ts ts1 hsb hl2 ea ex ec
  generalize (((us.take j).sum : Nat) : Int) = TS at *
  generalize ((us.getD j 0 : Nat) : Int) = UJ at *
  generalize W.map D.int = WW at *
  generalize tI (uI us) = UI at *
  generalize eF x = XE at *
  generalize (s : Int) = SS at *
  generalize (j : Int) = J at *
  generalize callI G 59 = cl at *
  as_aux_lemma => simp [turn, b_law_1, dcE, k1, k2, hi, hW2, getP, -ix_tup]
theorem a2_ok {s : Nat} {x : Fr} {us : List Nat} {e0 e1 e2 e3 e5 e8 e9 e10 e11 e12 e13 e14 e15 e16 e17 e18 e19 e20 e21 : SV} (h : Rd s x us) (hp : Pu e10) : ∃ s10 s11 : SV, Pu s10 ∧ execSs G (callI G 59) 1 A2 [e0, e1, e2, e3, .d (.int s), e5, .d (eF x), .d (.tup (tI (uI us))), e8, e9, e10, e11, e12, e13, e14, e15, e16, e17, e18, e19, e20, e21] = .nx [e0, e1, e2, e3, .d (.int s), e5, .d (eF x), .d (.tup (tI (uI us))), .lst ((mN s x.1 x.2 0 us).map .int), .d (.int (us.sum : Nat)), s10, s11, e12, e13, e14, e15, e16, e17, e18, e19, e20, e21] := by
  obtain ⟨e', hf, s10, s11, hp', rfl⟩ := forL_rngP (f := turn G (callI G 59) 1 (.name 10) b_law_1) (n := us.length) (lo := 0)
    (P := fun i e => ∃ s10 s11 : SV, Pu s10 ∧ e = [e0, e1, e2, e3, .d (.int s), e5, .d (eF x), .d (.tup (tI (uI us))), .lst ((mN s x.1 x.2 0 (us.take i)).map .int), .d (.int ((us.take i).sum : Nat)), s10, s11, e12, e13, e14, e15, e16, e17, e18, e19, e20, e21])
    (e := [e0, e1, e2, e3, .d (.int s), e5, .d (eF x), .d (.tup (tI (uI us))), .lst [], .d (.int 0), e10, e11, e12, e13, e14, e15, e16, e17, e18, e19, e20, e21]) ⟨e10, e11, hp, rfl⟩ (by
    rintro i e hi ⟨s10, s11, hp, rfl⟩
    obtain ⟨u11, ht⟩ := b1_turn (s := s) (x := x) (us := us) (j := i) (W := mN s x.1 x.2 0 (us.take i)) (e0 := e0) (e1 := e1) (e2 := e2) (e3 := e3) (e5 := e5) (e10 := s10) (e11 := s11) (e12 := e12) (e13 := e13) (e14 := e14) (e15 := e15) (e16 := e16) (e17 := e17) (e18 := e18) (e19 := e19) (e20 := e20) (e21 := e21) h hi (by rw [mN_len]; have := h.l2; simp; omega)
    rw [show (0 : Int) + (i : Int) = i by omega]
    refine ⟨_, ht, .d (.int i), u11, .inr ⟨_, rfl⟩, ?_⟩
    rw [take_snocN hi, mN_snoc, List.sum_append, List.sum_singleton, Nat.zero_add])
  rw [List.take_length] at hf
  refine ⟨s10, s11, hp', ?_⟩
  have hlu : bfn .len [.tup (tI (uI us))] = some (.d (.int us.length)) := by
    rw [bf_lenT]
    simp [uI]
  have hr1 : rangeD [.int (us.length : Int)] = some (rangeL 0 us.length) := rangeD_nat (by have := h.l2; omega)
  have z0 : (([] : List Nat).sum : Nat) = 0 := rfl
  clear h hp hp'
  generalize (mN s x.1 x.2 0 us).map D.int = MM at *
  generalize ((us.sum : Nat) : Int) = SU at *
  generalize rangeL 0 us.length = RG at *
  generalize (us.length : Int) = L at *
  generalize tI (uI us) = UI at *
  generalize eF x = XE at *
  generalize callI G 59 = cl at *
  as_aux_lemma => simp [A2, b_law_2, hlu, hr1, hf, -rangeD_1, -bf_lenT]
theorem a3_ok {row : List Int} {a : Int} {s : Nat} {x : Fr} {us : List Nat} {e0 e3 e5 e10 e11 e12 e13 e14 e15 e16 e17 e18 e19 e20 e21 : SV} (hr : Row row) (ha : 0 ≤ a) (h : Rd s x us) : execSs G (callI G 59) 1 A3 [e0, .lst (row.map .int), .lst [.int a], e3, .d (.int s), e5, .d (eF x), .d (.tup (tI (uI us))), .lst ((mN s x.1 x.2 0 us).map .int), .d (.int (us.sum : Nat)), e10, e11, e12, e13, e14, e15, e16, e17, e18, e19, e20, e21] = .nx [e0, .lst (row.map .int), .lst [.int (a + 1 + 1 + 1)], e3, .d (.int s), e5, .d (eF x), .d (.tup (tI (uI us))), .lst ((mN s x.1 x.2 0 us).map .int), .d (.int (us.sum : Nat)), e10, e11, e12, e13, e14, e15, e16, e17, e18, e19, e20, e21] := by
  have hsb := sum_bdN (M := 40000) h.ub
  have hl1 := h.l1
  have hl2 := h.l2
  have hs1 := h.s1
  have hs2 := h.s2
  obtain ⟨t1, ht1, k1⟩ := handed_share (row := row) (a := a) (p := x.1) (q := x.2) hr ha
  obtain ⟨t2, ht2, k2⟩ := handed_ints (row := row) (a := a + 1) (xs := uI us) hr (by omega) (by simp [uI]; omega)
  obtain ⟨t3, ht3, k3⟩ := handed_ints (row := row) (a := a + 1 + 1) (xs := uI us) hr (by omega) (by simp [uI]; omega)
  have ub : ∀ u ∈ uI us, 0 ≤ u ∧ u ≤ 1000000 := by
    intro u hu
    obtain ⟨v, hv, rfl⟩ := List.mem_map.mp hu
    have := h.ub v hv
    omega
  have ul : (uI us).length = us.length := by simp [uI]
  obtain ⟨f4, k4⟩ : ∃ fin, callI G 59 i_recognised [.d (.int s), t1, t2] = .ok (.d (.tup (tI (inEach s x.1 x.2 (uI us))))) fin := recognised_ok (k := 53) ht1 h.sh.shr ht2 ⟨by omega, by omega⟩ (by omega) (by omega) ub
  rw [inEach_mN h.sh.lt] at k4
  obtain ⟨f5, k5⟩ : ∃ fin, callI G 59 i_still_owed [.d (.int s), .d (eF x), t3] = .ok (.d (.int (mx 0 (s - (uI us).sum - Er s x.1 x.2 (uI us).sum)))) fin := still_owed_ok (k := 53) (s := .d (eF x)) (.inl rfl) h.sh.shr ht3 ⟨by omega, by omega⟩ (by omega) (by omega) ub (by rw [uI_sum]; omega)
  rw [uI_sum] at k5
  have hsum : (mN s x.1 x.2 0 us).sum = Er s x.1 x.2 (us.sum : Nat) := by
    rw [mN_sum, Er_0 h.sh.lt, Nat.zero_add]
    omega
  obtain ⟨f6, k6⟩ := so_1 (x := .tup (tI (mN s x.1 x.2 0 us))) (by simp [okSo, mN_len]; omega)
  obtain ⟨f7, k7⟩ := so_1 (x := .int (mx 0 (s - (us.sum : Nat) - Er s x.1 x.2 (us.sum : Nat)))) rfl
  have hm1 : bfn .sum [.lst ((mN s x.1 x.2 0 us).map .int)] = some (.d (.int (Er s x.1 x.2 (us.sum : Nat)))) := by
    rw [bf_sumL, intsD_map, hsum.symm]
    rfl
  have hm2 : ∀ z, bfn .max [.int 0, .int z] = some (.d (.int (mx 0 z))) := fun z => bf_max2
  obtain ⟨mnv, hm3, hmn⟩ : ∃ m : Int, bfn .min [.lst ((mN s x.1 x.2 0 us).map .int)] = some (.d (.int m)) ∧ 0 ≤ m := by
    have nn := mN_nn (s := s) h.sh.lt us 0
    cases q : mN s x.1 x.2 0 us with
    | nil =>
      have := mN_len (s := s) (p := x.1) (q := x.2) us 0
      rw [q] at this
      simp at this
      omega
    | cons y l =>
      rw [q] at nn
      refine ⟨l.foldl mn y, bf_min_int, ?_⟩
      rcases (mn_ok (xs := l) (x := y)).1 with e | e
      · rw [e]; exact nn y (by simp)
      · exact nn _ (List.mem_cons_of_mem _ e)
  have hmn2 : ¬ mnv < 0 := by omega
  have j0 : idxD (eF x) (.int 0) = some (.int x.1) := rfl
  have j1 : idxD (eF x) (.int 1) = some (.int x.2) := rfl
  have hE : Er s x.1 x.2 (us.sum : Nat) ≤ s * x.1 / x.2 ∧ 0 ≤ Er s x.1 x.2 (us.sum : Nat) := by
    have h1 : (s : Int) * x.1 / x.2 = ((s * x.1 / x.2 : Nat) : Int) := by rw [Int.natCast_ediv, Int.natCast_mul]
    rw [h1, Er_nat h.sh.lt]
    generalize s * x.1 / x.2 = A
    generalize x.1 * us.sum / (x.2 - x.1) = B
    split <;> omega
  have hx2 : 0 < x.2 := by have := h.sh.lt; omega
  have hcmp : ¬ (s : Int) * x.1 < Er s x.1 x.2 (us.sum : Nat) * x.2 := by
    have h1 : Er s x.1 x.2 (us.sum : Nat) * x.2 ≤ (s : Int) * x.1 / x.2 * x.2 := Int.mul_le_mul_of_nonneg_right hE.1 (by omega)
    have h2 : (s : Int) * x.1 / x.2 * x.2 ≤ (s : Int) * x.1 := Int.ediv_mul_le _ (by omega)
    omega
  have sm1 : small64 (s : Int) = true := sm_of (by omega)
  have sm2 : small64 (x.2 : Int) = true := sm_of (by have := h.sh.le; omega)
  have hlm : (mN s x.1 x.2 0 us).map D.int = tI (mN s x.1 x.2 0 us) := rfl
  have ex : eF (x.1, x.2) = eF x := rfl
  rw [ex] at k1
  rw [hlm] at hm1 hm3 ⊢
  clear hr h hsb hl1 hl2 hs1 hs2 ht1 ht2 ht3 ub ul hsum hmn hE hx2 hlm ex
  generalize tI (mN s x.1 x.2 0 us) = MM at *
  generalize tI (uI us) = UI at *
  generalize Er s x.1 x.2 (us.sum : Nat) = EE at *
  generalize ((us.sum : Nat) : Int) = SU at *
  generalize row.map D.int = R at *
  generalize eF x = XE at *
  generalize (s : Int) = SS at *
  generalize (x.1 : Int) = X1 at *
  generalize (x.2 : Int) = X2 at *
  generalize h3 : a + 1 + 1 + 1 = B3 at *
  generalize h2 : a + 1 + 1 = B2 at *
  generalize h1 : a + 1 = B1 at *
  generalize callI G 59 = cl at *
  as_aux_lemma => simp [A3, b_law_2, dcE, k1, k2, k3, k4, k5, k6, k7, hm1, hm2, hm3, hmn2, j0, j1, hcmp, sm1, sm2, getP, -bf_max2, -bf_sumL]
theorem b2_turn {row : List Int} {a : Int} {x : D} {e0 e3 e4 e5 e6 e7 e8 e9 e10 e11 e12 e13 e14 e15 e16 e17 e18 e19 e20 e21 : SV} (hr : Row row) (ha : 0 ≤ a) (hp : Pu e10) : ∃ (a' : Int) (s4 s5 s6 s7 s8 s9 s10 s11 : SV), 0 ≤ a' ∧ Pu s10 ∧
    turn G (callI G 59) 1 (.name 3) b_law_2 x [e0, .lst (row.map .int), .lst [.int a], e3, e4, e5, e6, e7, e8, e9, e10, e11, e12, e13, e14, e15, e16, e17, e18, e19, e20, e21] = .nx [e0, .lst (row.map .int), .lst [.int a'], .d x, s4, s5, s6, s7, s8, s9, s10, s11, e12, e13, e14, e15, e16, e17, e18, e19, e20, e21] := by
  obtain ⟨s, w, y, us, a1, hR, ha1, h1⟩ := a1_ok (row := row) (a := a) (e0 := e0) (e3 := .d x) (e4 := e4) (e5 := e5) (e6 := e6) (e7 := e7) (e8 := e8) (e9 := e9) (e10 := e10) (e11 := e11) (e12 := e12) (e13 := e13) (e14 := e14) (e15 := e15) (e16 := e16) (e17 := e17) (e18 := e18) (e19 := e19) (e20 := e20) (e21 := e21) hr ha hp
  obtain ⟨s10, s11, hp', h2⟩ := a2_ok (s := s) (x := y) (us := us) (e0 := e0) (e1 := .lst (row.map .int)) (e2 := .lst [.int a1]) (e3 := .d x) (e5 := .d (.int w)) (e8 := e8) (e9 := e9) (e10 := e10) (e11 := e11) (e12 := e12) (e13 := e13) (e14 := e14) (e15 := e15) (e16 := e16) (e17 := e17) (e18 := e18) (e19 := e19) (e20 := e20) (e21 := e21) hR hp
  have h3 := a3_ok (row := row) (a := a1) (s := s) (x := y) (us := us) (e0 := e0) (e3 := .d x) (e5 := .d (.int w)) (e10 := s10) (e11 := s11) (e12 := e12) (e13 := e13) (e14 := e14) (e15 := e15) (e16 := e16) (e17 := e17) (e18 := e18) (e19 := e19) (e20 := e20) (e21 := e21) hr ha1 hR
  refine ⟨a1 + 1 + 1 + 1, .d (.int s), .d (.int w), .d (eF y), .d (.tup (tI (uI us))), .lst ((mN s y.1 y.2 0 us).map .int), .d (.int (us.sum : Nat)), s10, s11, by omega, hp', ?_⟩
  rw [turnE, as_name, assignN_v, stK]
  show execSs G (callI G 59) 1 b_law_2 [e0, .lst (row.map .int), .lst [.int a], .d x, e4, e5, e6, e7, e8, e9, e10, e11, e12, e13, e14, e15, e16, e17, e18, e19, e20, e21] = _
  rw [b2_split, execSs_seq h1, execSs_seq h2, h3]
end K17
end

section
set_option maxRecDepth 100000
set_option maxHeartbeats 0
open Ip K17
namespace K17
def T4 : List CS := (b_law.drop 12).take 4
def T5 : List CS := b_law.drop 16
theorem faults_ok {e0 e1 e2 e3 e4 e5 e6 e7 e8 e9 e10 e11 e12 e13 e14 e15 e16 e17 e18 e19 e20 e21 : SV} : ∃ x, execSs G (callI G 59) 1 T4 [e0, e1, e2, e3, e4, e5, e6, e7, e8, e9, e10, e11, e12, e13, e14, e15, e16, e17, e18, e19, e20, e21] =
  .nx [e0, e1, e2, e3, e4, e5, e6, e7, e8, e9, e10, e11, e12, e13, e14, e15, e16, e17, e18, .d x, e20, e21] := ⟨.tup (List.replicate 21 (.tup [.int 5, .int 5])), by kernel_rfl⟩
theorem last_ok {e0 e1 e2 e3 e4 e5 e6 e7 e8 e9 e10 e11 e12 e13 e14 e15 e16 e17 e18 e19 e20 e21 : SV} : execSs G (callI G 59) 1 T5 [e0, e1, e2, e3, e4, e5, e6, e7, e8, e9, e10, e11, e12, e13, e14, e15, e16, e17, e18, e19, e20, e21] =
  .rt (.d (.bl true)) [e0, e1, e2, e3, e4, e5, e6, e7, e8, e9, e10, e11, e12, e13, e14, e15, e16, e17, e18, e19, e20, e21] := by kernel_rfl
end K17
end

section
set_option maxRecDepth 100000
set_option maxHeartbeats 0
set_option linter.unusedSimpArgs false
set_option linter.unusedVariables false
open Ip K17
namespace K17
theorem cut_take {x : List D} {t : Nat} : cut x none (some (t : Int)) = x.take t := by
  unfold cut cutIx
  dsimp only
  rw [if_neg (by omega), Nat.sub_zero, List.drop_zero, Int.toNat_natCast]
  by_cases h : t ≤ x.length
  · rw [show min t x.length = t by omega]
  · rw [show min t x.length = x.length by omega, List.take_of_length_le (by omega), List.take_of_length_le (by omega)]
theorem cut_drop {x : List D} {t : Nat} : cut x (some (t : Int)) none = x.drop t := by
  unfold cut cutIx
  dsimp only
  rw [if_neg (by omega), Int.toNat_natCast]
  by_cases h : t ≤ x.length
  · rw [show min t x.length = t by omega, List.take_of_length_le (by rw [List.length_drop]; omega)]
  · rw [show min t x.length = x.length by omega, Nat.sub_self, List.take_zero, List.drop_eq_nil_of_le (by omega)]
/-! drawing the cards -/
def CT : CE := .tup [.var 21, .call 31 [.var 1, .var 2, .bin .add (.var 21) (.cst (.int 1))]]
theorem cards_comp {row : List Int} {e0 e3 e4 e5 e6 e7 e8 e9 e10 e11 e12 e13 e14 e15 e16 e17 e18 e19 e20 : SV} (hr : Row row) : ∀ (w : List Nat) (acc : List D) (a : Int), 0 ≤ a → ∃ (t : TL) (a' : Int), t.map (·.1) = w ∧ (∀ p ∈ t, p.2 ≤ p.1) ∧ 0 ≤ a' ∧
    compL (cturn G (callI G 59) [21] (.name 21) [] CT) (w.map fun (n : Nat) => D.int n) acc [e0, .lst (row.map .int), .lst [.int a], e3, e4, e5, e6, e7, e8, e9, e10, e11, e12, e13, e14, e15, e16, e17, e18, e19, e20, .un] = .ok (acc ++ t.map stD) [e0, .lst (row.map .int), .lst [.int a'], e3, e4, e5, e6, e7, e8, e9, e10, e11, e12, e13, e14, e15, e16, e17, e18, e19, e20, .un]
  | [], acc, a, ha => ⟨[], a, rfl, by simp, ha, by simp [compL]⟩
  | n :: w, acc, a, ha => by
    obtain ⟨v, p1, p2, k1⟩ : ∃ v, 0 ≤ v ∧ v < ((n : Int) + 1) ∧ callI G 59 i_law_take [.lst (row.map .int), .lst [.int a], .d (.int ((n : Int) + 1))] = .ok (.d (.int v)) [.lst (row.map .int), .lst [.int (a + 1)], .d (.int ((n : Int) + 1))] := law_take_ok (k := 57) hr ha (by omega)
    obtain ⟨m, rfl⟩ : ∃ m : Nat, v = m := ⟨v.toNat, by omega⟩
    obtain ⟨t, a', h1, h2, h3, h4⟩ := cards_comp (e0 := e0) (e3 := e3) (e4 := e4) (e5 := e5) (e6 := e6) (e7 := e7) (e8 := e8) (e9 := e9) (e10 := e10) (e11 := e11) (e12 := e12) (e13 := e13) (e14 := e14) (e15 := e15) (e16 := e16) (e17 := e17) (e18 := e18) (e19 := e19) (e20 := e20) hr w (acc ++ [stD (n, m)]) (a + 1) (by omega)
    refine ⟨(n, m) :: t, a', ?_, ?_, h3, ?_⟩
    · rw [List.map_cons, h1]
    · intro q hq
      rcases List.mem_cons.mp hq with rfl | hq
      · dsimp only; omega
      · exact h2 q hq
    · have st : cturn G (callI G 59) [21] (.name 21) [] CT (.int (n : Int)) [e0, .lst (row.map .int), .lst [.int a], e3, e4, e5, e6, e7, e8, e9, e10, e11, e12, e13, e14, e15, e16, e17, e18, e19, e20, .un] = .ok (some (stD (n, m))) [e0, .lst (row.map .int), .lst [.int (a + 1)], e3, e4, e5, e6, e7, e8, e9, e10, e11, e12, e13, e14, e15, e16, e17, e18, e19, e20, .un] := by
        have e : stD (n, m) = .tup [.int n, .int m] := rfl
        rw [e]
        clear h1 h2 h3 h4 hr e
        generalize (n : Int) = A at *
        generalize (m : Int) = MM at *
        generalize row.map D.int = R at *
        generalize a + 1 = A1 at *
        generalize callI G 59 = cl at *
        as_aux_lemma => simp [cturn, CT, dcE, k1, getP]
      rw [List.map_cons, compL, st]
      dsimp only
      rw [h4, List.append_assoc]
      rfl
def T1 : List CS := (b_law.drop 3).take 1
theorem t1_ok {row : List Int} {a : Int} {e0 e3 e4 e5 e6 e7 e8 e9 e10 e11 e13 e14 e15 e16 e17 e18 e19 e20 : SV} (hr : Row row) (ha : 0 ≤ a) (hp : Pu e10) : ∃ (t : TL) (a' : Int), Cd t ∧ t.length ≤ 10 ∧ 0 ≤ a' ∧ execSs G (callI G 59) 1 T1 [e0, .lst (row.map .int), .lst [.int a], e3, e4, e5, e6, e7, e8, e9, e10, e11, .un, e13, e14, e15, e16, e17, e18, e19, e20, .un] = .nx [e0, .lst (row.map .int), .lst [.int a'], e3, e4, e5, e6, e7, e8, e9, e10, e11, .d (tlD t), e13, e14, e15, e16, e17, e18, e19, e20, .un] := by
  obtain ⟨t8, p7, p8, k8⟩ : ∃ t, 0 ≤ t ∧ t < (9 : Int) ∧ callI G 59 i_law_take [.lst (row.map .int), .lst [.int a], .d (.int 9)] = .ok (.d (.int t)) [.lst (row.map .int), .lst [.int (a + 1)], .d (.int 9)] := law_take_ok (k := 57) hr (by omega) (by omega)
  obtain ⟨n, hn⟩ : ∃ n : Nat, 1 + t8 = n := ⟨(1 + t8).toNat, by omega⟩
  have hr1 : rangeD [.int (1 + t8)] = some (rangeL 0 n) := by rw [hn]; exact rangeD_nat (by omega)
  obtain ⟨ys, e', hc, hl, hq, a1, ha1, rfl⟩ := compL_inv (P := fun e => ∃ a : Int, 0 ≤ a ∧ e = [e0, .lst (row.map .int), .lst [.int a], e3, e4, e5, e6, e7, e8, e9, e10, e11, .un, e13, e14, e15, e16, e17, e18, e19, e20, .un]) (Q := fun y => ∃ i, y = .int i ∧ 1 ≤ i ∧ i ≤ 1000)
    (f := cturn G (callI G 59) [10] (.name 10) [] (.bin .add (.cst (.int 1)) (.call 31 [.var 1, .var 2, .call 34 [.var 1, .var 2, .lst [.cst (.int 4), .cst (.int 60), .cst (.int 997)]]]))) (rangeL 0 n) [] [e0, .lst (row.map .int), .lst [.int (a + 1)], e3, e4, e5, e6, e7, e8, e9, e10, e11, .un, e13, e14, e15, e16, e17, e18, e19, e20, .un] ⟨_, by omega, rfl⟩ (by
    rintro y hy e ⟨a, ha, rfl⟩
    obtain ⟨i, hi, rfl⟩ := mem_rangeL hy
    obtain ⟨z, hz, g1⟩ : ∃ x ∈ [D.int 4, .int 60, .int 997], callI G 59 i_law_pick [.lst (row.map .int), .lst [.int a], .lst [D.int 4, .int 60, .int 997]] = _ := law_pick_D (k := 56) (a := a) (xs := [.int 4, .int 60, .int 997]) hr ha (by simp) (by simp)
    obtain ⟨l, rfl, b1, b2⟩ : ∃ l : Int, z = .int l ∧ 1 ≤ l ∧ l ≤ 997 := by
      simp only [List.mem_cons, List.not_mem_nil, or_false] at hz
      rcases hz with rfl | rfl | rfl <;> exact ⟨_, rfl, by omega, by omega⟩
    obtain ⟨u, c1, c2, g2⟩ : ∃ t, 0 ≤ t ∧ t < l ∧ callI G 59 i_law_take [.lst (row.map .int), .lst [.int (a + 1)], .d (.int l)] = .ok (.d (.int t)) [.lst (row.map .int), .lst [.int (a + 1 + 1)], .d (.int l)] := law_take_ok (k := 57) hr (by omega) (by omega)
    refine ⟨.int (1 + u), _, ?_, ⟨_, rfl, by omega, by omega⟩, a + 1 + 1, by omega, rfl⟩
    have pu := pure10 hp
    clear hr k8 hr1 hz hp
    generalize row.map D.int = R at *
    generalize h2 : a + 1 + 1 = B2 at *
    generalize h1 : a + 1 = B1 at *
    generalize callI G 59 = cl at *
    as_aux_lemma => simp [cturn, dcE, g1, g2, getP, pu])
  obtain ⟨is, rfl, hl2, hx2⟩ := ints_of hq
  obtain ⟨w, rfl⟩ : ∃ w : List Nat, is = uI w := by
    refine ⟨is.map Int.toNat, ?_⟩
    unfold uI
    rw [List.map_map]
    conv => lhs; rw [← List.map_id is]
    apply List.map_congr_left
    intro i hi
    have := hx2 i hi
    simp; omega
  have hwl : w.length = n := by
    have h := hl
    simp only [tI, uI, List.length_map, rangeL_len] at h
    omega
  have ew : tI (uI w) = w.map fun (n : Nat) => D.int n := by simp [tI, uI]
  obtain ⟨t, a2, ht1, ht2, ha2, k9⟩ := cards_comp (row := row) (e0 := e0) (e3 := e3) (e4 := e4) (e5 := e5) (e6 := e6) (e7 := e7) (e8 := e8) (e9 := e9) (e10 := e10) (e11 := e11) (e12 := .un) (e13 := e13) (e14 := e14) (e15 := e15) (e16 := e16) (e17 := e17) (e18 := e18) (e19 := e19) (e20 := e20) hr w [] a1 ha1
  have htl : t.length = n := by rw [← hwl, ← ht1, List.length_map]
  refine ⟨t, a2, ⟨by omega, by omega, fun p hp => ?_⟩, by omega, ha2, ?_⟩
  · have h1 : (p.1 : Int) ∈ uI w := by
      rw [← ht1]
      unfold uI
      exact List.mem_map.mpr ⟨p.1, List.mem_map.mpr ⟨p, hp, rfl⟩, rfl⟩
    have := hx2 _ h1
    exact ⟨by omega, by omega, ht2 p hp⟩
  · have pu := pure10 hp
    have hnl : n ≤ 1000000 := by omega
    have hwl2 : (w.map fun (n : Nat) => D.int n).length ≤ 1000000 := by simp; omega
    have e2 : D.tup (t.map stD) = tlD t := rfl
    rw [ew] at hc
    rw [← e2]
    simp only [List.nil_append] at hc k9
    clear hr hq hx2 hl hl2 hwl hp ht1 ht2 htl e2 ew
    unfold CT at k9
    generalize t.map stD = TS at *
    generalize w.map (fun (n : Nat) => D.int n) = WW at *
    generalize row.map D.int = R at *
    generalize h1 : a + 1 = B1 at *
    generalize callI G 59 = cl at *
    as_aux_lemma => simp [T1, b_law, dcE, k8, k9, hr1, hc, pu, rangeL_len, hnl, hwl2, getP, -rangeD_1]
/-! the share of all -/
def T2 : List CS := (b_law.drop 4).take 2
theorem eF_so {x : Fr} : ∃ fin, callI G 59 i_law_so [.d (eF x), .d (eF x)] = .ok (.d (.bl true)) fin := so_1 (by simp [okSo, eF, frD])
theorem t2_ok {row : List Int} {a : Int} {t : TL} {e0 e3 e4 e5 e6 e7 e8 e9 e10 e11 e13 e14 e15 e16 e17 e18 e19 e21 : SV} (hr : Row row) (ha : 0 ≤ a) (h : Cd t) : execSs G (callI G 59) 1 T2 [e0, .lst (row.map .int), .lst [.int a], e3, e4, e5, e6, e7, e8, e9, e10, e11, .d (tlD t), e13, e14, e15, e16, e17, e18, e19, .un, e21] = .nx [e0, .lst (row.map .int), .lst [.int (a + 1)], e3, .d (.int (soldN t)), e5, e6, e7, e8, e9, e10, e11, .d (tlD t), e13, e14, e15, e16, e17, e18, e19, .un, e21] := by
  have hb := spent_le h.px
  have hl2 := h.l2
  have hl1 := h.l1
  obtain ⟨s, hs, k1⟩ := handed_cards (row := row) (a := a) (t := t) hr ha (by omega)
  obtain ⟨f2, k2⟩ : ∃ fin, callI G 59 i_share_of [s] = .ok (.d (eF (low (soldN t - spentN t) (soldN t)))) fin := share_of_ok (k := 54) h hs
  obtain ⟨f3, k3⟩ : ∃ fin, callI G 59 i_law_red [.d (.int (soldN t - spentN t : Nat)), .d (.int (soldN t))] = .ok (.d (lowD (soldN t - spentN t) (soldN t))) fin := law_red_ok (k := 57) (by omega) (by omega)
  rw [low_eF, Int.ofNat_sub hb.1] at k3
  obtain ⟨f4, k4⟩ := eF_so (x := low (soldN t - spentN t) (soldN t))
  have hc1 : compL (cturn G (callI G 59) [20] (.name 20) [] (.idx (.var 20) (.cst (.int 0)))) (t.map stD) [] [e0, .lst (row.map .int), .lst [.int a], e3, e4, e5, e6, e7, e8, e9, e10, e11, .d (tlD t), e13, e14, e15, e16, e17, e18, e19, .un, e21] = .ok ((t.map (·.1)).map fun (x : Nat) => D.int x) [e0, .lst (row.map .int), .lst [.int a], e3, e4, e5, e6, e7, e8, e9, e10, e11, .d (tlD t), e13, e14, e15, e16, e17, e18, e19, .un, e21] := by
    rw [compL_each (fun z => match z with | .tup [x, _] => x | _ => .non) (t.map stD) _ (by
      intro z hz
      obtain ⟨p, hp, rfl⟩ := List.mem_map.mp hz
      have j0 : idxD (stD p) (.int 0) = some (.int p.1) := rfl
      have e : (match stD p with | .tup [x, _] => x | _ => .non) = .int p.1 := rfl
      rw [e]
      clear k1 k2 k3 k4 hs e hr h
      generalize stD p = P at *
      generalize (p.1 : Int) = P1 at *
      generalize row.map D.int = R at *
      generalize tlD t = T at *
      generalize callI G 59 = cl at *
      as_aux_lemma => simp [cturn, j0, -ix_tup])]
    refine congrArg (fun z => R.ok z _) ?_
    rw [List.map_map, List.map_map]
    rfl
  have hc2 : compL (cturn G (callI G 59) [20] (.name 20) [] (.idx (.var 20) (.cst (.int 1)))) (t.map stD) [] [e0, .lst (row.map .int), .lst [.int (a + 1)], e3, .d (.int (soldN t)), e5, e6, e7, e8, e9, e10, e11, .d (tlD t), e13, e14, e15, e16, e17, e18, e19, .un, e21] = .ok ((t.map (·.2)).map fun (x : Nat) => D.int x) [e0, .lst (row.map .int), .lst [.int (a + 1)], e3, .d (.int (soldN t)), e5, e6, e7, e8, e9, e10, e11, .d (tlD t), e13, e14, e15, e16, e17, e18, e19, .un, e21] := by
    rw [compL_each (fun z => match z with | .tup [_, x] => x | _ => .non) (t.map stD) _ (by
      intro z hz
      obtain ⟨p, hp, rfl⟩ := List.mem_map.mp hz
      have j0 : idxD (stD p) (.int 1) = some (.int p.2) := rfl
      have e : (match stD p with | .tup [_, x] => x | _ => .non) = .int p.2 := rfl
      rw [e]
      clear k1 k2 k3 k4 hs e hr h
      generalize stD p = P at *
      generalize (p.2 : Int) = P1 at *
      generalize row.map D.int = R at *
      generalize tlD t = T at *
      generalize callI G 59 = cl at *
      as_aux_lemma => simp [cturn, j0, -ix_tup])]
    refine congrArg (fun z => R.ok z _) ?_
    rw [List.map_map, List.map_map]
    rfl
  have b1 : bfn .sum [.lst ((t.map (·.1)).map fun (x : Nat) => D.int x)] = some (.d (.int (soldN t))) := bf_sumN
  have b2 : bfn .sum [.lst ((t.map (·.2)).map fun (x : Nat) => D.int x)] = some (.d (.int (spentN t))) := bf_sumN
  have hit : itemsD (tlD t) = some (t.map stD) := rfl
  have hll : (t.map stD).length ≤ 1000000 := by simp; omega
  clear hr hs h hb hl2 hl1
  generalize (t.map (·.1)).map (fun (x : Nat) => D.int x) = L1 at *
  generalize (t.map (·.2)).map (fun (x : Nat) => D.int x) = L2 at *
  generalize eF (low (soldN t - spentN t) (soldN t)) = XE at *
  generalize (soldN t : Int) = SO at *
  generalize (spentN t : Int) = SP at *
  generalize t.map stD = TS at *
  generalize tlD t = T at *
  generalize row.map D.int = R at *
  generalize h1 : a + 1 = B1 at *
  generalize callI G 59 = cl at *
  as_aux_lemma => simp [T2, b_law, dcE, k1, k2, k3, k4, hc1, hc2, b1, b2, hit, hll, getP, -bf_sumL, -items_tup]
/-! the parts in their order -/
def T3 : List CS := (b_law.drop 6).take 3
def lsD (x : Fr) (z : D) : Option D := match z with
  | .tup [.int a, .int b] => if ltF x (a.toNat, b.toNat) then none else some z
  | _ => none
theorem ls_eq {x : Fr} : ∀ L : List Fr, (L.map eF).filterMap (lsD x) = (L.filter fun y => !ltF x y).map eF
  | [] => rfl
  | y :: L => by
    have ih := ls_eq (x := x) L
    have e : lsD x (eF y) = if ltF x y then none else some (eF y) := by
      show (if ltF x ((y.1 : Int).toNat, (y.2 : Int).toNat) then none else some (eF y)) = _
      rw [Int.toNat_natCast, Int.toNat_natCast]
    rw [List.map_cons, List.filterMap_cons, e, List.filter_cons]
    cases q : ltF x y <;> simp [ih]
theorem b3_turn {x : Fr} {L : List Fr} {e0 e1 e2 e3 e4 e5 e6 e7 e8 e9 e10 e11 e12 e13 e15 e16 e17 e18 e19 e21 : SV} (hx : Ok2 x 1000 1000) (hL : Pt L) (hl : L.length < 100) :
    turn G (callI G 59) 1 (.name 15) b_law_3 (eF x) [e0, e1, e2, e3, e4, e5, e6, e7, e8, e9, e10, e11, e12, e13, .lst (L.map eF), e15, e16, e17, e18, e19, .un, e21] = .nx [e0, e1, e2, e3, e4, e5, e6, e7, e8, e9, e10, e11, e12, e13, .lst ((insF x L).map eF), .d (eF x), .d (.int (cntF x L)), e17, e18, e19, .un, e21] := by
  have hc : compL (cturn G (callI G 59) [20] (.name 20) [.not (.call 41 [.var 15, .var 20])] (.var 20)) (L.map eF) [] [e0, e1, e2, e3, e4, e5, e6, e7, e8, e9, e10, e11, e12, e13, .d (.lst (L.map eF)), .d (eF x), e16, e17, e18, e19, .un, e21] = .ok ((L.filter fun y => !ltF x y).map eF) [e0, e1, e2, e3, e4, e5, e6, e7, e8, e9, e10, e11, e12, e13, .d (.lst (L.map eF)), .d (eF x), e16, e17, e18, e19, .un, e21] := by
    rw [compL_map (lsD x) (L.map eF) [] _ (by
      intro z hz
      obtain ⟨y, hy, rfl⟩ := List.mem_map.mp hz
      have k1 : callI G 59 i_law_less [.d (eF x), .d (eF y)] = _ := less_ok (k := 58) hx (hL.ok y hy) (by omega) (by omega)
      have e : lsD x (eF y) = if ltF x y then none else some (eF y) := by
        show (if ltF x ((y.1 : Int).toNat, (y.2 : Int).toNat) then none else some (eF y)) = _
        rw [Int.toNat_natCast, Int.toNat_natCast]
      rw [e]
      clear hx hL hl hz e
      generalize eF x = XE at *
      generalize eF y = YE at *
      generalize L.map eF = LL at *
      generalize callI G 59 = cl at *
      cases q : ltF x y <;> rw [q] at k1
      · as_aux_lemma => simp [cturn, dcE, k1, truD]
      · as_aux_lemma => simp [cturn, dcE, k1, truD]), ls_eq]
    rfl
  have hln : bfn .len [.lst ((L.filter fun y => !ltF x y).map eF)] = some (.d (.int (cntF x L))) := by
    rw [bf_lenL, List.length_map]
    rfl
  have hin : (L.map eF).take (cntF x L) ++ [eF x] ++ (L.map eF).drop (cntF x L) = (insF x L).map eF := by
    rw [← ins_cut hx.d0 L hL.asc fun y hy => (hL.ok y hy).d0]
    simp
  have c1 : cut (L.map eF) none (some ((cntF x L : Nat) : Int)) = (L.map eF).take (cntF x L) := cut_take
  have c2 : cut (L.map eF) (some ((cntF x L : Nat) : Int)) none = (L.map eF).drop (cntF x L) := cut_drop
  have q1 : ((L.map eF).take (cntF x L)).length + [eF x].length ≤ 1000000 := by simp; omega
  have q2 : ((L.map eF).take (cntF x L) ++ [eF x]).length + ((L.map eF).drop (cntF x L)).length ≤ 1000000 := by simp; omega
  have q3 : (L.map eF).length ≤ 1000000 := by simp; omega
  have m1 : bop .add (.lst ((L.map eF).take (cntF x L))) (.lst [eF x]) = some (.lst ((L.map eF).take (cntF x L) ++ [eF x])) := if_pos q1
  have m2 : bop .add (.lst ((L.map eF).take (cntF x L) ++ [eF x])) (.lst ((L.map eF).drop (cntF x L))) = some (.lst ((insF x L).map eF)) := by
    rw [← hin]
    exact if_pos q2
  have s1 : slcD (.lst (L.map eF)) none (some ((cntF x L : Nat) : Int)) = some (.lst ((L.map eF).take (cntF x L))) := by rw [sl_lst, c1]
  have s2 : slcD (.lst (L.map eF)) (some ((cntF x L : Nat) : Int)) none = some (.lst ((L.map eF).drop (cntF x L))) := by rw [sl_lst, c2]
  clear hx hL hl hin c1 c2 q1 q2
  generalize (L.map eF).take (cntF x L) ++ [eF x] = M1 at *
  generalize (L.map eF).take (cntF x L) = M2 at *
  generalize (L.map eF).drop (cntF x L) = M3 at *
  generalize (L.filter fun y => !ltF x y).map eF = M4 at *
  generalize (insF x L).map eF = M5 at *
  generalize L.map eF = LL at *
  generalize ((cntF x L : Nat) : Int) = CN at *
  generalize eF x = XE at *
  generalize callI G 59 = cl at *
  as_aux_lemma => simp [turn, b_law_3, dcE, hc, hln, s1, s2, m1, m2, q3, -bf_lenL, -sl_lst]
theorem b3_loop {e0 e1 e2 e3 e4 e5 e6 e7 e8 e9 e10 e11 e12 e13 e17 e18 e19 e21 : SV} : ∀ (xs L : List Fr) (e15 e16 : SV), (∀ x ∈ xs, Ok2 x 1000 1000) → Pt L → L.length + xs.length < 100 → ∃ s15 s16 : SV,
    forL (turn G (callI G 59) 1 (.name 15) b_law_3) (xs.map eF) [e0, e1, e2, e3, e4, e5, e6, e7, e8, e9, e10, e11, e12, e13, .lst (L.map eF), e15, e16, e17, e18, e19, .un, e21] = .nx [e0, e1, e2, e3, e4, e5, e6, e7, e8, e9, e10, e11, e12, e13, .lst ((sortF xs L).map eF), s15, s16, e17, e18, e19, .un, e21]
  | [], L, e15, e16, _, _, _ => ⟨e15, e16, rfl⟩
  | x :: xs, L, e15, e16, hx, hL, hl => by
    rw [List.length_cons] at hl
    have hx0 := hx x (by simp)
    obtain ⟨u2, u3, ih⟩ := b3_loop (e0 := e0) (e1 := e1) (e2 := e2) (e3 := e3) (e4 := e4) (e5 := e5) (e6 := e6) (e7 := e7) (e8 := e8) (e9 := e9) (e10 := e10) (e11 := e11) (e12 := e12) (e13 := e13) (e17 := e17) (e18 := e18) (e19 := e19) (e21 := e21) xs (insF x L) (.d (eF x)) (.d (.int (cntF x L))) (fun y hy => hx y (List.mem_cons_of_mem _ hy)) (hL.ins hx0 (by omega)) (by rw [ins_len]; omega)
    refine ⟨u2, u3, ?_⟩
    rw [List.map_cons, forL_nx (b3_turn hx0 hL (by omega)), ih]
    rfl
theorem t3_ok {t : TL} {e0 e1 e2 e3 e4 e5 e6 e7 e8 e9 e10 e11 e13 e14 e15 e16 e17 e18 e19 e21 : SV} (h : Cd t) : ∃ s15 s16 : SV, execSs G (callI G 59) 1 T3 [e0, e1, e2, e3, e4, e5, e6, e7, e8, e9, e10, e11, .d (tlD t), e13, e14, e15, e16, e17, e18, e19, .un, e21] = .nx [e0, e1, e2, e3, e4, e5, e6, e7, e8, e9, e10, e11, .d (tlD t), .d (.lst ((partsF t).map eF)), .lst ((sortF (partsF t) []).map eF), s15, s16, e17, e18, e19, .un, e21] := by
  have hl2 := h.l2
  have hpl : (partsF t).length = t.length := by simp [partsF]
  have hc : compL (cturn G (callI G 59) [20] (.name 20) [] (.call 37 [.bin .sub (.idx (.var 20) (.cst (.int 0))) (.idx (.var 20) (.cst (.int 1))), .idx (.var 20) (.cst (.int 0))])) (t.map stD) [] [e0, e1, e2, e3, e4, e5, e6, e7, e8, e9, e10, e11, .d (tlD t), e13, e14, e15, e16, e17, e18, e19, .un, e21] = .ok ((partsF t).map eF) [e0, e1, e2, e3, e4, e5, e6, e7, e8, e9, e10, e11, .d (tlD t), e13, e14, e15, e16, e17, e18, e19, .un, e21] := by
    rw [compL_each (fun z => match z with | .tup [.int a, .int b] => eF (low (a.toNat - b.toNat) a.toNat) | _ => .non) (t.map stD) _ (by
      intro z hz
      obtain ⟨p, hp, rfl⟩ := List.mem_map.mp hz
      have hq := h.px p hp
      have j0 : idxD (stD p) (.int 0) = some (.int p.1) := rfl
      have j1 : idxD (stD p) (.int 1) = some (.int p.2) := rfl
      obtain ⟨f3, k3⟩ : ∃ fin, callI G 59 i_law_red [.d (.int (p.1 - p.2 : Nat)), .d (.int p.1)] = .ok (.d (lowD (p.1 - p.2) p.1)) fin := law_red_ok (k := 57) (by omega) (by omega)
      rw [low_eF, Int.ofNat_sub (by omega)] at k3
      have e : (match stD p with | .tup [.int a, .int b] => eF (low (a.toNat - b.toNat) a.toNat) | _ => .non) = eF (low (p.1 - p.2) p.1) := by simp [stD]
      rw [e]
      clear e h hq hz hp hl2 hpl
      generalize eF (low (p.1 - p.2) p.1) = RR at *
      generalize stD p = P at *
      generalize (p.1 : Int) = P1 at *
      generalize (p.2 : Int) = P2 at *
      generalize tlD t = T at *
      generalize callI G 59 = cl at *
      as_aux_lemma => simp [cturn, dcE, j0, j1, k3, -ix_tup])]
    refine congrArg (fun z => R.ok z _) ?_
    unfold partsF
    rw [List.map_map, List.map_map]
    apply List.map_congr_left
    intro p _
    simp [stD]
  obtain ⟨s15, s16, hf⟩ := b3_loop (e0 := e0) (e1 := e1) (e2 := e2) (e3 := e3) (e4 := e4) (e5 := e5) (e6 := e6) (e7 := e7) (e8 := e8) (e9 := e9) (e10 := e10) (e11 := e11) (e12 := .d (tlD t)) (e13 := .d (.lst ((partsF t).map eF))) (e17 := e17) (e18 := e18) (e19 := e19) (e21 := e21) (partsF t) [] e15 e16 (parts_ok h) Pt.nil (by rw [hpl]; simp; omega)
  have n0 : ([] : List Fr).map eF = [] := rfl
  rw [n0] at hf
  refine ⟨s15, s16, ?_⟩
  have hit : itemsD (tlD t) = some (t.map stD) := rfl
  have hll : (t.map stD).length ≤ 1000000 := by simp; omega
  have hll2 : ((partsF t).map eF).length ≤ 1000000 := by rw [List.length_map, hpl]; omega
  clear h hl2 hpl n0
  generalize (sortF (partsF t) []).map eF = SO at *
  generalize (partsF t).map eF = PF at *
  generalize t.map stD = TS at *
  generalize tlD t = T at *
  generalize callI G 59 = cl at *
  as_aux_lemma => simp [T3, b_law, dcE, hc, hf, hit, hll, hll2, getP, -items_tup]
/-! the middle one -/
def T3b : List CS := (b_law.drop 9).take 3
theorem low_1 {X : Fr} : low (X.1 * 1) (X.2 * 2) = low X.1 (X.2 * 2) := by rw [Nat.mul_one]
theorem t3b_ok {row : List Int} {a : Int} {t : TL} {e0 e3 e4 e5 e6 e7 e8 e9 e10 e11 e13 e15 e16 e17 e18 e19 e21 : SV} (hr : Row row) (ha : 0 ≤ a) (h : Cd t) : ∃ s17 : SV, execSs G (callI G 59) 1 T3b [e0, .lst (row.map .int), .lst [.int a], e3, e4, e5, e6, e7, e8, e9, e10, e11, .d (tlD t), e13, .lst ((sortF (partsF t) []).map eF), e15, e16, e17, e18, e19, .un, e21] = .nx [e0, .lst (row.map .int), .lst [.int (a + 1)], e3, e4, e5, e6, e7, e8, e9, e10, e11, .d (tlD t), e13, .lst ((sortF (partsF t) []).map eF), e15, e16, s17, .d (eF (midF (sortF (partsF t) []))), e19, .un, e21] := by
  have hl1 := h.l1
  have hl2 := h.l2
  have hpl : (partsF t).length = t.length := by simp [partsF]
  obtain ⟨hP, hPl⟩ := sort_Pt (partsF t) [] (parts_ok h) Pt.nil (by rw [hpl]; simp; omega)
  obtain ⟨s, hs, k1⟩ := handed_cards (row := row) (a := a) (t := t) hr ha (by omega)
  obtain ⟨f2, k2⟩ : ∃ fin, callI G 59 i_middle_share [s] = .ok (.d (eF (midF (sortF (partsF t) [])))) fin := middle_share_ok (k := 54) h hs
  obtain ⟨f4, k4⟩ := eF_so (x := midF (sortF (partsF t) []))
  rw [List.length_nil, Nat.zero_add, hpl] at hPl
  generalize sortF (partsF t) [] = S at *
  have hln : bfn .len [.lst (S.map eF)] = some (.d (.int S.length)) := by rw [bf_lenL, List.length_map]
  have hh : ((S.length : Int) / 2) = ((S.length / 2 : Nat) : Int) := by omega
  have hhl : S.length / 2 < S.length := by omega
  have i1 : idxD (.lst (S.map eF)) (.int ((S.length : Int) / 2)) = some (eF (S.getD (S.length / 2) (0, 1))) := idx_F _ hh hhl
  have bi : ∀ z : Int, bfn .int [.int z] = some (.d (.int z)) := fun z => by simp
  refine ⟨.d (.int ((S.length : Int) / 2)), ?_⟩
  by_cases ho : S.length % 2 = 1
  · have hm : midF S = S.getD (S.length / 2) (0, 1) := by unfold midF; rw [if_pos ho]
    have ho1 : (S.length : Int) % 2 = 1 := by omega
    rw [hm] at k2 k4 ⊢
    clear hP hPl hs h hl1 hl2 hpl hh hhl ho hm hr
    generalize eF (S.getD (S.length / 2) (0, 1)) = RR at *
    generalize S.map eF = SS at *
    generalize (S.length : Int) = N at *
    generalize tlD t = T at *
    generalize row.map D.int = R at *
    generalize h1 : a + 1 = B1 at *
    generalize callI G 59 = cl at *
    as_aux_lemma => simp [T3b, b_law, dcE, k1, k2, k4, hln, i1, ho1, getP, -ix_lst, -bf_lenL]
  · have i2 : idxD (.lst (S.map eF)) (.int ((S.length : Int) / 2 - 1)) = some (eF (S.getD (S.length / 2 - 1) (0, 1))) := idx_F _ (by omega) (by omega)
    have m1 := hP.ok _ (getD_mem (d := (0, 1)) hhl)
    have m2 := hP.ok _ (getD_mem (d := (0, 1)) (show S.length / 2 - 1 < S.length by omega))
    have ho1 : ¬ (S.length : Int) % 2 = 1 := by omega
    have hm : midF S = low (low ((S.getD (S.length / 2 - 1) (0, 1)).1 * (S.getD (S.length / 2) (0, 1)).2 + (S.getD (S.length / 2) (0, 1)).1 * (S.getD (S.length / 2 - 1) (0, 1)).2) ((S.getD (S.length / 2 - 1) (0, 1)).2 * (S.getD (S.length / 2) (0, 1)).2)).1 ((low ((S.getD (S.length / 2 - 1) (0, 1)).1 * (S.getD (S.length / 2) (0, 1)).2 + (S.getD (S.length / 2) (0, 1)).1 * (S.getD (S.length / 2 - 1) (0, 1)).2) ((S.getD (S.length / 2 - 1) (0, 1)).2 * (S.getD (S.length / 2) (0, 1)).2)).2 * 2) := by unfold midF; rw [if_neg ho]
    rw [hm] at k2 k4 ⊢
    generalize S.getD (S.length / 2) (0, 1) = Y at *
    generalize S.getD (S.length / 2 - 1) (0, 1) = X at *
    obtain ⟨f5, k5⟩ : ∃ fin, callI G 59 i_law_add [.d (eF X), .d (eF Y)] = .ok (.d (eF (low (X.1 * Y.2 + Y.1 * X.2) (X.2 * Y.2)))) fin := law_add_ok (k := 56) m2 m1 (by omega) (by omega) (by omega) (by omega)
    have hn : X.1 * Y.2 + Y.1 * X.2 ≤ 2000000 := by
      have := Nat.mul_le_mul m2.n1 m1.d1
      have := Nat.mul_le_mul m1.n1 m2.d1
      omega
    have hd : X.2 * Y.2 ≤ 1000000 := Nat.mul_le_mul m2.d1 m1.d1
    have o2 : Ok2 (low (X.1 * Y.2 + Y.1 * X.2) (X.2 * Y.2)) 2000000 1000000 := low_ok (Nat.mul_pos m2.d0 m1.d0) hn hd
    generalize low (X.1 * Y.2 + Y.1 * X.2) (X.2 * Y.2) = M at *
    obtain ⟨f6, k6⟩ : ∃ fin, callI G 59 i_law_mul [.d (eF M), .d (eF (1, 2))] = .ok (.d (eF (low (M.1 * 1) (M.2 * 2)))) fin := law_mul_ok (k := 56) (x := M) (y := (1, 2)) (C := 1) (E := 2) o2 ⟨by decide, by decide, by decide⟩ (by omega) (by omega) (by omega)
    rw [low_1] at k6
    have e12 : eF (1, 2) = .tup [.int 1, .int 2] := rfl
    rw [e12] at k6
    clear hP hPl hs h hl1 hl2 hpl hh hhl ho hm hr m1 m2 hn hd o2 e12
    generalize eF (low M.1 (M.2 * 2)) = RR at *
    generalize eF M = ME at *
    generalize eF X = XE at *
    generalize eF Y = YE at *
    generalize S.map eF = SS at *
    generalize (S.length : Int) = N at *
    generalize tlD t = T at *
    generalize row.map D.int = R at *
    generalize h1 : a + 1 = B1 at *
    generalize callI G 59 = cl at *
    as_aux_lemma => simp [T3b, b_law, dcE, k1, k2, k4, k5, k6, hln, i1, i2, ho1, getP, -ix_lst, -bf_lenL]
/-! the law -/
def T0 : List CS := b_law.take 3
theorem law_split : b_law = T0 ++ (T1 ++ (T2 ++ (T3 ++ (T3b ++ (T4 ++ T5))))) := rfl
theorem t0_ok {ns : List Int} (hn : ns.length ≤ 63) : ∃ (row : List Int) (a : Int) (s3 s4 s5 s6 s7 s8 s9 s10 s11 : SV), Row row ∧ 0 ≤ a ∧ Pu s10 ∧ execSs G (callI G 59) 1 T0 [.d (scriptD ns), .un, .un, .un, .un, .un, .un, .un, .un, .un, .un, .un, .un, .un, .un, .un, .un, .un, .un, .un, .un, .un] = .nx [.d (scriptD ns), .lst (row.map .int), .lst [.int a], s3, s4, s5, s6, s7, s8, s9, s10, s11, .un, .un, .un, .un, .un, .un, .un, .un, .un, .un] := by
  obtain ⟨row, f0, hr, k0⟩ : ∃ row fin, Row row ∧ callI G 59 i_law_numbers [.d (scriptD ns)] = .ok (.lst (row.map .int)) fin := law_numbers_ok (k := 58) hn
  obtain ⟨e', hf, a', s3, s4, s5, s6, s7, s8, s9, s10, s11, ha', hp', rfl⟩ := forL_all (P := fun e => ∃ (a : Int) (s3 s4 s5 s6 s7 s8 s9 s10 s11 : SV), 0 ≤ a ∧ Pu s10 ∧ e = [.d (scriptD ns), .lst (row.map .int), .lst [.int a], s3, s4, s5, s6, s7, s8, s9, s10, s11, .un, .un, .un, .un, .un, .un, .un, .un, .un, .un]) (f := turn G (callI G 59) 1 (.name 3) b_law_2) (rangeL 0 3)
    [.d (scriptD ns), .lst (row.map .int), .lst [.int 0], .un, .un, .un, .un, .un, .un, .un, .un, .un, .un, .un, .un, .un, .un, .un, .un, .un, .un, .un] ⟨0, .un, .un, .un, .un, .un, .un, .un, .un, .un, by omega, .inl rfl, rfl⟩ (by
    rintro x hx e ⟨a, s3, s4, s5, s6, s7, s8, s9, s10, s11, ha, hp, rfl⟩
    obtain ⟨a', t4, t5, t6, t7, t8, t9, t10, t11, ha', hp', ht⟩ := b2_turn (x := x) (row := row) (a := a) (e0 := .d (scriptD ns)) (e3 := s3) (e4 := s4) (e5 := s5) (e6 := s6) (e7 := s7) (e8 := s8) (e9 := s9) (e10 := s10) (e11 := s11) (e12 := .un) (e13 := .un) (e14 := .un) (e15 := .un) (e16 := .un) (e17 := .un) (e18 := .un) (e19 := .un) (e20 := .un) (e21 := .un) hr ha hp
    exact ⟨_, ht, a', .d x, t4, t5, t6, t7, t8, t9, t10, t11, ha', hp', rfl⟩)
  refine ⟨row, a', s3, s4, s5, s6, s7, s8, s9, s10, s11, hr, ha', hp', ?_⟩
  clear hr hp'
  generalize row.map D.int = R at *
  generalize scriptD ns = SC at *
  generalize callI G 59 = cl at *
  as_aux_lemma => simp [T0, b_law, dcE, k0, hf, getP]
theorem law_ok {ns : List Int} (hn : ns.length ≤ 63) : ∃ fin, callI G 60 i_law [.d (scriptD ns)] = .ok (.d (.bl true)) fin := by
  obtain ⟨row, a, s3, s4, s5, s6, s7, s8, s9, s10, s11, hr, ha, hp, h0⟩ := t0_ok hn
  obtain ⟨t, a1, h, _, ha1, h1⟩ := t1_ok (row := row) (a := a) (e0 := .d (scriptD ns)) (e3 := s3) (e4 := s4) (e5 := s5) (e6 := s6) (e7 := s7) (e8 := s8) (e9 := s9) (e10 := s10) (e11 := s11) (e13 := .un) (e14 := .un) (e15 := .un) (e16 := .un) (e17 := .un) (e18 := .un) (e19 := .un) (e20 := .un) hr ha hp
  have h2 := t2_ok (row := row) (a := a1) (t := t) (e0 := .d (scriptD ns)) (e3 := s3) (e4 := s4) (e5 := s5) (e6 := s6) (e7 := s7) (e8 := s8) (e9 := s9) (e10 := s10) (e11 := s11) (e13 := .un) (e14 := .un) (e15 := .un) (e16 := .un) (e17 := .un) (e18 := .un) (e19 := .un) (e21 := .un) hr ha1 h
  obtain ⟨s15, s16, h3⟩ := t3_ok (t := t) (e0 := .d (scriptD ns)) (e1 := .lst (row.map .int)) (e2 := .lst [.int (a1 + 1)]) (e3 := s3) (e4 := .d (.int (soldN t))) (e5 := s5) (e6 := s6) (e7 := s7) (e8 := s8) (e9 := s9) (e10 := s10) (e11 := s11) (e13 := .un) (e14 := .un) (e15 := .un) (e16 := .un) (e17 := .un) (e18 := .un) (e19 := .un) (e21 := .un) h
  obtain ⟨s17, h4⟩ := t3b_ok (row := row) (a := a1 + 1) (t := t) (e0 := .d (scriptD ns)) (e3 := s3) (e4 := .d (.int (soldN t))) (e5 := s5) (e6 := s6) (e7 := s7) (e8 := s8) (e9 := s9) (e10 := s10) (e11 := s11) (e13 := .d (.lst ((partsF t).map eF))) (e15 := s15) (e16 := s16) (e17 := .un) (e18 := .un) (e19 := .un) (e21 := .un) hr (by omega) h
  obtain ⟨x, h5⟩ := faults_ok (e0 := .d (scriptD ns)) (e1 := .lst (row.map .int)) (e2 := .lst [.int (a1 + 1 + 1)]) (e3 := s3) (e4 := .d (.int (soldN t))) (e5 := s5) (e6 := s6) (e7 := s7) (e8 := s8) (e9 := s9) (e10 := s10) (e11 := s11) (e12 := .d (tlD t)) (e13 := .d (.lst ((partsF t).map eF))) (e14 := .lst ((sortF (partsF t) []).map eF)) (e15 := s15) (e16 := s16) (e17 := s17) (e18 := .d (eF (midF (sortF (partsF t) [])))) (e19 := .un) (e20 := .un) (e21 := .un)
  refine ⟨[.d (scriptD ns)], ?_⟩
  have e : ∃ e2, execSs G (callI G 59) 1 b_law [.d (scriptD ns), .un, .un, .un, .un, .un, .un, .un, .un, .un, .un, .un, .un, .un, .un, .un, .un, .un, .un, .un, .un, .un] = .rt (.d (.bl true)) (.d (scriptD ns) :: e2) := by
    refine ⟨[.lst (row.map .int), .lst [.int (a1 + 1 + 1)], s3, .d (.int (soldN t)), s5, s6, s7, s8, s9, s10, s11, .d (tlD t), .d (.lst ((partsF t).map eF)), .lst ((sortF (partsF t) []).map eF), s15, s16, s17, .d (eF (midF (sortF (partsF t) []))), .d x, .un, .un], ?_⟩
    rw [law_split, execSs_seq h0, execSs_seq h1, execSs_seq h2, execSs_seq h3, execSs_seq h4, execSs_seq h5]
    exact last_ok
  obtain ⟨e2, e⟩ := e
  have c : callI G 60 i_law [.d (scriptD ns)] = finC 1 (execSs G (callI G 59) 1 b_law ([.d (scriptD ns)] ++ [.un, .un, .un, .un, .un, .un, .un, .un, .un, .un, .un, .un, .un, .un, .un, .un, .un, .un, .un, .un, .un])) := c_law (k := 59)
  rw [c]
  show finC 1 (execSs G (callI G 59) 1 b_law [.d (scriptD ns), .un, .un, .un, .un, .un, .un, .un, .un, .un, .un, .un, .un, .un, .un, .un, .un, .un, .un, .un, .un, .un]) = _
  rw [e]
  rfl
end K17
end

section
set_option Elab.async false
set_option linter.all false
set_option maxRecDepth 100000
set_option maxHeartbeats 0
namespace K17
open PySem PySem.Spec PyProof.Rows L2 Ip
abbrev R : PySem.W.OpenRow := PySem.W.OpenLaw.row PySem.Challenge.rw_giftwright_k17_whole_unspent
abbrev tfs : List He.Defn := M.lams.map fun x => (x, none)
abbrev hk : PySem.W.Hook := He.hookX 4 (faOf M G) RR.defs [] tfs (exOf M RR)
def ob (s : PySem.W.SharedT) : He.AlX := He.obsX 4 (faOf M G) RR.defs [] tfs (exOf M RR) (HandSHeadRun.getT s)
theorem ob_eq (s : PySem.W.SharedT) : ob s = hk.obs s.abs := He.obsX_eq (HandSHeadRun.getT_eq s)
theorem run (w : World) : HandSHeadRun.RunEqI R (PySem.W.view R.prog [0, 69]) hk ob 20000 loose w := by
  unfold HandSHeadRun.RunEqI
  kernel_rfl
end K17
open PySem PySem.W PySem.Calls PyProof.Rows
theorem K17.holds (hl : ∀ ns : List Int, ns.length ≤ 63 → ∃ fin, Ip.callI K17.G 60 45 [.d (Ip.scriptD ns)] = .ok (.d (.bl true)) fin) : PySem.Challenge.rw_giftwright_k17_whole_unspent.Holds := by
  w_on; o_law
  refine HandSHeadRun.head_imp (r := OpenLaw.row PySem.Challenge.rw_giftwright_k17_whole_unspent) (q := view (OpenLaw.row PySem.Challenge.rw_giftwright_k17_whole_unspent).prog [0, 69]) (H := K17.hk) (ob := K17.ob) (M := 20000) (loose := K17.loose) (d := HandSHeadRun.topDef (OpenLaw.row PySem.Challenge.rw_giftwright_k17_whole_unspent).prog 69) (kwd := []) K17.ob_eq
    K17.run (by kernel_rfl) (by kernel_rfl) (by kernel_rfl) (by rfl) (by first | assumption | decide +kernel) (by decide +kernel) ⟨rfl, rfl, rfl, rfl, rfl, by decide +kernel⟩ ?hw ?hc
  case hw => w_witness2
  case hc =>
    refine LamX.walk_ofTsE (l := PySem.Challenge.rw_giftwright_k17_whole_unspent) (n := 63) (k := 180) (x := "script") (CX := fun w => L2.CX (PySem.Challenge.rw_giftwright_k17_whole_unspent).prog w) rfl (by decide) (by kernel_rfl) ⟨rfl, by decide, by decide⟩ ?F Ip.cx_none
    intro w mg fa h Y G hmg0
    obtain ⟨K, KX, c⟩ := Y
    have hmg : mg ("law" : PySem.Str) = some (.ref fa) := by
      have e : (HandSHeadRun.topDef (OpenLaw.row PySem.Challenge.rw_giftwright_k17_whole_unspent).prog 69).name = ("law" : PySem.Str) := by kernel_rfl
      rw [← e]
      exact hmg0
    exact ⟨K, KX, Ip.law_at (M := K17.M) (R := K17.RR) (iL := 45) (k := 60) (fd := K17.f_law) c KX G K17.rows_ok K17.glb_ok K17.exc_ok rfl rfl rfl (by decide +kernel) hmg rfl hl⟩
end

theorem PySem.Challenge.cw_giftwright_k17_whole_unspent_holds : PySem.Challenge.rw_giftwright_k17_whole_unspent.Holds := by
  exact K17.holds fun ns h => K17.law_ok h
