import PyProof.Rows.All
import Wide.All
import OpenK.AllK
import Wide.FinOn
import PySem.PyData
import PyProof.P3Statements
import PyProof.EqLayable
import KE.DataEq
import KE.SortData
import HandS.ForMost
import HandS.TupAny
import HandS.TupMul
import HandS.Wide
import HandS.Gcd
import HandS.Style
import HandS.Zip
import HandS.IsInst
import HandS.Conv
import HandS.Lambda
import HandS.Flow
import HandS.TupSets
import HandS.Strs
import HandS.Defaults
import KE.DataAny
import KE.DataFind
import PyProof.ReprRoads
import KE.GoesNew
import HandS.SetFor
import KE.KTupSum
import KE.KIndexOf
import HandS.HeadEnd
import HandS.HeadHook4
import KE.KStateDown
import Lean
import HandS.Ends
import HandS.More
import HandS.Words
import HandS.WordsExc
import HandS.Head0
import HandS.Head1
import HandS.Head2
import HandS.Head3
import HandS.HeadHook1
import HandS.HeadHook2
import HandS.HeadHook3
import PyProof.ReprLen
import PyProof.FitsInt
import PySem.Challenge.RW_calledpapers_k90_whole_consistent_shares
set_option linter.all false
set_option Elab.async false
/-! Ev: a small evaluator of a Python subset over deep data and a heap of mutable lists, plain Lean. -/
namespace Ev
open PySem

/-- a value: deep data (never written), a mutable object by its number, a name of the module (def, class), a built-in type -/
inductive HV where
  | d (x : PyData)
  | ref (n : Nat)
  | scr (ns : List Int)
  | ty (n : String)
/-- what an expression gives: a value, or a list just made (nobody else has it) -/
inductive RV where
  | hv (x : HV)
  | fresh (xs : List HV)
/-- a mutable object -/
inductive Ob where
  | lst (xs : List HV)
  | dic (kvs : List (PyData × HV))
  | frz (ds : List PyData)
abbrev Hp := List Ob
abbrev Env := List (Option HV)
abbrev M (α : Type) := Hp → Option (α × Hp)

def ret {α : Type} (a : α) : M α := fun h => some (a, h)
def bnd {α β : Type} (m : M α) (f : α → M β) : M β := fun h => match m h with
  | some (a, h1) => f a h1
  | none => none
def lift {α : Type} (o : Option α) : M α := fun h => match o with
  | some a => some (a, h)
  | none => none

/-- asking the heap -/
def look {α : Type} (f : Hp → Option α) : M α := fun h => match f h with
  | some a => some (a, h)
  | none => none
def chk (b : Bool) : M Unit := lift (if b then some () else none)
def stuck {α : Type} : M α := fun _ => none
def allData : List HV → Option (List PyData)
  | [] => some []
  | .d x :: r => match allData r with
    | some ds => some (x :: ds)
    | none => none
  | _ :: _ => none
/-- the items of a list -/
def getLst (h : Hp) : RV → Option (List HV)
  | .hv (.d (.list ds)) => some (ds.map .d)
  | .hv (.ref n) => match h[n]? with
    | some (.lst xs) => some xs
    | some (.frz ds) => some (ds.map .d)
    | _ => none
  | .fresh xs => some xs
  | _ => none
/-- the items of a list that may still be written -/
def getTrk (h : Hp) : RV → Option (List HV)
  | .hv (.ref n) => match h[n]? with
    | some (.lst xs) => some xs
    | _ => none
  | .fresh xs => some xs
  | _ => none
/-- the items of a list or a tuple -/
def getSeq (h : Hp) : RV → Option (List HV)
  | .hv (.d (.tuple ds)) => some (ds.map .d)
  | r => getLst h r
/-- .. the law's own script among them -/
def getAny (h : Hp) : RV → Option (List HV)
  | .hv (.scr ns) => some (ns.map fun i => .d (.int i))
  | r => getSeq h r
def getAnyL (h : Hp) : RV → Option (List HV)
  | .hv (.scr ns) => some (ns.map fun i => .d (.int i))
  | r => getLst h r
/-- what is read of a value, in depth -/
def getDat (h : Hp) : RV → Option PyData
  | .hv (.d x) => some x
  | .hv (.ref n) => match h[n]? with
    | some (.lst xs) => match allData xs with
      | some ds => some (.list ds)
      | none => none
    | some (.frz ds) => some (.list ds)
    | _ => none
  | .fresh xs => match allData xs with
    | some ds => some (.list ds)
    | none => none
  | _ => none
def isD : RV → Option PyData
  | .hv (.d x) => some x
  | _ => none
def hvOf : RV → Option HV
  | .hv x => some x
  | _ => none
abbrev rD (x : PyData) : RV := .hv (.d x)

/-! ### operators -/
inductive BOp where
  | add | sub | mul | fdiv | mod | pow
  deriving DecidableEq
inductive COp where
  | eq | ne | lt | le | gt | ge | is_ | isNot | in_ | notIn
  deriving DecidableEq
def lenOk (n : Nat) : Bool := Nat.ble n 16777216
def intBits (i : Int) : Nat := i.natAbs.log2
def binInt (op : BOp) (i j : Int) : Option Int := match op with
  | .add => some (i + j)
  | .sub => some (i - j)
  | .mul => if decide (intBits i + intBits j < 1000000) then some (i * j) else none
  | .fdiv => if decide (0 < j) && decide (intBits j < 9000) then some (i / j) else none
  | .mod => if decide (0 < j) then some (i % j) else none
  | .pow => if decide (0 ≤ j ∧ j ≤ 1000 ∧ i.natAbs < 2 ^ 64) then some (i ^ j.toNat) else none
def repl {α : Type} (n : Nat) (xs : List α) : List α := (List.replicate n xs).flatten
def binStr (op : BOp) (a b : Str) : Option RV := if op = .add ∧ lenOk (a.length + b.length) = true then some (rD (.str (a ++ b))) else none
def binTup (op : BOp) (a b : List PyData) : Option RV := if op = .add ∧ lenOk (a.length + b.length) = true then some (rD (.tuple (a ++ b))) else none
def binTI (op : BOp) (a : List PyData) (k : Int) : Option RV := if op = .mul ∧ (a ≠ [] ∧ 2 ≤ k ∧ k ≤ 1000 ∧ a.length ≤ 1000) then some (rD (.tuple (repl k.toNat a))) else none
def binLI (op : BOp) (xs : List HV) (k : Int) : Option RV := if op = .mul ∧ (0 ≤ k ∧ k < 2 ^ 30) ∧ lenOk (xs.length * k.toNat) = true then some (.fresh (repl k.toNat xs)) else none
def binLL (op : BOp) (xs ys : List HV) : Option RV := if op = .add ∧ lenOk (xs.length + ys.length) = true then some (.fresh (xs ++ ys)) else none
def binL (h : Hp) (op : BOp) (x y : RV) : Option RV := match getLst h x, getLst h y with
  | some xs, some ys => binLL op xs ys
  | _, _ => none
def binK (h : Hp) (op : BOp) (x : RV) (k : Int) : Option RV := match getTrk h x with
  | some xs => binLI op xs k
  | none => none
def binV (h : Hp) (op : BOp) (x y : RV) : Option RV := match x, y with
  | .hv (.d (.int i)), .hv (.d (.int j)) => match binInt op i j with
    | some k => some (rD (.int k))
    | none => none
  | .hv (.d (.str a)), .hv (.d (.str b)) => binStr op a b
  | .hv (.d (.tuple a)), .hv (.d (.tuple b)) => binTup op a b
  | .hv (.d (.tuple a)), .hv (.d (.int k)) => binTI op a k
  | x, .hv (.d (.int k)) => binK h op x k
  | x, y => binL h op x y
/-- the place of an index -/
def place (n : Nat) (i : Int) : Option Nat := if 0 ≤ i then (if i < n then some i.toNat else none) else if -(n : Int) ≤ i then some (i + n).toNat else none
def ixV (h : Hp) (x : RV) (i : Int) : Option RV := match getAny h x with
  | some xs => match place xs.length i with
    | some k => match xs[k]? with
      | some y => some (.hv y)
      | none => none
    | none => none
  | none => none
def inB (x : PyData) (xs : List PyData) : Bool := xs.any fun y => PyData.eqv y x
def isNone : RV → Bool
  | .hv (.d .none) => true
  | _ => false
def cmpV (h : Hp) (op : COp) (x y : RV) : Option Bool := match op with
  | .is_ => match y with
    | .hv (.d .none) => some (isNone x)
    | .hv (.d (.bool b)) => match x with
      | .hv (.d (.bool a)) => some (decide (a = b))
      | _ => none
    | _ => none
  | .isNot => match y with
    | .hv (.d .none) => some (!isNone x)
    | .hv (.d (.bool b)) => match x with
      | .hv (.d (.bool a)) => some (!decide (a = b))
      | _ => none
    | _ => none
  | .eq => match getDat h x, getDat h y with
    | some a, some b => if SeqAt.shaped a && SeqAt.shaped b then some (PyData.eqv a b) else none
    | _, _ => none
  | .ne => match getDat h x, getDat h y with
    | some a, some b => if SeqAt.shaped a && SeqAt.shaped b then some (!PyData.eqv a b) else none
    | _, _ => none
  | .lt => match x, y with
    | .hv (.d (.int i)), .hv (.d (.int j)) => some (decide (i < j))
    | _, _ => none
  | .le => match x, y with
    | .hv (.d (.int i)), .hv (.d (.int j)) => some (decide (i ≤ j))
    | _, _ => none
  | .gt => match x, y with
    | .hv (.d (.int i)), .hv (.d (.int j)) => some (decide (j < i))
    | _, _ => none
  | .ge => match x, y with
    | .hv (.d (.int i)), .hv (.d (.int j)) => some (decide (j ≤ i))
    | _, _ => none
  | .in_ => match getDat h x, getSeq h y with
    | some a, some ys => match allData ys with
      | some bs => if SeqAt.shaped a && SeqAt.shaped (.list bs) then some (inB a bs) else none
      | none => none
    | _, _ => none
  | .notIn => match getDat h x, getSeq h y with
    | some a, some ys => match allData ys with
      | some bs => if SeqAt.shaped a && SeqAt.shaped (.list bs) then some (!inB a bs) else none
      | none => none
    | _, _ => none
end Ev

set_option linter.all false
set_option Elab.async false
/-! Ev2: the syntax and the evaluator. -/
namespace Ev
open PySem

inductive Bi where
  | len | all | any | sum | min1 | max1 | min2 | max2 | sorted | tuple | list | int | abs | repr | divmod | gcd | lcm | lenSet | bool
  deriving DecidableEq
inductive Mt where
  | append | extend | pop0 | pop1 | insert | index | count | remove
  deriving DecidableEq
inductive Tg where
  | name (i : Nat)
  | tup (ts : List Tg)

mutual
inductive E where
  | var (i : Nat)
  | lit (x : PyData)
  | glob (x : Str) (v : PyData)
  | bin (op : BOp) (a b : E)
  | neg (a : E)
  | cmp (op : COp) (a b : E)
  | chain (op op' : COp) (a b c : E)
  | not (a : E)
  | and (a b : E)
  | or (a b : E)
  | ite (c a b : E)
  | tup (es : List E)
  | lst (es : List E)
  | frz (e : E)
  | new (e : E)
  | ix (a i : E)
  | sl (a : E) (lo hi : Option E)
  | bi (b : Bi) (es : List E)
  | isi (a : E) (ts : List String) (tupled : Bool)
  | comp (elt : E) (tg : Tg) (it : I) (test : Option E) (own : List Nat)
  | listRange (tup : Bool) (e : E)
  | call (f : Str) (pure : Bool) (order : List Nat) (es : List E)
  | mth (m : Mt) (o : E) (es : List E)
inductive I where
  | seq (e : E)
  | range1 (a : E)
  | range2 (a b : E)
  | enum (e : E)
  | zip (a b : E)
  | zip3 (a b c : E)
end
inductive At where
  | name (i : Nat)
  | sub (o i : E)
  | tup (ts : List At)
inductive S where
  | asg (tg : At) (e : E)
  | par (swp : Bool) (ts : List At) (es : List E)
  | aug (i : Nat) (op : BOp) (e : E)
  | expr (e : E)
  | ret (e : E)
  | ite (c : E) (a b : List S)
  | for_ (tg : Tg) (it : I) (body : List S)
  | while_ (fuel : Nat) (c : E) (body : List S)
  | brk
  | cont
  | never

/-- what is walked -/
inductive Its where
  | seq (xs : List HV)
  | live (n : Nat)

/-! ### targets -/
def setAt (env : Env) (i : Nat) (v : HV) : Option Env := if i < env.length then some (env.set i (some v)) else none
mutual
def store : Tg → HV → Env → Option Env
  | .name i, v, env => setAt env i v
  | .tup ts, v, env => match v with
    | .d (.tuple ds) => if ds.length = ts.length then storeAll ts (ds.map .d) env else none
    | _ => none
def storeAll : List Tg → List HV → Env → Option Env
  | [], [], env => some env
  | t :: ts, v :: vs, env => match store t v env with
    | some env1 => storeAll ts vs env1
    | none => none
  | _, _, _ => none
end
mutual
def Tg.slots : Tg → List Nat
  | .name i => [i]
  | .tup ts => slotsAll ts
def slotsAll : List Tg → List Nat
  | [] => []
  | t :: ts => t.slots ++ slotsAll ts
end
def wipe (env : Env) : List Nat → Env
  | [] => env
  | v :: vs => (wipe env vs).set v none

/-! ### calls of built-ins -/
def ints? : List HV → Option (List Int)
  | [] => some []
  | .d (.int i) :: r => match ints? r with
    | some is => some (i :: is)
    | none => none
  | _ :: _ => none
def bools? : List HV → Option (List Bool)
  | [] => some []
  | .d (.bool i) :: r => match bools? r with
    | some is => some (i :: is)
    | none => none
  | _ :: _ => none
def minI : List Int → Option Int
  | [] => none
  | x :: r => match minI r with
    | some y => some (if x ≤ y then x else y)
    | none => some x
def maxI : List Int → Option Int
  | [] => none
  | x :: r => match maxI r with
    | some y => some (if y ≤ x then x else y)
    | none => some x
/-- an insertion sort by the order of alike data, stable -/
def insD (x : PyData) : List PyData → List PyData
  | [] => [x]
  | y :: r => if PySem.W.dataLt y x then y :: insD x r else x :: y :: r
def isort : List PyData → List PyData
  | [] => []
  | x :: r => insD x (isort r)
def alikeB (xs : List PyData) : Bool := xs.all fun x => xs.all fun y => PySem.W.alike x y
def sortableB (xs : List PyData) : Bool := (xs.all fun x => match x with
    | .tuple (_ :: _) => true
    | _ => false) || (xs.all fun x => match x with
    | .tuple _ => false
    | .none => false
    | _ => true)
def nodupI : List Int → List Int
  | [] => []
  | x :: r => if r.contains x then nodupI r else x :: nodupI r
def showOk (d : PyData) : Bool := decide (d.depth ≤ 64) && !d.hasDict && d.showable && lenOk d.shown.length
def biV (h : Hp) (b : Bi) (vs : List RV) : Option RV := match b, vs with
  | .len, [.hv (.d (.str a))] => if lenOk a.length then some (rD (.int a.length)) else none
  | .len, [x] => match getAny h x with
    | some xs => some (rD (.int xs.length))
    | none => none
  | .all, [x] => match getLst h x with
    | some xs => match bools? xs with
      | some bs => some (rD (.bool (bs.all id)))
      | none => none
    | none => none
  | .any, [x] => match getLst h x with
    | some xs => match bools? xs with
      | some bs => some (rD (.bool (bs.any id)))
      | none => none
    | none => none
  | .sum, [x] => match getSeq h x with
    | some xs => match ints? xs with
      | some is => some (rD (.int is.sum))
      | none => none
    | none => none
  | .min1, [x] => match getLst h x with
    | some xs => match ints? xs with
      | some is => match minI is with
        | some m => some (rD (.int m))
        | none => none
      | none => none
    | none => none
  | .max1, [x] => match getLst h x with
    | some xs => match ints? xs with
      | some is => match maxI is with
        | some m => some (rD (.int m))
        | none => none
      | none => none
    | none => none
  | .min2, [.hv (.d (.int i)), .hv (.d (.int j))] => some (rD (.int (if j < i then j else i)))
  | .max2, [.hv (.d (.int i)), .hv (.d (.int j))] => some (rD (.int (if j > i then j else i)))
  | .sorted, [x] => match getLst h x with
    | some xs => match allData xs with
      | some ds => if SeqAt.shaped (.list ds) && alikeB ds && sortableB ds then some (.fresh ((isort ds).map .d)) else none
      | none => none
    | none => none
  | .tuple, [x] => match getSeq h x with
    | some xs => match allData xs with
      | some ds => some (rD (.tuple ds))
      | none => none
    | none => none
  | .list, [x] => match getSeq h x with
    | some xs => some (.fresh xs)
    | none => none
  | .int, [.hv (.d (.int i))] => some (rD (.int i))
  | .int, [.hv (.d (.bool b))] => some (rD (.int (if b then 1 else 0)))
  | .abs, [.hv (.d (.int i))] => some (rD (.int (if i < 0 then -i else i)))
  | .repr, [x] => match getDat h x with
    | some d => if showOk d then some (rD (.str d.shown)) else none
    | none => none
  | .lenSet, [x] => match getSeq h x with
    | some xs => match ints? xs with
      | some is => if Nat.blt is.length 20 then some (rD (.int (nodupI is).length)) else none
      | none => none
    | none => none
  | .divmod, [.hv (.d (.int i)), .hv (.d (.int j))] => if decide (0 < j ∧ j < 1073741824) then some (rD (.tuple [.int (i / j), .int (i % j)])) else none
  | .gcd, [.hv (.d (.int i)), .hv (.d (.int j))] => some (rD (.int ((Nat.gcd i.natAbs j.natAbs : Nat) : Int)))
  | .lcm, [.hv (.d (.int i)), .hv (.d (.int j))] => if decide (i.natAbs < 2 ^ 64 ∧ j.natAbs < 2 ^ 64) then some (rD (.int ((Nat.lcm i.natAbs j.natAbs : Nat) : Int))) else none
  | _, _ => none
def tyOf (h : Hp) : RV → Option String
  | .hv (.d .none) => some "NoneType"
  | .hv (.d (.bool _)) => some "bool"
  | .hv (.d (.int _)) => some "int"
  | .hv (.d (.str _)) => some "str"
  | .hv (.d (.list _)) => some "list"
  | .hv (.d (.tuple _)) => some "tuple"
  | .hv (.ref n) => match h[n]? with
    | some (.lst _) => some "list"
    | some (.frz _) => some "list"
    | _ => none
  | .fresh _ => some "list"
  | _ => none
def subTy (t c : String) : Bool := t == c || (t == "bool" && c == "int")
def isiV (h : Hp) (x : RV) (ts : List String) : Option Bool := match tyOf h x with
  | some t => some (ts.any fun c => subTy t c)
  | none => none
/-- what a method gives, and the heap behind it -/
def mtV (m : Mt) (o : RV) (vs : List RV) : M RV := fun h => match m, o, vs with
  | .append, .hv (.ref n), [.hv y] => match h[n]? with
    | some (.lst xs) => if Nat.blt xs.length 16777216 then some (rD .none, h.set n (.lst (xs ++ [y]))) else none
    | _ => none
  | .extend, .hv (.ref n), [y] => match h[n]?, getLst h y with
    | some (.lst xs), some ys => if lenOk (xs.length + ys.length) then some (rD .none, h.set n (.lst (xs ++ ys))) else none
    | _, _ => none
  | .pop0, .hv (.ref n), [] => match h[n]? with
    | some (.lst xs) => match xs[xs.length - 1]? with
      | some y => some (.hv y, h.set n (.lst xs.dropLast))
      | none => none
    | _ => none
  | .pop1, .hv (.ref n), [.hv (.d (.int i))] => match h[n]? with
    | some (.lst xs) => match place xs.length i with
      | some k => match xs[k]? with
        | some y => some (.hv y, h.set n (.lst (xs.eraseIdx k)))
        | none => none
      | none => none
    | _ => none
  | .insert, .hv (.ref n), [.hv (.d (.int i)), .hv y] => match h[n]? with
    | some (.lst xs) => if decide (0 ≤ i ∧ i ≤ xs.length) && Nat.blt xs.length 16777216 then some (rD .none, h.set n (.lst (xs.take i.toNat ++ y :: xs.drop i.toNat))) else none
    | _ => none
  | .index, o, [.hv (.d (.int k))] => match getSeq h o with
    | some xs => match ints? xs with
      | some ns => if k ∈ ns then some (rD (.int (ns.idxOf k : Nat)), h) else none
      | none => none
    | none => none
  | .count, o, [y] => match getSeq h o, getDat h y with
    | some xs, some d => match allData xs with
      | some ds => if SeqAt.shaped (.list ds) && SeqAt.shaped d then some (rD (.int (ds.countP fun z => PyData.eqv z d)), h) else none
      | none => none
    | _, _ => none
  | _, _, _ => none
/-- xs[lo:hi] -/
def sIx (n d : Nat) : Option Int → Nat
  | none => d
  | some v => if v < 0 then (v + (n : Int)).toNat else min v.toNat n
def cutL {α : Type} (xs : List α) (lo hi : Option Int) : List α := (xs.drop (sIx xs.length 0 lo)).take (sIx xs.length xs.length hi - sIx xs.length 0 lo)
def slV (h : Hp) (x : RV) (lo hi : Option Int) : Option RV := match x with
  | .hv (.d (.tuple ds)) => some (rD (.tuple (cutL ds lo hi)))
  | x => match getAnyL h x with
    | some xs => some (.fresh (cutL xs lo hi))
    | none => none

/-! ### what is walked -/
def rangeL (lo : Int) (n : Nat) : List HV := (List.range n).map fun (i : Nat) => .d (.int (lo + i))
def enumL : Nat → List PyData → List HV
  | _, [] => []
  | k, x :: r => .d (.tuple [.int k, x]) :: enumL (k + 1) r
def zipL : List PyData → List PyData → List HV
  | x :: xs, y :: ys => .d (.tuple [x, y]) :: zipL xs ys
  | _, _ => []
def zip3L : List PyData → List PyData → List PyData → List HV
  | x :: xs, y :: ys, z :: zs => .d (.tuple [x, y, z]) :: zip3L xs ys zs
  | _, _, _ => []
/-- the items of a list or a tuple that nobody writes, data through and through -/
def seqData (h : Hp) : RV → Option (List PyData)
  | .hv (.ref n) => match h[n]? with
    | some (.frz ds) => some ds
    | _ => none
  | x => match getSeq h x with
    | some xs => allData xs
    | none => none
def itsOf (h : Hp) : RV → Option Its
  | .hv (.ref n) => match h[n]? with
    | some (.lst _) => some (.live n)
    | some (.frz ds) => some (.seq (ds.map .d))
    | _ => none
  | .hv (.scr ns) => some (.seq (ns.map fun i => .d (.int i)))
  | r => match getSeq h r with
    | some xs => some (.seq xs)
    | none => none

/-! ### expressions -/
abbrev CallT := Str → List HV → M RV
def toBool : RV → Option Bool
  | .hv (.d (.bool b)) => some b
  | _ => none
def toInt : RV → Option Int
  | .hv (.d (.int b)) => some b
  | _ => none
/-- a list that nobody writes any more -/
def frzV (r : RV) : M RV := fun h => match r with
  | .fresh xs => match allData xs with
    | some ds => some (rD (.list ds), h)
    | none => none
  | .hv (.ref n) => match h[n]? with
    | some (.lst xs) => match allData xs with
      | some ds => some (rD (.list ds), h.set n (.frz ds))
      | none => none
    | some (.frz ds) => some (rD (.list ds), h)
    | _ => none
  | r => some (r, h)
def newV (r : RV) : M RV := fun h => match r with
  | .fresh xs => some (.hv (.ref h.length), h ++ [.lst xs])
  | r => some (r, h)
def hvs? : List RV → Option (List HV)
  | [] => some []
  | .hv x :: r => match hvs? r with
    | some xs => some (x :: xs)
    | none => none
  | _ :: _ => none
def datas? : List RV → Option (List PyData)
  | [] => some []
  | .hv (.d x) :: r => match datas? r with
    | some xs => some (x :: xs)
    | none => none
  | _ :: _ => none
def noRef : List HV → Bool
  | [] => true
  | .ref _ :: _ => false
  | _ :: r => noRef r
/-- what a def that was run on its own heap hands out -/
def outP : RV × Hp → Option RV
  | (.hv (.d x), _) => some (rD x)
  | (.fresh xs, _) => match allData xs with
    | some _ => some (.fresh xs)
    | none => none
  | (.hv (.ref n), h) => match h[n]? with
    | some (.lst xs) => match allData xs with
      | some _ => some (.fresh xs)
      | none => none
    | some (.frz ds) => some (rD (.list ds))
    | _ => none
  | _ => none
def permute {α : Type} (order : List Nat) (xs : List α) : Option (List α) := match order with
  | [] => some []
  | i :: r => match xs[i]?, permute r xs with
    | some x, some ys => some (x :: ys)
    | _, _ => none
def runCall (C : CallT) (f : Str) (pure : Bool) (args : List HV) : M RV := fun h =>
  if pure then (if noRef args then match C f args [] with
      | some r => match outP r with
        | some x => some (x, h)
        | none => none
      | none => none
    else none)
  else C f args h
/-- a comprehension's turns -/
def compSeq (turn : HV → M (Option HV)) : List HV → M (List HV)
  | [] => ret []
  | x :: r => bnd (turn x) fun o => bnd (compSeq turn r) fun ys => ret (match o with
    | some y => y :: ys
    | none => ys)
def compLive (turn : HV → M (Option HV)) (n : Nat) : Nat → Nat → M (List HV)
  | 0, _ => fun _ => none
  | k + 1, i => fun h => match h[n]? with
    | some (.lst xs) => match xs[i]? with
      | some x => bnd (turn x) (fun o => bnd (compLive turn n k (i + 1)) fun ys => ret (match o with
        | some y => y :: ys
        | none => ys)) h
      | none => some ([], h)
    | _ => none
def compV (turn : HV → M (Option HV)) : Its → M (List HV)
  | .seq xs => compSeq turn xs
  | .live n => compLive turn n 16777217 0

def getVar (env : Env) (i : Nat) : Option HV := match env[i]? with
  | some (some v) => some v
  | _ => none
mutual
def ev (C : CallT) : E → Env → M RV
  | .var i, env => bnd (lift (getVar env i)) fun v => ret (.hv v)
  | .lit x, _ => ret (rD x)
  | .glob _ v, _ => ret (rD v)
  | .bin op a b, env => bnd (ev C a env) fun x => bnd (ev C b env) fun y => look fun h => binV h op x y
  | .neg a, env => bnd (ev C a env) fun x => bnd (lift (toInt x)) fun i => ret (rD (.int (-i)))
  | .cmp op a b, env => bnd (ev C a env) fun x => bnd (ev C b env) fun y => bnd (look fun h => cmpV h op x y) fun r => ret (rD (.bool r))
  | .chain op op' a b c, env => bnd (ev C a env) fun x => bnd (ev C b env) fun y => bnd (look fun h => cmpV h op x y) fun r =>
      if r then bnd (ev C c env) fun z => bnd (look fun h => cmpV h op' y z) fun r' => ret (rD (.bool r')) else ret (rD (.bool false))
  | .not a, env => bnd (ev C a env) fun x => bnd (lift (toBool x)) fun b => ret (rD (.bool !b))
  | .and a b, env => bnd (ev C a env) fun x => bnd (lift (toBool x)) fun r => if r then ev C b env else ret (rD (.bool false))
  | .or a b, env => bnd (ev C a env) fun x => bnd (lift (toBool x)) fun r => if r then ret (rD (.bool true)) else ev C b env
  | .ite c a b, env => bnd (ev C c env) fun x => bnd (lift (toBool x)) fun r => if r then ev C a env else ev C b env
  | .tup es, env => bnd (evs C es env) fun xs => bnd (lift (datas? xs)) fun ds => bnd (chk (lenOk ds.length)) fun _ => ret (rD (.tuple ds))
  | .lst es, env => bnd (evs C es env) fun xs => bnd (lift (hvs? xs)) fun vs => bnd (chk (lenOk vs.length)) fun _ => ret (.fresh vs)
  | .frz e, env => bnd (ev C e env) frzV
  | .new e, env => bnd (ev C e env) newV
  | .ix a i, env => bnd (ev C a env) fun x => bnd (ev C i env) fun y => bnd (lift (toInt y)) fun j => look fun h => ixV h x j
  | .sl a lo hi, env => bnd (ev C a env) fun x => bnd (evO C lo env) fun l => bnd (evO C hi env) fun u => look fun h => slV h x l u
  | .bi b es, env => bnd (evs C es env) fun vs => look fun h => biV h b vs
  | .isi a ts _, env => bnd (ev C a env) fun x => bnd (look fun h => isiV h x ts) fun r => ret (rD (.bool r))
  | .comp elt tg it test own, env => bnd (evI C it env) fun its => bnd (compV (fun x => bnd (lift (store tg x (wipe env own))) fun env1 => bnd (evO' C test env1) fun b =>
      if b then bnd (ev C elt env1) fun y => bnd (lift (hvOf y)) fun v => ret (some v) else ret none) its) fun ys => bnd (chk (lenOk ys.length)) fun _ => ret (.fresh ys)
  | .listRange tup e, env => bnd (ev C e env) fun x => bnd (lift (toInt x)) fun n => bnd (chk (decide (-16777216 ≤ n ∧ n ≤ 16777216))) fun _ =>
      ret (if tup then rD (.tuple ((List.range n.toNat).map fun (i : Nat) => .int i)) else .fresh (rangeL 0 n.toNat))
  | .call f pure order es, env => bnd (evs C es env) fun xs => bnd (lift (hvs? xs)) fun vs => bnd (lift (permute order vs)) fun args => runCall C f pure args
  | .mth m o es, env => bnd (ev C o env) fun x => bnd (evs C es env) fun vs => mtV m x vs
def evs (C : CallT) : List E → Env → M (List RV)
  | [], _ => ret []
  | e :: es, env => bnd (ev C e env) fun x => bnd (evs C es env) fun xs => ret (x :: xs)
def evO (C : CallT) : Option E → Env → M (Option Int)
  | none, _ => ret none
  | some e, env => bnd (ev C e env) fun x => bnd (lift (toInt x)) fun i => ret (some i)
def evO' (C : CallT) : Option E → Env → M Bool
  | none, _ => ret true
  | some e, env => bnd (ev C e env) fun x => lift (toBool x)
def evI (C : CallT) : I → Env → M Its
  | .seq e, env => bnd (ev C e env) fun x => look fun h => itsOf h x
  | .range1 a, env => bnd (ev C a env) fun x => bnd (lift (toInt x)) fun n => bnd (chk (decide (-(2 ^ 62) ≤ n ∧ n < 2 ^ 62))) fun _ => ret (.seq (rangeL 0 n.toNat))
  | .range2 a b, env => bnd (ev C a env) fun x => bnd (ev C b env) fun y => bnd (lift (toInt x)) fun m => bnd (lift (toInt y)) fun n =>
      bnd (chk (decide ((-(2 ^ 62) ≤ m ∧ m < 2 ^ 62) ∧ (-(2 ^ 62) ≤ n ∧ n < 2 ^ 62)))) fun _ => ret (.seq (rangeL m (n - m).toNat))
  | .enum e, env => bnd (ev C e env) fun x => bnd (look fun h => seqData h x) fun ds => ret (.seq (enumL 0 ds))
  | .zip a b, env => bnd (ev C a env) fun x => bnd (ev C b env) fun y => bnd (look fun h => seqData h x) fun ds => bnd (look fun h => seqData h y) fun es => ret (.seq (zipL ds es))
  | .zip3 a b c, env => bnd (ev C a env) fun x => bnd (ev C b env) fun y => bnd (ev C c env) fun z => bnd (look fun h => seqData h x) fun ds => bnd (look fun h => seqData h y) fun es => bnd (look fun h => seqData h z) fun fs => ret (.seq (zip3L ds es fs))
end

/-! ### statements -/
inductive Fl where
  | nx
  | rt (v : RV)
  | bk
  | ct
/-- xs[j] = v -/
def setIx (x : RV) (j : Int) (v : HV) : M Unit := fun h => match x with
  | .hv (.ref n) => match h[n]? with
    | some (.lst xs) => match place xs.length j with
      | some k => some ((), h.set n (.lst (xs.set k v)))
      | none => none
    | _ => none
  | _ => none
def storeAt (C : CallT) : At → HV → Env → M Env
  | .name i, v, env => lift (setAt env i v)
  | .sub o i, v, env => bnd (ev C o env) fun x => bnd (ev C i env) fun y => bnd (lift (toInt y)) fun j => bnd (setIx x j v) fun _ => ret env
  | .tup _, _, _ => stuck
def storeAts (C : CallT) : List At → List HV → Env → M Env
  | [], [], env => ret env
  | t :: ts, v :: vs, env => bnd (storeAt C t v env) fun env1 => storeAts C ts vs env1
  | [], _ :: _, _ => stuck
  | _ :: _, [], _ => stuck
def tupOf (n : Nat) : HV → Option (List HV)
  | .d (.tuple ds) => if ds.length = n then some (ds.map .d) else none
  | _ => none
def storeTop (C : CallT) : At → HV → Env → M Env
  | .tup ts, v, env => bnd (lift (tupOf ts.length v)) fun vs => storeAts C ts vs env
  | .name i, v, env => storeAt C (.name i) v env
  | .sub o i, v, env => storeAt C (.sub o i) v env
/-- a loop's turns: the body tells how it ended -/
def forSeq (turn : HV → Env → M (Fl × Env)) : List HV → Env → M (Fl × Env)
  | [], env => ret (.nx, env)
  | x :: r, env => bnd (turn x env) fun p => match p.1 with
    | .nx => forSeq turn r p.2
    | .ct => forSeq turn r p.2
    | .bk => ret (.nx, p.2)
    | .rt v => ret (.rt v, p.2)
def forLive (turn : HV → Env → M (Fl × Env)) (n : Nat) : Nat → Nat → Env → M (Fl × Env)
  | 0, _, _ => fun _ => none
  | k + 1, i, env => fun h => match h[n]? with
    | some (.lst xs) => match xs[i]? with
      | some x => bnd (turn x env) (fun p => match p.1 with
        | .nx => forLive turn n k (i + 1) p.2
        | .ct => forLive turn n k (i + 1) p.2
        | .bk => ret (.nx, p.2)
        | .rt v => ret (.rt v, p.2)) h
      | none => some ((.nx, env), h)
    | _ => none
def forV (turn : HV → Env → M (Fl × Env)) : Its → Env → M (Fl × Env)
  | .seq xs => forSeq turn xs
  | .live n => forLive turn n 16777217 0
def whileV (test : Env → M Bool) (body : Env → M (Fl × Env)) : Nat → Env → M (Fl × Env)
  | 0, _ => fun _ => none
  | k + 1, env => bnd (test env) fun b => if b then bnd (body env) fun p => match p.1 with
      | .nx => whileV test body k p.2
      | .ct => whileV test body k p.2
      | .bk => ret (.nx, p.2)
      | .rt v => ret (.rt v, p.2)
    else ret (.nx, env)

def augV (op : BOp) (v : HV) (y : RV) : Option HV := match v, y with
  | .d (.int a), .hv (.d (.int b)) => match op with
    | .add => some (.d (.int (a + b)))
    | .sub => some (.d (.int (a - b)))
    | _ => none
  | _, _ => none
mutual
def ex (C : CallT) : S → Env → M (Fl × Env)
  | .asg tg e, env => bnd (ev C e env) fun x => bnd (lift (hvOf x)) fun v => bnd (storeTop C tg v env) fun env1 => ret (.nx, env1)
  | .par swp ts es, env => bnd (evs C es env) fun xs => bnd (lift (hvs? xs)) fun vs => bnd (chk (lenOk vs.length && decide (vs.length = ts.length))) fun _ => bnd (if swp then storeAts C ts.reverse vs.reverse env else storeAts C ts vs env) fun env1 => ret (.nx, env1)
  | .aug i op e, env => bnd (lift (getVar env i)) fun v => bnd (ev C e env) fun y => bnd (lift (augV op v y)) fun w => bnd (lift (setAt env i w)) fun env1 => ret (.nx, env1)
  | .expr e, env => bnd (ev C e env) fun _ => ret (.nx, env)
  | .ret e, env => bnd (ev C e env) fun x => ret (.rt x, env)
  | .ite c a b, env => bnd (ev C c env) fun x => bnd (lift (toBool x)) fun r => if r then exs C a env else exs C b env
  | .for_ tg it body, env => bnd (evI C it env) fun its => forV (fun x env => bnd (lift (store tg x env)) fun env1 => exs C body env1) its env
  | .while_ fuel c body, env => whileV (fun env => bnd (ev C c env) fun x => lift (toBool x)) (exs C body) fuel env
  | .brk, env => ret (.bk, env)
  | .cont, env => ret (.ct, env)
  | .never, _ => stuck
def exs (C : CallT) : List S → Env → M (Fl × Env)
  | [], env => ret (.nx, env)
  | s :: r, env => bnd (ex C s env) fun p => match p.1 with
    | .nx => exs C r p.2
    | .rt v => ret (.rt v, p.2)
    | .bk => ret (.bk, p.2)
    | .ct => ret (.ct, p.2)
end

/-! ### defs -/
structure Fn where
  name : Str
  np : Nat
  ns : Nat
  body : List S
def lookF (x : Str) : List Fn → Option Fn
  | [] => none
  | f :: r => if f.name == x then some f else lookF x r
def runFn (C : CallT) (f : Fn) (args : List HV) : M RV := fun h =>
  if args.length == f.np then match exs C f.body (args.map some ++ List.replicate (f.ns - f.np) none) h with
    | some ((.rt v, _), h1) => some (v, h1)
    | some ((.nx, _), h1) => some (rD .none, h1)
    | _ => none
  else none
def callN (T : List Fn) : Nat → CallT
  | 0 => fun _ _ _ => none
  | n + 1 => fun x args => match lookF x T with
    | some f => runFn (callN T n) f args
    | none => fun _ => none
end Ev

set_option Elab.async false
set_option linter.all false
set_option maxRecDepth 100000
set_option maxHeartbeats 4000000
/-! Rel: how the evaluator's values and heap stand for the hand layer's. -/
namespace Ev
open PySem PySem.Spec PyProof.Rows L2

/-- objects that are never written -/
def Imm : HO → Prop
  | .tup _ => True
  | .frz _ _ => True
  | _ => False
/-- a list that is never written any more -/
def FzL (H : L2.Hp) (a : Addr) (vs : List V) : Prop := ∃ o, H a = some (.frz o (.lst vs))
theorem FzL.rd {H : L2.Hp} {a : Addr} {vs : List V} (h : FzL H a vs) : Rd H a (.lst vs) := .inr h
theorem FzL.sq {K : PySem.W.Frag} {H : L2.Hp} {a : Addr} {vs : List V} (h : FzL H a vs) : SqL K H a vs := .inl (.inr h)
/-- a tuple without a namespace of its own -/
def TupX (K : PySem.W.Frag) (H : L2.Hp) (a : Addr) (vs : List V) : Prop := (∃ o, H a = some (.frz o (.tup vs)) ∧ o.dict = none) ∨
  ∃ o its n, K.lookup a = some o ∧ o.cls = .type "tuple" ∧ o.dict = none ∧ o.data = .seq its n ∧ its.size ≤ sizeLine ∧ Vals vs its.toList
theorem TupX.sq {K : PySem.W.Frag} {H : L2.Hp} {a : Addr} {vs : List V} : TupX K H a vs → SqT K H a vs
  | .inl ⟨o, h, _⟩ => .inl (.inr ⟨o, h⟩)
  | .inr ⟨o, its, n, h1, h2, _, h4, h5, h6⟩ => .inr ⟨o, its, n, h1, h2, h4, h5, h6⟩
mutual
def RD (K : PySem.W.Frag) (H : L2.Hp) : PyData → V → Prop
  | .none, v => v = .non
  | .bool b, v => v = .bl b
  | .int i, v => v = .int i
  | .str x, v => v = .str x
  | .tuple ds, v => ∃ a vs, v = .ref a ∧ TupX K H a vs ∧ RDs K H ds vs
  | .list ds, v => ∃ a vs, v = .ref a ∧ FzL H a vs ∧ RDs K H ds vs
  | .dict _, _ => False
def RDs (K : PySem.W.Frag) (H : L2.Hp) : List PyData → List V → Prop
  | [], vs => vs = []
  | d :: ds, vs => ∃ v r, vs = v :: r ∧ RD K H d v ∧ RDs K H ds r
end
section
variable {K : PySem.W.Frag} {H H' : L2.Hp}
mutual
theorem RD.dp : ∀ (d : PyData) (v : V), RD K H d v → Dp K H v d
  | .none, v, h => by rw [show v = .non from h]; exact .non
  | .bool b, v, h => by rw [show v = .bl b from h]; exact .bl b
  | .int i, v, h => by rw [show v = .int i from h]; exact .int i
  | .str x, v, h => by rw [show v = .str x from h]; exact .str x
  | .tuple ds, v, h => by
    obtain ⟨a, vs, rfl, h1, h2⟩ := h
    exact .tup h1.sq (RDs.dp ds vs h2)
  | .list ds, v, h => by
    obtain ⟨a, vs, rfl, h1, h2⟩ := h
    exact .lst (FzL.sq h1) (RDs.dp ds vs h2)
  | .dict _, _, h => h.elim
theorem RDs.dp : ∀ (ds : List PyData) (vs : List V), RDs K H ds vs → DpAll K H vs ds
  | [], vs, h => by rw [show vs = [] from h]; exact .nil
  | d :: ds, vs, h => by
    obtain ⟨v, r, rfl, h1, h2⟩ := h
    exact .cons (RD.dp d v h1) (RDs.dp ds r h2)
end
theorem SqT.mono {a : Addr} {vs : List V} (k : ∀ b o, H b = some o → Imm o → H' b = some o) (h : SqT K H a vs) : SqT K H' a vs := by
  rcases h with h | h
  · rcases h with h | ⟨o, h⟩
    · exact .inl (.inl (k _ _ h True.intro))
    · exact .inl (.inr ⟨o, k _ _ h True.intro⟩)
  · exact .inr h
theorem TupX.mono {a : Addr} {vs : List V} (k : ∀ b o, H b = some o → Imm o → H' b = some o) : TupX K H a vs → TupX K H' a vs
  | .inl ⟨o, h, d⟩ => .inl ⟨o, k _ _ h True.intro, d⟩
  | .inr h => .inr h
theorem FzL.mono {a : Addr} {vs : List V} (k : ∀ b o, H b = some o → Imm o → H' b = some o) (h : FzL H a vs) : FzL H' a vs := by
  obtain ⟨o, h⟩ := h
  exact ⟨o, k _ _ h True.intro⟩
mutual
theorem RD.mono (k : ∀ b o, H b = some o → Imm o → H' b = some o) : ∀ (d : PyData) (v : V), RD K H d v → RD K H' d v
  | .none, v, h => h
  | .bool b, v, h => h
  | .int i, v, h => h
  | .str x, v, h => h
  | .tuple ds, v, h => by
    obtain ⟨a, vs, e, h1, h2⟩ := h
    exact ⟨a, vs, e, TupX.mono k h1, RDs.mono k ds vs h2⟩
  | .list ds, v, h => by
    obtain ⟨a, vs, e, h1, h2⟩ := h
    exact ⟨a, vs, e, FzL.mono k h1, RDs.mono k ds vs h2⟩
  | .dict _, _, h => h.elim
theorem RDs.mono (k : ∀ b o, H b = some o → Imm o → H' b = some o) : ∀ (ds : List PyData) (vs : List V), RDs K H ds vs → RDs K H' ds vs
  | [], vs, h => h
  | d :: ds, vs, h => by
    obtain ⟨v, r, e, h1, h2⟩ := h
    exact ⟨v, r, e, RD.mono k d v h1, RDs.mono k ds r h2⟩
end
end

/-- the law's script: a list that nobody writes, or one of the module's own -/
def ScrX (K : PySem.W.Frag) (H : L2.Hp) (a : Addr) (vs : List V) : Prop := FzL H a vs ∨
  ∃ o its n, K.lookup a = some o ∧ o.cls = .type "list" ∧ o.dict = none ∧ o.data = .seq its n ∧ its.size ≤ sizeLine ∧ Vals vs its.toList
theorem ScrX.sq {K : PySem.W.Frag} {H : L2.Hp} {a : Addr} {vs : List V} : ScrX K H a vs → SqL K H a vs
  | .inl h => h.sq
  | .inr h => .inr h
theorem ScrX.mono {K : PySem.W.Frag} {H H' : L2.Hp} {a : Addr} {vs : List V} (k : ∀ b o, H b = some o → Imm o → H' b = some o) : ScrX K H a vs → ScrX K H' a vs
  | .inl h => .inl (FzL.mono k h)
  | .inr h => .inr h
/-- a value of the evaluator -/
def RH (K : PySem.W.Frag) (ρ : List Addr) (H : L2.Hp) : HV → V → Prop
  | .d x, v => RD K H x v
  | .ref n, v => ∃ a, ρ[n]? = some a ∧ v = .ref a
  | .scr ns, v => ∃ a, v = .ref a ∧ ScrX K H a (ns.map V.int)
  | .ty n, v => v = .ty n
abbrev RHs (K : PySem.W.Frag) (ρ : List Addr) (H : L2.Hp) : List HV → List V → Prop := Paired (RH K ρ H)
def RO (K : PySem.W.Frag) (ρ : List Addr) (H : L2.Hp) : Ob → Addr → Prop
  | .lst xs, a => ∃ vs, H a = some (.lst vs) ∧ RHs K ρ H xs vs
  | .frz ds, a => ∃ o vs, H a = some (.frz o (.lst vs)) ∧ RDs K H ds vs
  | .dic _, _ => False
structure HRel (K : PySem.W.Frag) (ρ : List Addr) (hp : Hp) (H : L2.Hp) : Prop where
  len : ρ.length = hp.length
  nd : ρ.Nodup
  ob : ∀ (n : Nat) (o : Ob) (a : Addr), hp[n]? = some o → ρ[n]? = some a → RO K ρ H o a
structure Step (ρ : List Addr) (H : L2.Hp) (ρ' : List Addr) (H' : L2.Hp) : Prop where
  pre : ∃ new, ρ' = ρ ++ new ∧ ∀ b ∈ new, H b = none
  keep : ∀ b o, H b = some o → b ∉ ρ → H' b = some o
  imm : ∀ b o, H b = some o → Imm o → H' b = some o
  there : ∀ b, H b ≠ none → H' b ≠ none
theorem Step.refl {ρ : List Addr} {H : L2.Hp} : Step ρ H ρ H := ⟨⟨[], by simp, by simp⟩, fun _ _ h _ => h, fun _ _ h _ => h, fun _ h => h⟩
theorem Step.trans {ρ ρ1 ρ2 : List Addr} {H H1 H2 : L2.Hp} (a : Step ρ H ρ1 H1) (b : Step ρ1 H1 ρ2 H2) : Step ρ H ρ2 H2 := by
  obtain ⟨n1, e1, f1⟩ := a.pre
  obtain ⟨n2, e2, f2⟩ := b.pre
  have fresh2 : ∀ c ∈ n2, H c = none := fun c hc => by
    cases q : H c with
    | none => rfl
    | some o => exact absurd (f2 c hc) (a.there c (by rw [q]; simp))
  refine ⟨⟨n1 ++ n2, by rw [e2, e1, List.append_assoc], fun c hc => ?_⟩, fun c o h hn => b.keep c o (a.keep c o h hn) fun hc => ?_, fun c o h i => b.imm c o (a.imm c o h i) i, fun c h => b.there c (a.there c h)⟩
  · rcases List.mem_append.mp hc with hc | hc
    · exact f1 c hc
    · exact fresh2 c hc
  · rw [e1] at hc
    rcases List.mem_append.mp hc with hc | hc
    · exact hn hc
    · rw [f1 c hc] at h; cases h
section
variable {K : PySem.W.Frag} {ρ ρ' ρ1 ρ2 : List Addr} {H H0 H' H1 H2 : L2.Hp} {hp : Hp}
theorem Step.get (s : Step ρ H ρ' H') {n : Nat} {a : Addr} (h : ρ[n]? = some a) : ρ'[n]? = some a := by
  obtain ⟨new, rfl, _⟩ := s.pre
  rw [List.getElem?_append_left (List.getElem?_eq_some_iff.mp h).1]
  exact h
theorem RH.mono (s : Step ρ H ρ' H') {x : HV} {v : V} (h : RH K ρ H x v) : RH K ρ' H' x v := by
  cases x with
  | d x => exact RD.mono s.imm x v h
  | ref n =>
    obtain ⟨a, h1, h2⟩ := h
    exact ⟨a, s.get h1, h2⟩
  | scr ns =>
    obtain ⟨a, h1, h2⟩ := h
    exact ⟨a, h1, h2.mono s.imm⟩
  | ty n => exact h
theorem RHs.mono (s : Step ρ H ρ' H') {xs : List HV} {vs : List V} (h : RHs K ρ H xs vs) : RHs K ρ' H' xs vs := Paired.mapP h fun _ _ q => RH.mono s q
/-- a tracked object of the evaluator stands -/
theorem RO.some {o : Ob} {a : Addr} (h : RO K ρ H o a) : H a ≠ none := by
  cases o with
  | lst xs => obtain ⟨vs, e, _⟩ := h; rw [e]; simp
  | frz ds => obtain ⟨o, vs, e, _⟩ := h; rw [e]; simp
  | dic kvs => exact h.elim
theorem HRel.tracked (h : HRel K ρ hp H) {a : Addr} (ha : a ∈ ρ) : H a ≠ none := by
  obtain ⟨n, hn, e⟩ := List.mem_iff_getElem.mp ha
  have hn' : n < hp.length := by rw [← h.len]; exact hn
  exact RO.some (h.ob n hp[n] a (List.getElem?_eq_getElem hn') (by rw [List.getElem?_eq_getElem hn, e]))
theorem HRel.get (h : HRel K ρ hp H) {n : Nat} {o : Ob} (e : hp[n]? = some o) : ∃ a, ρ[n]? = some a ∧ RO K ρ H o a := by
  have hn : n < ρ.length := by rw [h.len]; exact (List.getElem?_eq_some_iff.mp e).1
  exact ⟨ρ[n], List.getElem?_eq_getElem hn, h.ob n o _ e (List.getElem?_eq_getElem hn)⟩
theorem HRel.nil : HRel K [] [] H := ⟨rfl, List.nodup_nil, fun n o a e _ => by simp at e⟩

/-- what an expression gives, over the base H0 -/
def RR (K : PySem.W.Frag) (H0 : L2.Hp) (ρ : List Addr) (H : L2.Hp) : RV → V → Prop
  | .hv x, v => RH K ρ H x v
  | .fresh xs, v => ∃ a vs, v = .ref a ∧ H0 a = none ∧ a ∉ ρ ∧ H a = some (.lst vs) ∧ RHs K ρ H xs vs
abbrev RRs (K : PySem.W.Frag) (H0 : L2.Hp) (ρ : List Addr) (H : L2.Hp) : List RV → List V → Prop := Paired (RR K H0 ρ H)
def Le (H0 H : L2.Hp) : Prop := ∀ b, H0 b ≠ none → H b ≠ none
theorem Le.refl : Le H H := fun _ h => h
theorem Le.step (l : Le H0 H) (s : Step ρ H ρ' H') : Le H0 H' := fun b h => s.there b (l b h)
theorem Le.none (l : Le H0 H) {b : Addr} (h : H b = none) : H0 b = none := by
  cases q : H0 b with
  | none => rfl
  | some o => exact absurd h (l b (by rw [q]; simp))
theorem RR.mono (s : Step ρ H ρ' H') {x : RV} {v : V} (h : RR K H0 ρ H x v) : RR K H0 ρ' H' x v := by
  cases x with
  | hv x => exact RH.mono s h
  | fresh xs =>
    obtain ⟨a, vs, e, n, na, ea, r⟩ := h
    obtain ⟨new, e', f⟩ := s.pre
    refine ⟨a, vs, e, n, fun hc => ?_, s.keep a _ ea na, r.mono s⟩
    rw [e'] at hc
    rcases List.mem_append.mp hc with hc | hc
    · exact na hc
    · rw [f a hc] at ea; cases ea
theorem RR.base (l : Le H0 H1) {x : RV} {v : V} (h : RR K H1 ρ H x v) : RR K H0 ρ H x v := by
  cases x with
  | hv x => exact h
  | fresh xs =>
    obtain ⟨a, vs, e, n, na, ea, r⟩ := h
    exact ⟨a, vs, e, l.none n, na, ea, r⟩
theorem RRs.mono (s : Step ρ H ρ' H') {xs : List RV} {vs : List V} (h : RRs K H0 ρ H xs vs) : RRs K H0 ρ' H' xs vs := Paired.mapP h fun _ _ q => RR.mono s q
theorem RRs.base (l : Le H0 H1) {xs : List RV} {vs : List V} (h : RRs K H1 ρ H xs vs) : RRs K H0 ρ H xs vs := Paired.mapP h fun _ _ q => RR.base l q

/-! ### what stands at a sequence -/
theorem RDs.rhs : ∀ {ds : List PyData} {vs : List V}, RDs K H ds vs → RHs K ρ H (ds.map .d) vs
  | [], vs, h => by rw [show vs = [] from h]; exact .nil
  | d :: ds, vs, h => by
    obtain ⟨v, r, rfl, h1, h2⟩ := h
    exact .cons h1 (RDs.rhs h2)
theorem allData_eq : ∀ {xs : List HV} {ds : List PyData}, allData xs = some ds → xs = ds.map .d
  | [], ds, h => by
    unfold allData at h
    cases h
    rfl
  | .d x :: r, ds, h => by
    unfold allData at h
    cases e : allData r with
    | none => rw [e] at h; cases h
    | some es =>
      rw [e] at h
      cases h
      rw [allData_eq e]
      rfl
  | .ref _ :: _, _, h => by unfold allData at h; cases h
  | .scr _ :: _, _, h => by unfold allData at h; cases h
  | .ty _ :: _, _, h => by unfold allData at h; cases h
theorem RHs.rds : ∀ {ds : List PyData} {vs : List V}, RHs K ρ H (ds.map .d) vs → RDs K H ds vs
  | [], vs, h => by cases h; rfl
  | d :: ds, vs, h => by
    cases h with
    | cons h1 h2 => exact ⟨_, _, rfl, h1, RHs.rds h2⟩
theorem getLst_rel (hr : HRel K ρ hp H) {x : RV} {v : V} {xs : List HV} (r : RR K H0 ρ H x v) (e : getLst hp x = some xs) : ∃ a vs, v = .ref a ∧ Rd H a (.lst vs) ∧ RHs K ρ H xs vs := by
  cases x with
  | hv x =>
    cases x with
    | d d =>
      cases d with
      | list ds =>
        have e' : some (ds.map HV.d) = some xs := e
        cases e'
        obtain ⟨a, vs, rfl, h1, h2⟩ := r
        exact ⟨a, vs, rfl, FzL.rd h1, h2.rhs⟩
      | _ => cases e
    | ref n =>
      obtain ⟨a, h1, rfl⟩ := r
      simp only [getLst] at e
      cases q : hp[n]? with
      | none => rw [q] at e; cases e
      | some o =>
        have ro := hr.ob n o a q h1
        rw [q] at e
        cases o with
        | lst ys =>
          cases e
          obtain ⟨vs, e1, r1⟩ := ro
          exact ⟨a, vs, rfl, .inl e1, r1⟩
        | frz ds =>
          cases e
          obtain ⟨o, vs, e1, r1⟩ := ro
          exact ⟨a, vs, rfl, .inr ⟨o, e1⟩, r1.rhs⟩
        | dic kvs => cases e
    | scr x => cases e
    | ty n => cases e
  | fresh ys =>
    have e' : some ys = some xs := e
    cases e'
    obtain ⟨a, vs, rfl, _, _, ea, r⟩ := r
    exact ⟨a, vs, rfl, .inl ea, r⟩
theorem getTrk_rel (hr : HRel K ρ hp H) {x : RV} {v : V} {xs : List HV} (r : RR K H0 ρ H x v) (e : getTrk hp x = some xs) : ∃ a vs, v = .ref a ∧ H a = some (.lst vs) ∧ RHs K ρ H xs vs := by
  cases x with
  | hv x =>
    cases x with
    | d d => cases e
    | ref n =>
      obtain ⟨a, h1, rfl⟩ := r
      simp only [getTrk] at e
      cases q : hp[n]? with
      | none => rw [q] at e; cases e
      | some o =>
        have ro := hr.ob n o a q h1
        rw [q] at e
        cases o with
        | lst ys =>
          cases e
          obtain ⟨vs, e1, r1⟩ := ro
          exact ⟨a, vs, rfl, e1, r1⟩
        | frz ds => cases e
        | dic kvs => cases e
    | scr x => cases e
    | ty n => cases e
  | fresh ys =>
    have e' : some ys = some xs := e
    cases e'
    obtain ⟨a, vs, rfl, _, _, ea, r⟩ := r
    exact ⟨a, vs, rfl, ea, r⟩
theorem getSeq_rel (hr : HRel K ρ hp H) {x : RV} {v : V} {xs : List HV} (r : RR K H0 ρ H x v) (e : getSeq hp x = some xs) : ∃ a vs, v = .ref a ∧ (Rd H a (.lst vs) ∨ TupX K H a vs) ∧ RHs K ρ H xs vs := by
  have key : getLst hp x = some xs → ∃ a vs, v = .ref a ∧ (Rd H a (.lst vs) ∨ TupX K H a vs) ∧ RHs K ρ H xs vs := fun e => by
    obtain ⟨a, vs, h1, h2, h3⟩ := getLst_rel hr r e
    exact ⟨a, vs, h1, .inl h2, h3⟩
  cases x with
  | hv x =>
    cases x with
    | d d =>
      cases d with
      | tuple ds =>
        have e' : some (ds.map HV.d) = some xs := e
        cases e'
        obtain ⟨a, vs, rfl, h1, h2⟩ := r
        exact ⟨a, vs, rfl, .inr h1, h2.rhs⟩
      | _ => exact key e
    | _ => exact key e
  | fresh ys => exact key e
theorem ints_rhs : ∀ ns : List Int, RHs K ρ H (ns.map fun i => .d (.int i)) (ns.map V.int)
  | [] => .nil
  | n :: ns => .cons rfl (ints_rhs ns)
theorem getSeq_rel' (hr : HRel K ρ hp H) {x : RV} {v : V} {xs : List HV} (r : RR K H0 ρ H x v) (e : getSeq hp x = some xs) : ∃ a vs, v = .ref a ∧ (Rd H a (.lst vs) ∨ SqT K H a vs) ∧ RHs K ρ H xs vs := by
  obtain ⟨a, vs, h1, h2, h3⟩ := getSeq_rel hr r e
  exact ⟨a, vs, h1, h2.imp id TupX.sq, h3⟩
theorem getAny_rel (hr : HRel K ρ hp H) {x : RV} {v : V} {xs : List HV} (r : RR K H0 ρ H x v) (e : getAny hp x = some xs) : ∃ a vs, v = .ref a ∧ (SqL K H a vs ∨ SqT K H a vs) ∧ RHs K ρ H xs vs := by
  unfold getAny at e
  split at e
  · cases e
    obtain ⟨a, rfl, h⟩ := r
    exact ⟨a, _, rfl, .inl h.sq, ints_rhs _⟩
  · obtain ⟨a, vs, h1, h2, h3⟩ := getSeq_rel' hr r e
    exact ⟨a, vs, h1, h2.imp .inl id, h3⟩
theorem getAnyL_rel (hr : HRel K ρ hp H) {x : RV} {v : V} {xs : List HV} (r : RR K H0 ρ H x v) (e : getAnyL hp x = some xs) : ∃ a vs, v = .ref a ∧ SqL K H a vs ∧ RHs K ρ H xs vs := by
  unfold getAnyL at e
  split at e
  · cases e
    obtain ⟨a, rfl, h⟩ := r
    exact ⟨a, _, rfl, h.sq, ints_rhs _⟩
  · obtain ⟨a, vs, h1, h2, h3⟩ := getLst_rel hr r e
    exact ⟨a, vs, h1, .inl h2, h3⟩
theorem getDat_rel (hr : HRel K ρ hp H) {x : RV} {v : V} {d : PyData} (r : RR K H0 ρ H x v) (e : getDat hp x = some d) : Dp K H v d := by
  have lstc : ∀ {xs : List HV} {vs : List V} {a : Addr}, (match allData xs with | some ds => some (PyData.list ds) | none => none) = some d → SqL K H a vs → RHs K ρ H xs vs → Dp K H (.ref a) d := fun {xs vs a} e s q => by
    cases z : allData xs with
    | none => rw [z] at e; cases e
    | some ds =>
      rw [z] at e
      cases e
      rw [allData_eq z] at q
      exact .lst s (RDs.dp _ _ q.rds)
  cases x with
  | hv x =>
    cases x with
    | d y =>
      have e' : some y = some d := e
      cases e'
      exact RD.dp _ _ r
    | ref n =>
      obtain ⟨a, h1, rfl⟩ := r
      simp only [getDat] at e
      cases q : hp[n]? with
      | none => rw [q] at e; cases e
      | some o =>
        have ro := hr.ob n o a q h1
        rw [q] at e
        cases o with
        | lst ys =>
          obtain ⟨vs, e1, r1⟩ := ro
          exact lstc e (.inl (.inl e1)) r1
        | frz ds =>
          obtain ⟨o, vs, e1, r1⟩ := ro
          have e' : some (PyData.list ds) = some d := e
          cases e'
          exact .lst (.inl (.inr ⟨o, e1⟩)) (RDs.dp _ _ r1)
        | dic kvs => cases e
    | scr x => cases e
    | ty n => cases e
  | fresh ys =>
    obtain ⟨a, vs, rfl, _, _, ea, q⟩ := r
    exact lstc e (.inl (.inl ea)) q
end
end Ev

set_option Elab.async false
set_option linter.all false
set_option maxRecDepth 100000
set_option maxHeartbeats 4000000
/-! Tx: what makes a tuple, told with the object that was laid (no namespace of its own). -/
namespace Ev
open PySem PySem.Spec PyProof.Rows L2
/-- a new tuple, known whole -/
def newT (H : L2.Hp) (vs : List V) (Q : VK) : Prop := ∀ p o, H p = none → o.dict = none → Q (.ref p) (upd H p (.frz o (.tup vs)))
abbrev tupO (its : List Value) : Obj := { cls := .type "tuple", data := .seq its.toArray }
section
variable {X : Cx} {pins : List (Addr × Obj)} {σ : L2.St} {H : L2.Hp} {s : Shared}
theorem layT {Q : VK} {vs : List V} {its : List Value} (k : Nat) (I : L2.Inv X pins σ H s) (r : Vals vs its) (hz : vs.length ≤ sizeLine) (q : newT H vs Q) :
    EP X pins σ Q (.ref s.heap.objs.size) { s with heap := s.heap.push (tupO its), toks := k } :=
  ⟨.ref s.heap.objs.size, upd H s.heap.objs.size (.frz (tupO its) (.tup vs)),
    I.laid (t' := k) (fun _ _ z => Heap.get?_push_of_some _ z) (Nat.le_refl _) (show ObjOk X.prog X.w _ _ _ (.frz (tupO its) (.tup vs)) from ⟨Heap.get?_push_size _ rfl, hz, its, r, IsTup.new _ _⟩),
    rfl, q _ (tupO its) (I.hok.fresh (Nat.le_refl _)) rfl⟩
/-- t + u -/
def rCatX (K : PySem.W.Frag) : R2 := fun x y H Q => ∃ a b xs ys, x = .ref a ∧ y = .ref b ∧ SqT K H a xs ∧ SqT K H b ys ∧ xs.length + ys.length ≤ sizeLine ∧
  (xs = [] → Q (.ref b) H) ∧ (ys = [] → Q (.ref a) H) ∧ newT H (xs ++ ys) Q
theorem op_catX : OpR X (binaryOp .Add) (rCatX X.K) := by
  intro pins s σ H x y v u Q I rx ry ⟨a, b, xs, ys, ex, ey, ha, hb, hz, q0, q1, q2⟩
  subst ex ey
  cases rx
  cases ry
  obtain ⟨l1, r1, t1, _⟩ := I.tuple ha
  obtain ⟨l2, r2, t2, _⟩ := I.tuple hb
  have n1 := r1.length
  have n2 := r2.length
  by_cases h0 : xs = []
  · subst h0
    cases r1
    exact cat_tup0 t1 t2 ⟨.ref b, H, I, rfl, q0 rfl⟩
  · have g0 : l1 ≠ [] := fun z => h0 (r1.nil_iff.mp z)
    have g1 : l2 = [] → EP X pins σ Q (.ref a) s := fun z => ⟨.ref a, H, I, rfl, q1 (r2.nil_iff.mp z)⟩
    exact HT.cat_tup t1 t2 g0 g1 (fun _ => layT s.toks I (r1.append r2) (by rw [List.length_append]; exact hz) q2) (by omega)
/-- t[lo:hi] -/
def rSlX (K : PySem.W.Frag) : V → Option Int → Option Int → L2.Hp → VK → Prop := fun x lo hi H Q => ∃ a xs, x = .ref a ∧ SqT K H a xs ∧
  (cutV xs lo hi = xs → Q (.ref a) H) ∧ newT H (cutV xs lo hi) Q
theorem sl_tupX : SlR X (rSlX X.K) := by
  intro pins s σ H x v vl vu lo hi sl Q I rx hs pl pu ⟨a, xs, ex, hx, q1, q2⟩
  subst ex
  cases rx
  obtain ⟨its, r, ht, hz⟩ := I.tuple hx
  have hlen : its.toArray.size = xs.length := by rw [List.size_toArray]; exact r.length.symm
  refine ⟨"tuple", _, slot_tuple_getitem.lookup, ht.typeIs, ?_⟩
  by_cases hw : HT.sIx xs.length 0 lo = 0 ∧ HT.sIx xs.length xs.length hi = xs.length
  · have ec : cutV xs lo hi = xs := by
      unfold cutV
      rw [hw.1, hw.2]
      simp
    exact getItem_tuple_whole ht hs pl pu (by rw [hlen]; exact hw) ⟨.ref a, H, I, rfl, q1 ec⟩
  · have cut := (r.drop (HT.sIx xs.length 0 lo)).take (HT.sIx xs.length xs.length hi - HT.sIx xs.length 0 lo)
    refine HT.getItem_tuple_cut ht hs pl pu (by rw [hlen]; exact hw) ?_ (by rw [hlen]; exact hz)
    rw [hlen]
    exact layT s.toks I cut (Nat.le_trans (cutV_length xs lo hi) hz) q2
/-- tuple(..) of a list, of a tuple -/
theorem call_tupleX : CallR X (.type "tuple") (fun xs H Q => ∃ p ys, xs = [.ref p] ∧ ((SqL X.K H p ys ∧ newT H ys Q) ∨ (SqT X.K H p ys ∧ Q (.ref p) H))) := by
  intro pins s σ H xs us Q I r ⟨p, ys, ex, h⟩
  subst ex
  obtain ⟨u, eu, rx⟩ := vals1 r
  subst eu
  cases rx
  rcases h with ⟨hq, q⟩ | ⟨hq, q⟩
  · obtain ⟨its, r', pl, hz⟩ := I.list hq
    have n1 := r'.length
    exact call_tuple_list pl.isList (fun g kp => layT s.toks (I.kept (t' := s.toks) kp : L2.Inv X pins σ H { s with heap := g }) r' hz q) (by simp only [List.size_toArray] <;> omega)
  · obtain ⟨its, _, pl, _⟩ := I.tuple hq
    exact call_tuple_same pl ⟨.ref p, H, I, rfl, q⟩
theorem call_divX : CallR X (.builtin "divmod") (fun xs H Q => ∃ i j, xs = [.int i, .int j] ∧ CDiv i j ∧ newT H [.int (i / j), .int (i % j)] Q) := by
  intro pins s σ H xs us Q I r ⟨i, j, ex, ⟨p1, p2⟩, q⟩
  subst ex
  obtain ⟨u, w', eu, ⟨t, ex⟩, ⟨t', ey⟩⟩ := vals2 r
  subst eu ex ey
  refine divmod_int (by omega) ?_ (.inl (PyProof.noPylong_small (by omega)))
  rw [Int.fdiv_eq_ediv_of_nonneg i (by omega), Int.fmod_eq_emod_of_nonneg i (by omega)]
  exact layT (its := [.int (i / j) s.toks, .int (i % j) (s.toks + 1)]) (s.toks + 1 + 1) I (.cons (a := V.int (i / j)) ⟨_, rfl⟩ (.cons (a := V.int (i % j)) ⟨_, rfl⟩ .nil)) (show 2 ≤ sizeLine by rw [sizeLine_eq]; decide) q
/-- a written tuple -/
def tTupX (t : TA) : TE := fun σ H Q => t σ H fun xs H1 => xs.length ≤ sizeLine ∧ newT H1 xs Q
theorem pe_tupX {es : List Expr} {t : TA} {pos : Pos} {k} (h : PA X es t) : PE X (.Tuple es k pos) (tTupX t) := by
  refine ⟨fun pins s σ H Q I hq => wpAny_Tuple_spliced (thn (h.run pos pins s σ H _ I hq) fun us s1 ⟨xs, H1, I1, r, z, q⟩ => ?_)⟩
  have n1 := r.length
  exact ⟨by omega, layT s1.toks I1 r z q⟩
/-- t * k -/
def rRepX (K : PySem.W.Frag) : R2 := fun x y H Q => ∃ l k xs, x = .ref l ∧ y = .int k ∧ SqT K H l xs ∧ xs ≠ [] ∧ 2 ≤ k ∧ k ≤ 1000 ∧ xs.length ≤ 1000 ∧ newT H (List.replicate k.toNat xs).flatten Q
theorem op_repX : OpR X (binaryOp .Mult) (rRepX X.K) := by
  intro pins s σ H x y v u Q I rx ry ⟨l, k, xs, ex, ey, hT, hne, h1, h2, hz, q⟩
  subst ex ey
  cases rx
  obtain ⟨t, eu⟩ := ry
  subst eu
  obtain ⟨its, r, ⟨⟨c', dd, da, sl⟩, ho, hc, n, hd⟩, hs⟩ := I.tuple hT
  simp only at hc hd
  subst hc hd
  have n1 := r.length
  have hn : its ≠ [] := fun z => hne (r.nil_iff.mp z)
  have e0 : its.toArray.isEmpty = false := by
    cases its with
    | nil => exact absurd rfl hn
    | cons _ _ => rfl
  have fl : (List.replicate k.toNat xs).flatten.length ≤ sizeLine := by
    rw [lm_len_rep_flat, sizeLine_eq]
    exact Nat.le_trans (Nat.mul_le_mul (show k.toNat ≤ 1000 by omega) hz) (by decide)
  have rr := r.rep k.toNat
  have fl2 : (List.replicate k.toNat its).flatten.length ≤ sizeLine := by rw [← rr.length]; exact fl
  have big : ((its.toArray.size : Nat) : Int) * k ≤ 1000 * 1000 := by
    rw [List.size_toArray, ← n1]
    exact Int.mul_le_mul (by omega) h2 (by omega) (by omega)
  have d0 : (decide (k < -(2 ^ 63)) || decide (k ≥ 2 ^ 63)) = false := by
    simp only [Bool.or_eq_false_iff, decide_eq_false_iff_not]
    omega
  have d1 : (its.toArray.isEmpty || k == 1) = false := by
    simp only [e0, Bool.false_or, beq_eq_false_iff_ne]
    omega
  have d2 : (decide (k ≤ 0) || its.toArray.isEmpty) = false := by
    simp only [e0, Bool.or_false, decide_eq_false_iff_not]
    omega
  have d3 : Builtin.Tuple.tupleTooMany (((its.toArray.size : Nat) : Int) * k) = false := by
    unfold Builtin.Tuple.tupleTooMany
    rw [sizeLine_eq, decide_eq_false_iff_not]
    omega
  have e1 : (List.foldl (fun x1 x2 => x1 ++ x2) #[] (List.replicate k.toNat its.toArray)) = (List.replicate k.toNat its).flatten.toArray := size_rep its k.toNat
  have ti : s.TypeIs (.ref l) "tuple" := ⟨_, ho, rfl⟩
  have mul := tuple_mulW l its.toArray n dd sl k t d0 d1 d2 (by omega) d3 (by rw [e1, List.size_toArray]; exact fl2)
  rw [e1] at mul
  have rm := int_rmul_tuple k t l its.toArray n dd sl
  refine wpAny_binaryOp_repeat_ref (T := "tuple") (U := "int") (by decide) ti (fun z => typeIs_int z k t) noFill_tuple_mul F.fills_int_mul F.slot_int_rmul repeat_tuple F.slot_int_index.lookup ?_
  refine call_meets F.slot_int_rmul (typeIs_int s k t) F.entry_int_rmul (F.args_int_rmul_2 _ _) rm ⟨ho, rfl, ti, ?_⟩
  exact call_meets F.slot_tuple_mul ti F.entry_tuple_mul (F.args_tuple_mul_2 _ _) mul ⟨ho, layT s.toks I rr fl q⟩
/-- tuple(range(..)) -/
def tTupRgX (te : L2.St → L2.Hp → (Int → Int → L2.Hp → Prop) → Prop) : TE := fun σ H Q => te σ H fun a b H1 => RgOk a b ∧ newT H1 (rgV a b) Q
theorem pe_tupRgX {e : Expr} {te : L2.St → L2.Hp → (Int → Int → L2.Hp → Prop) → Prop} {p pos : Pos} (hc : X.calm = true) (hg : Gl X "tuple") (hm : X.mg "tuple" = none) (he : PRg X e te)
    (na : starEach [e] X.env = (false, eval e X.env) :: starEach [] X.env) : PE X (.Call (.Name "tuple" p) [e] [] pos) (tTupRgX te) := by
  refine ⟨fun pins s σ H Q I h => Call_ (ld_blt I hg hm boot_tuple (callWith_type1 (args_cons (thn (he pins s σ H _ I h) fun x s1 ⟨r, a, b, t, u, v, H1, ex, hr, I1, ⟨b1, b2, b3, b4, b5⟩, q⟩ => args_nil ?_) na) na))⟩
  subst ex
  refine call_tuple_range (n := (b - a).toNat) (I1.ok.hd hc) hr (small_one b1 b2 b3 b4) (rangeSize_nat a b) b5 fun g tk acc hk hi => ?_
  have kept : L2.Inv X pins σ H1 { s1 with heap := g, toks := tk } := I1.kept hk
  have lay := layT (its := acc.toList) tk kept (vals_rg hi) (by rw [rgV_length, sizeLine_eq]; omega) q
  simpa using lay
end
end Ev

set_option Elab.async false
set_option linter.all false
set_option maxRecDepth 100000
set_option maxHeartbeats 4000000
/-! Itr: enumerate and zip over lists and tuples in any mix, for the hand layer's loops. -/
namespace Ev
open PySem PySem.Spec PyProof.Rows L2
theorem meets_enum1 {v : Value} {o : Obj} {G : Heap → Prop} (B : Begins v o G) :
    Meets (Builtin.«enumerate.__new__» ⟨[.type "enumerate", v], []⟩) (fun _ R z => G z.heap ∧
      R (.ok (.ret (.ref (z.heap.push o).objs.size))) { z with heap := (z.heap.push o).push { cls := .type "enumerate", data := .fields #[.none, .bool false, .ref z.heap.objs.size, rawInt 0, .none, .none] } }) :=
  .of_wp fun pr wo A R z h => by
    obtain ⟨hp, g, d, tk, os⟩ := z
    obtain ⟨h1, h⟩ := h
    have hsub := sub_enumerate
    have it : ∀ {A' : Around} {E : Value → Shared → Prop} {Q : Value → Shared → Prop}, Q (.ref hp.objs.size) ⟨hp.push o, g, d, tk, os⟩ → wpAny (model pr wo) A' (pyIter v) Q E ⟨hp, g, d, tk, os⟩ :=
      fun q => B.iter pr wo _ _ ⟨hp, g, d, tk, os⟩ _ h1 q
    wp_walk using it
    refine wpAny_stack_any fun fr => wpAny_pure ?_
    split
    · rename_i c _ _ _ _ _
      cases (c == Value.type "enumerate") <;>
        (wp_walk using it
         exact ⟨_, rfl, h⟩)
    · wp_walk using it
      exact ⟨_, rfl, h⟩
/-- a list, or a tuple -/
def IterK (kd : Bool) (h : Heap) (it a : Addr) (i : Nat) : Prop := if kd then h.IsTupleIter it a i else h.IsListIter it a i
def SeqK (kd : Bool) (h : Heap) (a : Addr) (xs : Array Value) : Prop := if kd then h.IsTuple a xs else h.IsList a xs
def SqK (kd : Bool) (K : PySem.W.Frag) (H : L2.Hp) (a : Addr) (vs : List V) : Prop := if kd then SqT K H a vs else SqL K H a vs
def itObj (kd : Bool) (a : Addr) : Obj := if kd then { cls := .type "tuple_iterator", data := .fields #[.ref a, .int 0 0] } else { cls := .type "list_iterator", data := .fields #[.ref a, .int 0 0] }
theorem begK (kd : Bool) (a : Addr) (xs : Array Value) : Begins (.ref a) (itObj kd a) fun h => SeqK kd h a xs := by
  cases kd with
  | true => exact begins_tuple a xs
  | false => exact begins_list a xs
theorem drK {pr : Program} {w : World} {A : Around} (hh : A.handled = none) (kd : Bool) (it a : Addr) (ne : a ≠ it) (xs : Array Value) : Draws pr w A it [it, a] xs.size (fun i v => xs[i]? = some v) (fun i h => IterK kd h it a i ∧ SeqK kd h a xs) := by
  cases kd with
  | true => exact Draws.tuple hh it a ne xs
  | false => exact Draws.list hh it a ne xs
section
variable {h h' : Heap} {kd : Bool} {it a : Addr} {i : Nat} {xs : Array Value}
theorem IterK.at' (x : IterK kd h it a i) (k : ∀ o, h.get? it = some o → h'.get? it = some o) : IterK kd h' it a i := by
  cases kd with
  | true => exact Heap.IsTupleIter.at x k
  | false => exact Heap.IsListIter.at x k
theorem IterK.obj (x : IterK kd h it a i) : ∃ o c vs, h.get? it = some o ∧ o.cls = .type c ∧ o.data = .fields vs := by
  cases kd with
  | true => obtain ⟨o, e, c, d⟩ := (show h.IsTupleIter it a i from x); exact ⟨o, _, _, e, c, d⟩
  | false => obtain ⟨o, e, c, d⟩ := (show h.IsListIter it a i from x); exact ⟨o, _, _, e, c, d⟩
theorem SeqK.obj (x : SeqK kd h a xs) : ∃ o n, h.get? a = some o ∧ o.data = .seq xs n := by
  cases kd with
  | true => obtain ⟨o, e, _, n, d⟩ := (show h.IsTuple a xs from x); exact ⟨o, n, e, d⟩
  | false => obtain ⟨o, e, _, n, d⟩ := (show h.IsList a xs from x); exact ⟨o, n, e, d⟩
/-- a sequence is no record -/
theorem SeqK.ne {b : Addr} {o : Obj} {vs : Array Value} (x : SeqK kd h a xs) (e : h.get? b = some o) (d : o.data = .fields vs) : a ≠ b := fun z => by
  obtain ⟨o2, n, e2, d2⟩ := x.obj
  rw [z, e] at e2
  cases e2
  rw [d] at d2
  cases d2
theorem IterK.ne (x : IterK kd h it a i) (y : SeqK kd h a xs) : a ≠ it := by
  obtain ⟨o, c, vs, e, _, d⟩ := x.obj
  exact y.ne e d
end
section
variable {X : Cx} {pins : List (Addr × Obj)} {σ : L2.St} {H : L2.Hp} {s : Shared} {kd : Bool} {a : Addr} {vs ws : List V}
theorem sqK_at (I : L2.Inv X pins σ H s) (q : SqK kd X.K H a vs) : ∃ its : List Value, Vals vs its ∧ SeqK kd s.heap a its.toArray := by
  cases kd with
  | true => obtain ⟨its, r, p, _⟩ := I.tuple q; exact ⟨its, r, p⟩
  | false => obtain ⟨its, r, p, _⟩ := I.list q; exact ⟨its, r, p.isList⟩
theorem sqK_inj (I : L2.Inv X pins σ H s) (q : SqK kd X.K H a vs) (q' : SqK kd X.K H a ws) : vs = ws := by
  cases kd with
  | true => exact I.tuple_inj q q'
  | false => exact I.list_inj q q'
/-- the new tuple that was given out -/
theorem obj_T {T : Addr} {h' : Heap} {us : List Value} (hT : h'.IsTuple T us.toArray) (r : Vals vs us) (hz : vs.length ≤ 100) : ObjOk X.prog X.w (upd H T (.tup vs)) h' T (.tup vs) :=
  ⟨by rw [sizeLine_eq]; omega, us, r, hT⟩
end
/-! ### enumerate -/
def ItE (kd : Bool) (K : PySem.W.Frag) (a : Addr) : It :=
  ⟨fun i H => ∃ xs x, SqK kd K H a xs ∧ xs[i]? = some x, fun i H v H' => ∃ T x, v = .ref T ∧ H T = none ∧ H' = upd H T (.tup [.int (i : Nat), x]) ∧ ∀ xs, SqK kd K H a xs → xs[i]? = some x, fun i H => ∃ xs, SqK kd K H a xs ∧ xs.length = i⟩
theorem turnE {P : Program} {w : World} {K : PySem.W.Frag} {elts : List Expr} {kk : Nat} {tpos : Pos} (kd : Bool) (a e it : Addr) :
    Turn P w K (.Tuple elts kk tpos) (ItE kd K a) [e, it] e (fun i h => (∃ old, IsEnum h e it (0 + ((i : Nat) : Int)) old) ∧ IterK kd h it a i ∧ e ≠ it) where
  mem := by simp
  obj := fun i h st b hb => by
    obtain ⟨⟨old, he⟩, hi, _⟩ := st
    obtain ⟨o, c, vs, eo, _, d⟩ := hi.obj
    rcases List.mem_cons.mp hb with rfl | hb
    · exact ⟨_, he, fun v q => nomatch q⟩
    · rw [List.mem_singleton.mp hb]
      exact ⟨o, eo, fun v q => by rw [d] at q; cases q⟩
  keep := fun i h h' ⟨⟨old, he⟩, hi, hne⟩ k => ⟨⟨old, k e (by simp) _ he⟩, hi.at' fun o q => k it (by simp) o q, hne⟩
  item := by
    intro X hP hw hK hc i pins s σ H E I hf ⟨⟨old, he⟩, hit, hne⟩ ⟨xs, x, hq, hx⟩
    subst hP hw hK
    obtain ⟨its, rv, sq⟩ := sqK_at I hq
    obtain ⟨u, hu, ru⟩ := rv.get hx
    have hh := I.ok.hd hc
    have nea : a ≠ e := sq.ne he rfl
    have G := GoesN.enumFrom (elts := elts) (x1 := kk) (pos := tpos) 0 (drK (pr := X.prog) (w := X.w) (A := X.A.in1) hh kd it a (hit.ne sq) its.toArray) e hne (by simp [hne, Ne.symm nea]) (by simp)
    have hi : i < its.toArray.size := by
      rw [List.size_toArray]
      exact (List.getElem?_eq_some_iff.mp hu).1
    refine wpAny_mono (G.goes i s (fun v s2 => ∃ y H', L2.Inv X pins σ H' s2 ∧ RelV y v ∧ (ItE kd X.K a).yld i H y H' ∧ ((∃ old, IsEnum s2.heap e it (0 + ((i + 1 : Nat) : Int)) old) ∧ IterK kd s2.heap it a (i + 1) ∧ e ≠ it) ∧ ∀ b ∈ [e, it], H' b = none) E hi ⟨⟨old, he⟩, hit, sq⟩ fun v g tk hY hst hk _ => ?_) (fun r s1 h1 => h1) fun _ _ h => h
    obtain ⟨T, t, z, rfl, hnew, hz, hT⟩ := hY
    obtain ⟨⟨old2, he2⟩, hit2, _⟩ := hst
    have ez : z = u := by
      rw [List.getElem?_toArray, hu] at hz
      exact (Option.some.inj hz).symm
    subst ez
    have np := I.hok.fresh hnew
    have I1 : L2.Inv X pins σ (upd H T (.tup [.int (i : Nat), x])) { s with heap := g, toks := tk } :=
      I.turnedNew (ch := [e, it]) hk hf hnew (obj_T (us := [.int (0 + (i : Int)) t, z]) hT (.cons (a := V.int (i : Nat)) ⟨t, by rw [Int.zero_add]⟩ (.cons ru .nil)) (by decide : 2 ≤ 100))
    refine ⟨.ref T, _, I1, rfl, ⟨T, x, rfl, np, rfl, fun ys hy => by rw [sqK_inj I hy hq]; exact hx⟩, ⟨⟨old2, he2⟩, hit2, hne⟩, fun b hb => ?_⟩
    have hl : b < s.heap.objs.size := by
      rcases List.mem_cons.mp hb with rfl | hb
      · exact Heap.lt_size he
      · rw [List.mem_singleton.mp hb]
        obtain ⟨o, _, _, eo, _⟩ := hit.obj
        exact Heap.lt_size eo
    rw [upd_ne (Nat.ne_of_lt (Nat.lt_of_lt_of_le hl hnew))]
    exact (hf b hb).1
  done := by
    intro X hP hw hK hc i pins s σ H E I hf ⟨⟨old, he⟩, hit, hne⟩ ⟨xs, hq, hl⟩
    subst hP hw hK
    obtain ⟨its, rv, sq⟩ := sqK_at I hq
    have hh := I.ok.hd hc
    have nea : a ≠ e := sq.ne he rfl
    have G := GoesN.enumFrom (elts := elts) (x1 := kk) (pos := tpos) 0 (drK (pr := X.prog) (w := X.w) (A := X.A.in1) hh kd it a (hit.ne sq) its.toArray) e hne (by simp [hne, Ne.symm nea]) (by simp)
    have ei : i = its.toArray.size := by rw [List.size_toArray, ← rv.length, hl]
    subst ei
    exact G.stops s _ E ⟨⟨old, he⟩, hit, sq⟩ fun g tk hk _ => I.turnedL (ch := [e, it]) hk hf
  self := fun A i s Q E st hQ => by
    obtain ⟨⟨_, he⟩, _⟩ := st
    exact wpAny_pyIter_enum he hQ
def iE (K : PySem.W.Frag) (ta : TA) : TI := fun σ H R => ta σ H fun vs H1 => ∃ kd a xs, vs = [.ref a] ∧ SqK kd K H1 a xs ∧ R (ItE kd K a) H1
theorem itObj_free (kd : Bool) (a : Addr) : (itObj kd a).isFreed = false := by cases kd <;> rfl
theorem itObj_iter {h : Heap} {kd : Bool} {it a : Addr} (e : h.get? it = some (itObj kd a)) : IterK kd h it a 0 := by
  cases kd with
  | true => exact ⟨_, e, rfl, rfl⟩
  | false => exact ⟨_, e, rfl, rfl⟩
theorem pi_E {X : Cx} {e : Expr} {ta : TA} {p pos tpos : Pos} {elts : List Expr} {kk : Nat} (hg : Gl X "enumerate") (hm : X.mg "enumerate" = none) (ha : PA X [e] ta) (hs : starEach [e] X.env = [(false, eval e X.env)]) :
    PI X (.Tuple elts kk tpos) (.Call (.Name "enumerate" p) [e] [] pos) (iE X.K ta) := by
  refine ⟨fun pins s σ H R I h => Call_ (ld_blt I hg hm boot_enumerate (callWith_type1 (thn (ha.run pos pins s σ H _ I h) fun us s1 ⟨vs, H1, I1, r1, kd, a, xs, ex, hq, q⟩ => ?_) hs rfl))⟩
  subst ex
  obtain ⟨u, rfl, ru⟩ := L2.Vals.one r1
  cases ru
  obtain ⟨its, rv, sq⟩ := sqK_at I1 hq
  refine callType_new F.called_enumerate (by decide) (F.typeCall_enumerate_1 _) (F.newCall_enumerate_1 _) (fun ob => F.args_object_init_2 ob _) F.entry_enumerate_new (meets_enum1 (begK kd a its.toArray)) ⟨sq, ?_⟩
  have hz : (s1.heap.push (itObj kd a)).objs.size = s1.heap.objs.size + 1 := Heap.size_push ..
  show _ ∧ _
  have en : IsEnum ((s1.heap.push (itObj kd a)).push { cls := .type "enumerate", data := .fields #[.none, .bool false, .ref s1.heap.objs.size, rawInt 0, .none, .none] }) (s1.heap.push (itObj kd a)).objs.size s1.heap.objs.size 0 .none := Heap.get?_push_size _ rfl
  have gi : ((s1.heap.push (itObj kd a)).push { cls := .type "enumerate", data := .fields #[.none, .bool false, .ref s1.heap.objs.size, rawInt 0, .none, .none] }).get? s1.heap.objs.size = some (itObj kd a) :=
    Heap.get?_push_of_some _ (Heap.get?_push_size _ (itObj_free kd a))
  have hi := itObj_iter gi
  refine ⟨⟨_, en, rfl⟩, wpAny_pyIter_enum en ?_⟩
  rw [hz] at en ⊢
  have I2 : L2.Inv X pins σ H1 { s1 with heap := (s1.heap.push (itObj kd a)).push { cls := .type "enumerate", data := .fields #[.none, .bool false, .ref s1.heap.objs.size, rawInt 0, .none, .none] } } := I1.kept (t' := s1.toks) fun b o z => Heap.get?_push_of_some _ (Heap.get?_push_of_some _ z)
  refine ⟨s1.heap.objs.size + 1, [s1.heap.objs.size + 1, s1.heap.objs.size], _, _, H1, rfl, I2, turnE kd a (s1.heap.objs.size + 1) s1.heap.objs.size, ⟨⟨.none, en⟩, hi, Nat.succ_ne_self _⟩, fun b hb => ?_, q⟩
  have hle : s1.heap.objs.size ≤ b := by
    rcases List.mem_cons.mp hb with rfl | hb
    · exact Nat.le_succ _
    · rw [List.mem_singleton.mp hb]
      exact Nat.le_refl _
  exact I1.fpOk hle (I1.hok.fresh hle)
/-- what is read is no record of ours -/
theorem sq_ne {X : Cx} {pins : List (Addr × Obj)} {σ : L2.St} {H : L2.Hp} {s : Shared} {a b : Addr} {kd : Bool} {vs : List V} (I : L2.Inv X pins σ H s) (f : FpOk X pins H b) (q : SqK kd X.K H a vs) : a ≠ b := fun z => by
  subst z
  obtain ⟨f0, _, _, f3, _⟩ := f
  have kn : ∀ o, X.K.lookup a = some o → False := fun o e => by
    have eb := I.ok.mod.kin a o e
    rcases f3 with f3 | f3
    · exact I.ok.noex a o eb f3
    · exact absurd (Heap.lt_size eb) (Nat.not_lt.mpr (Nat.le_trans I.ok.bsz f3))
  have rd : ∀ u, Rd H a u → False := fun u r => by
    rcases r with r | ⟨o, r⟩ <;> (rw [f0] at r; cases r)
  cases kd with
  | true =>
    rcases (show SqT X.K H a vs from q) with q | ⟨o, _, _, q, _⟩
    · exact rd _ q
    · exact kn _ q
  | false =>
    rcases (show SqL X.K H a vs from q) with q | ⟨o, _, _, q, _⟩
    · exact rd _ q
    · exact kn _ q
theorem nat_apart {a b : Nat} (h : a ≠ b) : ¬ ((a : Addr) = b) := h
/-! ### zip of 2 -/
def ItZ2 (k1 k2 : Bool) (K : PySem.W.Frag) (a1 a2 : Addr) : It :=
  ⟨fun i H => ∃ x1s x2s : List V, (SqK k1 K H a1 x1s ∧ SqK k2 K H a2 x2s) ∧ i < min x1s.length x2s.length,
    fun i H v H' => ∃ T x1 x2, v = .ref T ∧ H T = none ∧ H' = upd H T (.tup [x1, x2]) ∧ (∀ l, SqK k1 K H a1 l → l[i]? = some x1) ∧ (∀ l, SqK k2 K H a2 l → l[i]? = some x2),
    fun i H => ∃ x1s x2s : List V, (SqK k1 K H a1 x1s ∧ SqK k2 K H a2 x2s) ∧ min x1s.length x2s.length = i⟩
theorem turnZ2 {P : Program} {w : World} {K : PySem.W.Frag} {elts : List Expr} {kk : Nat} {tpos : Pos} (k1 k2 : Bool) (a1 a2 z TI TO i1 i2 : Addr) :
    Turn P w K (.Tuple elts kk tpos) (ItZ2 k1 k2 K a1 a2) [z, TI, TO, i1, i2] z (fun i h => IsZip h z TI TO .none ∧ IsTupOf2 h TI (.ref i1) (.ref i2) ∧ (∃ b1 b2, IsTupOf2 h TO b1 b2) ∧ IterK k1 h i1 a1 i ∧ IterK k2 h i2 a2 i ∧ ([z, TI, TO, i1, i2] : List Addr).Nodup) where
  mem := by simp
  obj := fun i h ⟨hz, hTI, ⟨b1, b2, hTO⟩, h1, h2, nd⟩ b hb => by
    obtain ⟨o1, _, _, e1, _, d1⟩ := h1.obj
    obtain ⟨o2, _, _, e2, _, d2⟩ := h2.obj
    simp only [List.mem_cons, List.not_mem_nil, or_false] at hb
    rcases hb with rfl | rfl | rfl | rfl | rfl
    · exact ⟨_, hz, fun v q => nomatch q⟩
    · exact ⟨_, hTI, fun v q => nomatch q⟩
    · exact ⟨_, hTO, fun v q => nomatch q⟩
    · exact ⟨o1, e1, fun v q => by rw [d1] at q; cases q⟩
    · exact ⟨o2, e2, fun v q => by rw [d2] at q; cases q⟩
  keep := fun i h g ⟨hz, hTI, ⟨b1, b2, hTO⟩, h1, h2, nd⟩ k => ⟨k z (by simp) _ hz, k TI (by simp) _ hTI, ⟨b1, b2, k TO (by simp) _ hTO⟩, h1.at' (fun o q => k i1 (by simp) o q), h2.at' (fun o q => k i2 (by simp) o q), nd⟩
  item := by
    intro X hP hw hK hc i pins s σ H E I hf ⟨hz, hTI, ⟨b1, b2, hTO⟩, h1, h2, nd⟩ ⟨x1s, x2s, ⟨q1, q2⟩, hi⟩
    subst hP hw hK
    have nz := fun {q k l} (x : SqK k X.K H q l) => sq_ne I (hf z (by simp)) x
    have nT := fun {q k l} (x : SqK k X.K H q l) => sq_ne I (hf TO (by simp)) x
    obtain ⟨l1, v1, s1⟩ := sqK_at I q1
    obtain ⟨l2, v2, s2⟩ := sqK_at I q2
    have hh := I.ok.hd hc
    simp only [List.nodup_cons, List.mem_cons, List.not_mem_nil, or_false, not_or, List.nodup_nil, not_false_eq_true, and_true] at nd
    obtain ⟨⟨m01, m02, m03, m04⟩, ⟨m12, m13, m14⟩, ⟨m23, m24⟩, m34⟩ := nd
    have g12 := sq_ne I (hf i1 (by simp)) q2
    have g21 := sq_ne I (hf i2 (by simp)) q1
    have S : ZipSep2 z TI TO i1 i2 [i1, a1] [i2, a2] := { TIz := fun y => m01 y.symm, TOz := fun y => m02 y.symm, TITO := m12, TIi1 := m13, mem1 := by simp, zf1 := by simp only [List.mem_cons, List.not_mem_nil, or_false, not_or]; exact ⟨m03, fun y => nz q1 y.symm⟩, Tf1 := by simp only [List.mem_cons, List.not_mem_nil, or_false, not_or]; exact ⟨m23, fun y => nT q1 y.symm⟩, TIi2 := m14, mem2 := by simp, zf2 := by simp only [List.mem_cons, List.not_mem_nil, or_false, not_or]; exact ⟨m04, fun y => nz q2 y.symm⟩, Tf2 := by simp only [List.mem_cons, List.not_mem_nil, or_false, not_or]; exact ⟨m24, fun y => nT q2 y.symm⟩, sep1_2 := by simp only [List.mem_cons, List.not_mem_nil, or_false, not_or]; exact ⟨m34, fun y => g12 y.symm⟩, sep2_1 := by simp only [List.mem_cons, List.not_mem_nil, or_false, not_or]; exact ⟨fun y => m34 y.symm, fun y => g21 y.symm⟩ }
    have G := GoesN.zip2 (elts := elts) (x1 := kk) (pos := tpos) S (drK (pr := X.prog) (w := X.w) (A := X.A.in1) hh k1 i1 a1 (h1.ne s1) l1.toArray) (drK (pr := X.prog) (w := X.w) (A := X.A.in1) hh k2 i2 a2 (h2.ne s2) l2.toArray)
    have n1 : x1s.length = l1.toArray.size := by rw [List.size_toArray, v1.length]
    have n2 : x2s.length = l2.toArray.size := by rw [List.size_toArray, v2.length]
    refine wpAny_mono (G.goes i s (fun v s2 => ∃ y H', L2.Inv X pins σ H' s2 ∧ RelV y v ∧ (ItZ2 k1 k2 X.K a1 a2).yld i H y H' ∧ (IsZip s2.heap z TI TO .none ∧ IsTupOf2 s2.heap TI (.ref i1) (.ref i2) ∧ (∃ b1 b2, IsTupOf2 s2.heap TO b1 b2) ∧ IterK k1 s2.heap i1 a1 (i + 1) ∧ IterK k2 s2.heap i2 a2 (i + 1) ∧ ([z, TI, TO, i1, i2] : List Addr).Nodup) ∧ ∀ b ∈ ([z, TI, TO, i1, i2] : List Addr), H' b = none) E (by rw [← n1, ← n2]; exact hi) ⟨hz, hTI, ⟨b1, b2, hTO⟩, ⟨h1, s1⟩, ⟨h2, s2⟩⟩ fun v g tk hY hst hk _ => ?_) (fun r s1 h1 => h1) fun _ _ h => h
    obtain ⟨T, y1, y2, rfl, hnew, f1, f2, hT⟩ := hY
    obtain ⟨gz, gTI, ⟨c1, c2, gTO⟩, ⟨j1, _⟩, ⟨j2, _⟩⟩ := hst
    rw [List.getElem?_toArray] at f1
    have w1 : i < x1s.length := by omega
    obtain ⟨u1, hu1, ru1⟩ := v1.get (List.getElem?_eq_getElem w1)
    rw [f1] at hu1
    cases hu1
    rw [List.getElem?_toArray] at f2
    have w2 : i < x2s.length := by omega
    obtain ⟨u2, hu2, ru2⟩ := v2.get (List.getElem?_eq_getElem w2)
    rw [f2] at hu2
    cases hu2
    have np := I.hok.fresh hnew
    have I1 : L2.Inv X pins σ (upd H T (.tup [x1s[i], x2s[i]])) { s with heap := g, toks := tk } :=
      I.turnedNew (ch := [z, TI, TO, i1, i2]) (fun b o hb => hk b o fun hb2 => hb (by simp only [List.mem_cons, List.not_mem_nil, or_false] at hb2 ⊢; rcases hb2 with rfl | rfl | rfl | rfl <;> simp)) hf hnew (obj_T (us := [y1, y2]) hT (.cons ru1 (.cons ru2 .nil)) (by simp))
    refine ⟨.ref T, _, I1, rfl, ⟨T, x1s[i], x2s[i], rfl, np, rfl, fun l hl => by rw [sqK_inj I hl q1]; exact List.getElem?_eq_getElem w1, fun l hl => by rw [sqK_inj I hl q2]; exact List.getElem?_eq_getElem w2⟩, ⟨gz, gTI, ⟨c1, c2, gTO⟩, j1, j2, ?_⟩, fun b hb => ?_⟩
    · simp only [List.nodup_cons, List.mem_cons, List.not_mem_nil, or_false, not_or, List.nodup_nil, not_false_eq_true, and_true]
      exact ⟨⟨m01, m02, m03, m04⟩, ⟨m12, m13, m14⟩, ⟨m23, m24⟩, m34⟩
    · have hl : b < s.heap.objs.size := by
        obtain ⟨p1, _, _, e1, _⟩ := h1.obj
        obtain ⟨p2, _, _, e2, _⟩ := h2.obj
        simp only [List.mem_cons, List.not_mem_nil, or_false] at hb
        rcases hb with rfl | rfl | rfl | rfl | rfl
        · exact Heap.lt_size hz
        · exact Heap.lt_size hTI
        · exact Heap.lt_size hTO
        · exact Heap.lt_size e1
        · exact Heap.lt_size e2
      rw [upd_ne (Nat.ne_of_lt (Nat.lt_of_lt_of_le hl hnew))]
      exact (hf b hb).1
  done := by
    intro X hP hw hK hc i pins s σ H E I hf ⟨hz, hTI, ⟨b1, b2, hTO⟩, h1, h2, nd⟩ ⟨x1s, x2s, ⟨q1, q2⟩, hi⟩
    subst hP hw hK
    have nz := fun {q k l} (x : SqK k X.K H q l) => sq_ne I (hf z (by simp)) x
    have nT := fun {q k l} (x : SqK k X.K H q l) => sq_ne I (hf TO (by simp)) x
    obtain ⟨l1, v1, s1⟩ := sqK_at I q1
    obtain ⟨l2, v2, s2⟩ := sqK_at I q2
    have hh := I.ok.hd hc
    simp only [List.nodup_cons, List.mem_cons, List.not_mem_nil, or_false, not_or, List.nodup_nil, not_false_eq_true, and_true] at nd
    obtain ⟨⟨m01, m02, m03, m04⟩, ⟨m12, m13, m14⟩, ⟨m23, m24⟩, m34⟩ := nd
    have g12 := sq_ne I (hf i1 (by simp)) q2
    have g21 := sq_ne I (hf i2 (by simp)) q1
    have S : ZipSep2 z TI TO i1 i2 [i1, a1] [i2, a2] := { TIz := fun y => m01 y.symm, TOz := fun y => m02 y.symm, TITO := m12, TIi1 := m13, mem1 := by simp, zf1 := by simp only [List.mem_cons, List.not_mem_nil, or_false, not_or]; exact ⟨m03, fun y => nz q1 y.symm⟩, Tf1 := by simp only [List.mem_cons, List.not_mem_nil, or_false, not_or]; exact ⟨m23, fun y => nT q1 y.symm⟩, TIi2 := m14, mem2 := by simp, zf2 := by simp only [List.mem_cons, List.not_mem_nil, or_false, not_or]; exact ⟨m04, fun y => nz q2 y.symm⟩, Tf2 := by simp only [List.mem_cons, List.not_mem_nil, or_false, not_or]; exact ⟨m24, fun y => nT q2 y.symm⟩, sep1_2 := by simp only [List.mem_cons, List.not_mem_nil, or_false, not_or]; exact ⟨m34, fun y => g12 y.symm⟩, sep2_1 := by simp only [List.mem_cons, List.not_mem_nil, or_false, not_or]; exact ⟨fun y => m34 y.symm, fun y => g21 y.symm⟩ }
    have G := GoesN.zip2 (elts := elts) (x1 := kk) (pos := tpos) S (drK (pr := X.prog) (w := X.w) (A := X.A.in1) hh k1 i1 a1 (h1.ne s1) l1.toArray) (drK (pr := X.prog) (w := X.w) (A := X.A.in1) hh k2 i2 a2 (h2.ne s2) l2.toArray)
    have n1 : x1s.length = l1.toArray.size := by rw [List.size_toArray, v1.length]
    have n2 : x2s.length = l2.toArray.size := by rw [List.size_toArray, v2.length]
    have ei : i = min l1.toArray.size l2.toArray.size := by rw [← n1, ← n2]; exact hi.symm
    subst ei
    exact G.stops s _ E ⟨hz, hTI, ⟨b1, b2, hTO⟩, ⟨h1, s1⟩, ⟨h2, s2⟩⟩ fun g tk hk _ => I.turnedL (ch := [z, TI, TO, i1, i2]) (fun b o hb => hk b o fun hb2 => hb (by simp only [List.mem_cons, List.not_mem_nil, or_false] at hb2 ⊢; rcases hb2 with rfl | rfl | rfl | rfl <;> simp)) hf
  self := fun A i s Q E st hQ => wpAny_pyIter_zip st.1 hQ
def iZ2 (K : PySem.W.Frag) (ta : TA) : TI := fun σ H R => ta σ H fun vs H1 => ∃ k1 k2 a1 a2 x1s x2s, vs = [.ref a1, .ref a2] ∧ (SqK k1 K H1 a1 x1s ∧ SqK k2 K H1 a2 x2s) ∧ R (ItZ2 k1 k2 K a1 a2) H1
theorem pi_Z2 {X : Cx} {e1 e2 : Expr} {ta : TA} {p pos tpos : Pos} {elts : List Expr} {kk : Nat} (hg : Gl X "zip") (hm : X.mg "zip" = none) (ha : PA X [e1, e2] ta)
    (hs : starEach [e1, e2] X.env = (false, eval e1 X.env) :: starEach [e2] X.env) (hpl : (backTo pos (starEach [e2] X.env)).any (·.1) = false) :
    PI X (.Tuple elts kk tpos) (.Call (.Name "zip" p) [e1, e2] [] pos) (iZ2 X.K ta) := by
  refine ⟨fun pins s σ H R I h => Call_ (ld_blt I hg hm boot_zip (callWith_type1 (thn (ha.run pos pins s σ H _ I h) fun us t1 ⟨vs, H1, I1, r1, k1, k2, a1, a2, x1s, x2s, ex, ⟨q1, q2⟩, q⟩ => ?_) hs hpl))⟩
  subst ex
  have eu : us = [.ref a1, .ref a2] := by
    cases r1 with
    | cons c1 r1 =>
      cases c1
      cases r1 with
      | cons c2 r1 =>
        cases c2
        cases r1
        rfl
  subst eu
  obtain ⟨l1, v1, s1⟩ := sqK_at I1 q1
  obtain ⟨l2, v2, s2⟩ := sqK_at I1 q2
  refine zip_begins2 (begK k1 a1 l1.toArray) (begK k2 a2 l2.toArray) s1 s2 fun g gz gTI gTO t2 t3 hsz hk => wpAny_pyIter_zip gz ?_
  have I2 : L2.Inv X pins σ H1 { t1 with heap := g } := I1.kept (t' := t1.toks) hk
  refine ⟨t1.heap.objs.size + 4, [t1.heap.objs.size + 4, t1.heap.objs.size + 2, t1.heap.objs.size + 3, t1.heap.objs.size, t1.heap.objs.size + 1], _, _, H1, rfl, I2, turnZ2 k1 k2 a1 a2 (t1.heap.objs.size + 4) (t1.heap.objs.size + 2) (t1.heap.objs.size + 3) (t1.heap.objs.size) (t1.heap.objs.size + 1), ⟨gz, gTI, ⟨_, _, gTO⟩, itObj_iter t2, itObj_iter t3, ?_⟩, fun b hb => ?_, q⟩
  · simp only [List.nodup_cons, List.mem_cons, List.not_mem_nil, or_false, not_or, List.nodup_nil, not_false_eq_true, and_true]
    generalize t1.heap.objs.size = N
    refine ⟨⟨?_, ?_, ?_, ?_⟩, ⟨?_, ?_, ?_⟩, ⟨?_, ?_⟩, ?_⟩
    all_goals exact nat_apart (by omega)
  · have hle : t1.heap.objs.size ≤ b := by
      simp only [List.mem_cons, List.not_mem_nil, or_false] at hb
      rcases hb with rfl | rfl | rfl | rfl | rfl
      all_goals first | exact Nat.le_refl _ | exact Nat.le_add_right _ _
    exact I1.fpOk hle (I1.hok.fresh hle)
/-! ### zip of 3 -/
def ItZ3 (k1 k2 k3 : Bool) (K : PySem.W.Frag) (a1 a2 a3 : Addr) : It :=
  ⟨fun i H => ∃ x1s x2s x3s : List V, (SqK k1 K H a1 x1s ∧ SqK k2 K H a2 x2s ∧ SqK k3 K H a3 x3s) ∧ i < min (min x1s.length x2s.length) x3s.length,
    fun i H v H' => ∃ T x1 x2 x3, v = .ref T ∧ H T = none ∧ H' = upd H T (.tup [x1, x2, x3]) ∧ (∀ l, SqK k1 K H a1 l → l[i]? = some x1) ∧ (∀ l, SqK k2 K H a2 l → l[i]? = some x2) ∧ (∀ l, SqK k3 K H a3 l → l[i]? = some x3),
    fun i H => ∃ x1s x2s x3s : List V, (SqK k1 K H a1 x1s ∧ SqK k2 K H a2 x2s ∧ SqK k3 K H a3 x3s) ∧ min (min x1s.length x2s.length) x3s.length = i⟩
theorem turnZ3 {P : Program} {w : World} {K : PySem.W.Frag} {elts : List Expr} {kk : Nat} {tpos : Pos} (k1 k2 k3 : Bool) (a1 a2 a3 z TI TO i1 i2 i3 : Addr) :
    Turn P w K (.Tuple elts kk tpos) (ItZ3 k1 k2 k3 K a1 a2 a3) [z, TI, TO, i1, i2, i3] z (fun i h => IsZip h z TI TO .none ∧ IsTupOf3 h TI (.ref i1) (.ref i2) (.ref i3) ∧ (∃ b1 b2 b3, IsTupOf3 h TO b1 b2 b3) ∧ IterK k1 h i1 a1 i ∧ IterK k2 h i2 a2 i ∧ IterK k3 h i3 a3 i ∧ ([z, TI, TO, i1, i2, i3] : List Addr).Nodup) where
  mem := by simp
  obj := fun i h ⟨hz, hTI, ⟨b1, b2, b3, hTO⟩, h1, h2, h3, nd⟩ b hb => by
    obtain ⟨o1, _, _, e1, _, d1⟩ := h1.obj
    obtain ⟨o2, _, _, e2, _, d2⟩ := h2.obj
    obtain ⟨o3, _, _, e3, _, d3⟩ := h3.obj
    simp only [List.mem_cons, List.not_mem_nil, or_false] at hb
    rcases hb with rfl | rfl | rfl | rfl | rfl | rfl
    · exact ⟨_, hz, fun v q => nomatch q⟩
    · exact ⟨_, hTI, fun v q => nomatch q⟩
    · exact ⟨_, hTO, fun v q => nomatch q⟩
    · exact ⟨o1, e1, fun v q => by rw [d1] at q; cases q⟩
    · exact ⟨o2, e2, fun v q => by rw [d2] at q; cases q⟩
    · exact ⟨o3, e3, fun v q => by rw [d3] at q; cases q⟩
  keep := fun i h g ⟨hz, hTI, ⟨b1, b2, b3, hTO⟩, h1, h2, h3, nd⟩ k => ⟨k z (by simp) _ hz, k TI (by simp) _ hTI, ⟨b1, b2, b3, k TO (by simp) _ hTO⟩, h1.at' (fun o q => k i1 (by simp) o q), h2.at' (fun o q => k i2 (by simp) o q), h3.at' (fun o q => k i3 (by simp) o q), nd⟩
  item := by
    intro X hP hw hK hc i pins s σ H E I hf ⟨hz, hTI, ⟨b1, b2, b3, hTO⟩, h1, h2, h3, nd⟩ ⟨x1s, x2s, x3s, ⟨q1, q2, q3⟩, hi⟩
    subst hP hw hK
    have nz := fun {q k l} (x : SqK k X.K H q l) => sq_ne I (hf z (by simp)) x
    have nT := fun {q k l} (x : SqK k X.K H q l) => sq_ne I (hf TO (by simp)) x
    obtain ⟨l1, v1, s1⟩ := sqK_at I q1
    obtain ⟨l2, v2, s2⟩ := sqK_at I q2
    obtain ⟨l3, v3, s3⟩ := sqK_at I q3
    have hh := I.ok.hd hc
    simp only [List.nodup_cons, List.mem_cons, List.not_mem_nil, or_false, not_or, List.nodup_nil, not_false_eq_true, and_true] at nd
    obtain ⟨⟨m01, m02, m03, m04, m05⟩, ⟨m12, m13, m14, m15⟩, ⟨m23, m24, m25⟩, ⟨m34, m35⟩, m45⟩ := nd
    have g12 := sq_ne I (hf i1 (by simp)) q2
    have g13 := sq_ne I (hf i1 (by simp)) q3
    have g21 := sq_ne I (hf i2 (by simp)) q1
    have g23 := sq_ne I (hf i2 (by simp)) q3
    have g31 := sq_ne I (hf i3 (by simp)) q1
    have g32 := sq_ne I (hf i3 (by simp)) q2
    have S : ZipSep3 z TI TO i1 i2 i3 [i1, a1] [i2, a2] [i3, a3] := { TIz := fun y => m01 y.symm, TOz := fun y => m02 y.symm, TITO := m12, TIi1 := m13, mem1 := by simp, zf1 := by simp only [List.mem_cons, List.not_mem_nil, or_false, not_or]; exact ⟨m03, fun y => nz q1 y.symm⟩, Tf1 := by simp only [List.mem_cons, List.not_mem_nil, or_false, not_or]; exact ⟨m23, fun y => nT q1 y.symm⟩, TIi2 := m14, mem2 := by simp, zf2 := by simp only [List.mem_cons, List.not_mem_nil, or_false, not_or]; exact ⟨m04, fun y => nz q2 y.symm⟩, Tf2 := by simp only [List.mem_cons, List.not_mem_nil, or_false, not_or]; exact ⟨m24, fun y => nT q2 y.symm⟩, TIi3 := m15, mem3 := by simp, zf3 := by simp only [List.mem_cons, List.not_mem_nil, or_false, not_or]; exact ⟨m05, fun y => nz q3 y.symm⟩, Tf3 := by simp only [List.mem_cons, List.not_mem_nil, or_false, not_or]; exact ⟨m25, fun y => nT q3 y.symm⟩, sep1_2 := by simp only [List.mem_cons, List.not_mem_nil, or_false, not_or]; exact ⟨m34, fun y => g12 y.symm⟩, sep1_3 := by simp only [List.mem_cons, List.not_mem_nil, or_false, not_or]; exact ⟨m35, fun y => g13 y.symm⟩, sep2_1 := by simp only [List.mem_cons, List.not_mem_nil, or_false, not_or]; exact ⟨fun y => m34 y.symm, fun y => g21 y.symm⟩, sep2_3 := by simp only [List.mem_cons, List.not_mem_nil, or_false, not_or]; exact ⟨m45, fun y => g23 y.symm⟩, sep3_1 := by simp only [List.mem_cons, List.not_mem_nil, or_false, not_or]; exact ⟨fun y => m35 y.symm, fun y => g31 y.symm⟩, sep3_2 := by simp only [List.mem_cons, List.not_mem_nil, or_false, not_or]; exact ⟨fun y => m45 y.symm, fun y => g32 y.symm⟩ }
    have G := GoesN.zip3 (elts := elts) (x1 := kk) (pos := tpos) S (drK (pr := X.prog) (w := X.w) (A := X.A.in1) hh k1 i1 a1 (h1.ne s1) l1.toArray) (drK (pr := X.prog) (w := X.w) (A := X.A.in1) hh k2 i2 a2 (h2.ne s2) l2.toArray) (drK (pr := X.prog) (w := X.w) (A := X.A.in1) hh k3 i3 a3 (h3.ne s3) l3.toArray)
    have n1 : x1s.length = l1.toArray.size := by rw [List.size_toArray, v1.length]
    have n2 : x2s.length = l2.toArray.size := by rw [List.size_toArray, v2.length]
    have n3 : x3s.length = l3.toArray.size := by rw [List.size_toArray, v3.length]
    refine wpAny_mono (G.goes i s (fun v s2 => ∃ y H', L2.Inv X pins σ H' s2 ∧ RelV y v ∧ (ItZ3 k1 k2 k3 X.K a1 a2 a3).yld i H y H' ∧ (IsZip s2.heap z TI TO .none ∧ IsTupOf3 s2.heap TI (.ref i1) (.ref i2) (.ref i3) ∧ (∃ b1 b2 b3, IsTupOf3 s2.heap TO b1 b2 b3) ∧ IterK k1 s2.heap i1 a1 (i + 1) ∧ IterK k2 s2.heap i2 a2 (i + 1) ∧ IterK k3 s2.heap i3 a3 (i + 1) ∧ ([z, TI, TO, i1, i2, i3] : List Addr).Nodup) ∧ ∀ b ∈ ([z, TI, TO, i1, i2, i3] : List Addr), H' b = none) E (by rw [← n1, ← n2, ← n3]; exact hi) ⟨hz, hTI, ⟨b1, b2, b3, hTO⟩, ⟨h1, s1⟩, ⟨h2, s2⟩, ⟨h3, s3⟩⟩ fun v g tk hY hst hk _ => ?_) (fun r s1 h1 => h1) fun _ _ h => h
    obtain ⟨T, y1, y2, y3, rfl, hnew, f1, f2, f3, hT⟩ := hY
    obtain ⟨gz, gTI, ⟨c1, c2, c3, gTO⟩, ⟨j1, _⟩, ⟨j2, _⟩, ⟨j3, _⟩⟩ := hst
    rw [List.getElem?_toArray] at f1
    have w1 : i < x1s.length := by omega
    obtain ⟨u1, hu1, ru1⟩ := v1.get (List.getElem?_eq_getElem w1)
    rw [f1] at hu1
    cases hu1
    rw [List.getElem?_toArray] at f2
    have w2 : i < x2s.length := by omega
    obtain ⟨u2, hu2, ru2⟩ := v2.get (List.getElem?_eq_getElem w2)
    rw [f2] at hu2
    cases hu2
    rw [List.getElem?_toArray] at f3
    have w3 : i < x3s.length := by omega
    obtain ⟨u3, hu3, ru3⟩ := v3.get (List.getElem?_eq_getElem w3)
    rw [f3] at hu3
    cases hu3
    have np := I.hok.fresh hnew
    have I1 : L2.Inv X pins σ (upd H T (.tup [x1s[i], x2s[i], x3s[i]])) { s with heap := g, toks := tk } :=
      I.turnedNew (ch := [z, TI, TO, i1, i2, i3]) (fun b o hb => hk b o fun hb2 => hb (by simp only [List.mem_cons, List.not_mem_nil, or_false] at hb2 ⊢; rcases hb2 with rfl | rfl | rfl | rfl | rfl <;> simp)) hf hnew (obj_T (us := [y1, y2, y3]) hT (.cons ru1 (.cons ru2 (.cons ru3 .nil))) (by simp))
    refine ⟨.ref T, _, I1, rfl, ⟨T, x1s[i], x2s[i], x3s[i], rfl, np, rfl, fun l hl => by rw [sqK_inj I hl q1]; exact List.getElem?_eq_getElem w1, fun l hl => by rw [sqK_inj I hl q2]; exact List.getElem?_eq_getElem w2, fun l hl => by rw [sqK_inj I hl q3]; exact List.getElem?_eq_getElem w3⟩, ⟨gz, gTI, ⟨c1, c2, c3, gTO⟩, j1, j2, j3, ?_⟩, fun b hb => ?_⟩
    · simp only [List.nodup_cons, List.mem_cons, List.not_mem_nil, or_false, not_or, List.nodup_nil, not_false_eq_true, and_true]
      exact ⟨⟨m01, m02, m03, m04, m05⟩, ⟨m12, m13, m14, m15⟩, ⟨m23, m24, m25⟩, ⟨m34, m35⟩, m45⟩
    · have hl : b < s.heap.objs.size := by
        obtain ⟨p1, _, _, e1, _⟩ := h1.obj
        obtain ⟨p2, _, _, e2, _⟩ := h2.obj
        obtain ⟨p3, _, _, e3, _⟩ := h3.obj
        simp only [List.mem_cons, List.not_mem_nil, or_false] at hb
        rcases hb with rfl | rfl | rfl | rfl | rfl | rfl
        · exact Heap.lt_size hz
        · exact Heap.lt_size hTI
        · exact Heap.lt_size hTO
        · exact Heap.lt_size e1
        · exact Heap.lt_size e2
        · exact Heap.lt_size e3
      rw [upd_ne (Nat.ne_of_lt (Nat.lt_of_lt_of_le hl hnew))]
      exact (hf b hb).1
  done := by
    intro X hP hw hK hc i pins s σ H E I hf ⟨hz, hTI, ⟨b1, b2, b3, hTO⟩, h1, h2, h3, nd⟩ ⟨x1s, x2s, x3s, ⟨q1, q2, q3⟩, hi⟩
    subst hP hw hK
    have nz := fun {q k l} (x : SqK k X.K H q l) => sq_ne I (hf z (by simp)) x
    have nT := fun {q k l} (x : SqK k X.K H q l) => sq_ne I (hf TO (by simp)) x
    obtain ⟨l1, v1, s1⟩ := sqK_at I q1
    obtain ⟨l2, v2, s2⟩ := sqK_at I q2
    obtain ⟨l3, v3, s3⟩ := sqK_at I q3
    have hh := I.ok.hd hc
    simp only [List.nodup_cons, List.mem_cons, List.not_mem_nil, or_false, not_or, List.nodup_nil, not_false_eq_true, and_true] at nd
    obtain ⟨⟨m01, m02, m03, m04, m05⟩, ⟨m12, m13, m14, m15⟩, ⟨m23, m24, m25⟩, ⟨m34, m35⟩, m45⟩ := nd
    have g12 := sq_ne I (hf i1 (by simp)) q2
    have g13 := sq_ne I (hf i1 (by simp)) q3
    have g21 := sq_ne I (hf i2 (by simp)) q1
    have g23 := sq_ne I (hf i2 (by simp)) q3
    have g31 := sq_ne I (hf i3 (by simp)) q1
    have g32 := sq_ne I (hf i3 (by simp)) q2
    have S : ZipSep3 z TI TO i1 i2 i3 [i1, a1] [i2, a2] [i3, a3] := { TIz := fun y => m01 y.symm, TOz := fun y => m02 y.symm, TITO := m12, TIi1 := m13, mem1 := by simp, zf1 := by simp only [List.mem_cons, List.not_mem_nil, or_false, not_or]; exact ⟨m03, fun y => nz q1 y.symm⟩, Tf1 := by simp only [List.mem_cons, List.not_mem_nil, or_false, not_or]; exact ⟨m23, fun y => nT q1 y.symm⟩, TIi2 := m14, mem2 := by simp, zf2 := by simp only [List.mem_cons, List.not_mem_nil, or_false, not_or]; exact ⟨m04, fun y => nz q2 y.symm⟩, Tf2 := by simp only [List.mem_cons, List.not_mem_nil, or_false, not_or]; exact ⟨m24, fun y => nT q2 y.symm⟩, TIi3 := m15, mem3 := by simp, zf3 := by simp only [List.mem_cons, List.not_mem_nil, or_false, not_or]; exact ⟨m05, fun y => nz q3 y.symm⟩, Tf3 := by simp only [List.mem_cons, List.not_mem_nil, or_false, not_or]; exact ⟨m25, fun y => nT q3 y.symm⟩, sep1_2 := by simp only [List.mem_cons, List.not_mem_nil, or_false, not_or]; exact ⟨m34, fun y => g12 y.symm⟩, sep1_3 := by simp only [List.mem_cons, List.not_mem_nil, or_false, not_or]; exact ⟨m35, fun y => g13 y.symm⟩, sep2_1 := by simp only [List.mem_cons, List.not_mem_nil, or_false, not_or]; exact ⟨fun y => m34 y.symm, fun y => g21 y.symm⟩, sep2_3 := by simp only [List.mem_cons, List.not_mem_nil, or_false, not_or]; exact ⟨m45, fun y => g23 y.symm⟩, sep3_1 := by simp only [List.mem_cons, List.not_mem_nil, or_false, not_or]; exact ⟨fun y => m35 y.symm, fun y => g31 y.symm⟩, sep3_2 := by simp only [List.mem_cons, List.not_mem_nil, or_false, not_or]; exact ⟨fun y => m45 y.symm, fun y => g32 y.symm⟩ }
    have G := GoesN.zip3 (elts := elts) (x1 := kk) (pos := tpos) S (drK (pr := X.prog) (w := X.w) (A := X.A.in1) hh k1 i1 a1 (h1.ne s1) l1.toArray) (drK (pr := X.prog) (w := X.w) (A := X.A.in1) hh k2 i2 a2 (h2.ne s2) l2.toArray) (drK (pr := X.prog) (w := X.w) (A := X.A.in1) hh k3 i3 a3 (h3.ne s3) l3.toArray)
    have n1 : x1s.length = l1.toArray.size := by rw [List.size_toArray, v1.length]
    have n2 : x2s.length = l2.toArray.size := by rw [List.size_toArray, v2.length]
    have n3 : x3s.length = l3.toArray.size := by rw [List.size_toArray, v3.length]
    have ei : i = min (min l1.toArray.size l2.toArray.size) l3.toArray.size := by rw [← n1, ← n2, ← n3]; exact hi.symm
    subst ei
    exact G.stops s _ E ⟨hz, hTI, ⟨b1, b2, b3, hTO⟩, ⟨h1, s1⟩, ⟨h2, s2⟩, ⟨h3, s3⟩⟩ fun g tk hk _ => I.turnedL (ch := [z, TI, TO, i1, i2, i3]) (fun b o hb => hk b o fun hb2 => hb (by simp only [List.mem_cons, List.not_mem_nil, or_false] at hb2 ⊢; rcases hb2 with rfl | rfl | rfl | rfl | rfl <;> simp)) hf
  self := fun A i s Q E st hQ => wpAny_pyIter_zip st.1 hQ
def iZ3 (K : PySem.W.Frag) (ta : TA) : TI := fun σ H R => ta σ H fun vs H1 => ∃ k1 k2 k3 a1 a2 a3 x1s x2s x3s, vs = [.ref a1, .ref a2, .ref a3] ∧ (SqK k1 K H1 a1 x1s ∧ SqK k2 K H1 a2 x2s ∧ SqK k3 K H1 a3 x3s) ∧ R (ItZ3 k1 k2 k3 K a1 a2 a3) H1
theorem pi_Z3 {X : Cx} {e1 e2 e3 : Expr} {ta : TA} {p pos tpos : Pos} {elts : List Expr} {kk : Nat} (hg : Gl X "zip") (hm : X.mg "zip" = none) (ha : PA X [e1, e2, e3] ta)
    (hs : starEach [e1, e2, e3] X.env = (false, eval e1 X.env) :: starEach [e2, e3] X.env) (hpl : (backTo pos (starEach [e2, e3] X.env)).any (·.1) = false) :
    PI X (.Tuple elts kk tpos) (.Call (.Name "zip" p) [e1, e2, e3] [] pos) (iZ3 X.K ta) := by
  refine ⟨fun pins s σ H R I h => Call_ (ld_blt I hg hm boot_zip (callWith_type1 (thn (ha.run pos pins s σ H _ I h) fun us t1 ⟨vs, H1, I1, r1, k1, k2, k3, a1, a2, a3, x1s, x2s, x3s, ex, ⟨q1, q2, q3⟩, q⟩ => ?_) hs hpl))⟩
  subst ex
  have eu : us = [.ref a1, .ref a2, .ref a3] := by
    cases r1 with
    | cons c1 r1 =>
      cases c1
      cases r1 with
      | cons c2 r1 =>
        cases c2
        cases r1 with
        | cons c3 r1 =>
          cases c3
          cases r1
          rfl
  subst eu
  obtain ⟨l1, v1, s1⟩ := sqK_at I1 q1
  obtain ⟨l2, v2, s2⟩ := sqK_at I1 q2
  obtain ⟨l3, v3, s3⟩ := sqK_at I1 q3
  refine zip_begins3 (begK k1 a1 l1.toArray) (begK k2 a2 l2.toArray) (begK k3 a3 l3.toArray) s1 s2 s3 fun g gz gTI gTO t2 t3 t4 hsz hk => wpAny_pyIter_zip gz ?_
  have I2 : L2.Inv X pins σ H1 { t1 with heap := g } := I1.kept (t' := t1.toks) hk
  refine ⟨t1.heap.objs.size + 5, [t1.heap.objs.size + 5, t1.heap.objs.size + 3, t1.heap.objs.size + 4, t1.heap.objs.size, t1.heap.objs.size + 1, t1.heap.objs.size + 2], _, _, H1, rfl, I2, turnZ3 k1 k2 k3 a1 a2 a3 (t1.heap.objs.size + 5) (t1.heap.objs.size + 3) (t1.heap.objs.size + 4) (t1.heap.objs.size) (t1.heap.objs.size + 1) (t1.heap.objs.size + 2), ⟨gz, gTI, ⟨_, _, _, gTO⟩, itObj_iter t2, itObj_iter t3, itObj_iter t4, ?_⟩, fun b hb => ?_, q⟩
  · simp only [List.nodup_cons, List.mem_cons, List.not_mem_nil, or_false, not_or, List.nodup_nil, not_false_eq_true, and_true]
    generalize t1.heap.objs.size = N
    refine ⟨⟨?_, ?_, ?_, ?_, ?_⟩, ⟨?_, ?_, ?_, ?_⟩, ⟨?_, ?_, ?_⟩, ⟨?_, ?_⟩, ?_⟩
    all_goals exact nat_apart (by omega)
  · have hle : t1.heap.objs.size ≤ b := by
      simp only [List.mem_cons, List.not_mem_nil, or_false] at hb
      rcases hb with rfl | rfl | rfl | rfl | rfl | rfl
      all_goals first | exact Nat.le_refl _ | exact Nat.le_add_right _ _
    exact I1.fpOk hle (I1.hok.fresh hle)
end Ev

set_option Elab.async false
set_option linter.all false
set_option maxRecDepth 100000
set_option maxHeartbeats 4000000
/-! Snd1: the rules of operators and built-ins over the evaluator's values. -/
namespace Ev
open PySem PySem.Spec PyProof.Rows L2
section
variable {K : PySem.W.Frag} {ρ ρ' : List Addr} {H H0 H' : L2.Hp} {hp : Hp}
theorem RO.mono (s : Step ρ H ρ' H') {o : Ob} {a : Addr} (e : H' a = H a) (h : RO K ρ H o a) : RO K ρ' H' o a := by
  cases o with
  | lst xs => obtain ⟨vs, h1, h2⟩ := h; exact ⟨vs, by rw [e]; exact h1, h2.mono s⟩
  | frz ds => obtain ⟨o, vs, h1, h2⟩ := h; exact ⟨o, vs, by rw [e]; exact h1, RDs.mono s.imm _ _ h2⟩
  | dic kvs => exact h
theorem HRel.mono (s : Step ρ H ρ H') (e : ∀ a ∈ ρ, H' a = H a) (h : HRel K ρ hp H) : HRel K ρ hp H' :=
  ⟨h.len, h.nd, fun n o a e1 e2 => RO.mono s (e a (List.mem_of_getElem? e2)) (h.ob n o a e1 e2)⟩
theorem Step.new {p : Addr} {o : HO} (h : H p = none) : Step ρ H ρ (upd H p o) := by
  have k : ∀ b u, H b = some u → (upd H p o) b = some u := fun b u e => by rw [upd_ne (ne_of_none e h)]; exact e
  refine ⟨⟨[], by simp, by simp⟩, fun b u e _ => k b u e, fun b u e _ => k b u e, fun b e => ?_⟩
  by_cases hb : b = p
  · rw [hb, upd_same]; simp
  · rw [upd_ne hb]; exact e
theorem HRel.new {p : Addr} {o : HO} (r : HRel K ρ hp H) (h : H p = none) : HRel K ρ hp (upd H p o) :=
  r.mono (Step.new h) fun a ha => upd_ne fun z => r.tracked ha (by rw [z]; exact h)
theorem HRel.out {p : Addr} (r : HRel K ρ hp H) (h : H p = none) : p ∉ ρ := fun z => r.tracked z h
theorem RD.tupNew {ds : List PyData} {vs : List V} {p : Addr} {o : Obj} (r : RDs K H ds vs) (h : H p = none) (d : o.dict = none) : RD K (upd H p (.frz o (.tup vs))) (.tuple ds) (.ref p) :=
  ⟨p, vs, rfl, .inl ⟨o, upd_same, d⟩, RDs.mono (Step.new (ρ := []) (o := .frz o (.tup vs)) h).imm _ _ r⟩
theorem RR.lstNew {xs : List HV} {vs : List V} {p : Addr} (r : HRel K ρ hp H) (l : Le H0 H) (rx : RHs K ρ H xs vs) (h : H p = none) : RR K H0 ρ (upd H p (.lst vs)) (.fresh xs) (.ref p) :=
  ⟨p, vs, rfl, l.none h, r.out h, upd_same, rx.mono (Step.new h)⟩
theorem RDs.append : ∀ {ds es : List PyData} {vs ws : List V}, RDs K H ds vs → RDs K H es ws → RDs K H (ds ++ es) (vs ++ ws)
  | [], _, vs, _, h, h' => by rw [show vs = [] from h]; exact h'
  | d :: ds, es, vs, ws, h, h' => by
    obtain ⟨v, r, rfl, h1, h2⟩ := h
    exact ⟨v, r ++ ws, rfl, h1, RDs.append h2 h'⟩
theorem RDs.length : ∀ {ds : List PyData} {vs : List V}, RDs K H ds vs → ds.length = vs.length
  | [], vs, h => by rw [show vs = [] from h]; rfl
  | d :: ds, vs, h => by
    obtain ⟨v, r, rfl, h1, h2⟩ := h
    exact congrArg Nat.succ (RDs.length h2)
theorem RDs.drop : ∀ {ds : List PyData} {vs : List V} (n : Nat), RDs K H ds vs → RDs K H (ds.drop n) (vs.drop n)
  | ds, vs, 0, h => h
  | [], vs, n + 1, h => by rw [show vs = [] from h]; rfl
  | d :: ds, vs, n + 1, h => by
    obtain ⟨v, r, rfl, h1, h2⟩ := h
    exact RDs.drop n h2
theorem RDs.take : ∀ {ds : List PyData} {vs : List V} (n : Nat), RDs K H ds vs → RDs K H (ds.take n) (vs.take n)
  | ds, vs, 0, h => by simp only [List.take_zero]; rfl
  | [], vs, n + 1, h => by rw [show vs = [] from h]; rfl
  | d :: ds, vs, n + 1, h => by
    obtain ⟨v, r, rfl, h1, h2⟩ := h
    exact ⟨v, r.take n, rfl, h1, RDs.take n h2⟩
theorem RDs.rep {ds : List PyData} {vs : List V} (h : RDs K H ds vs) : ∀ n : Nat, RDs K H (repl n ds) (List.replicate n vs).flatten
  | 0 => show RDs K H [] [] from rfl
  | n + 1 => by
    unfold Ev.repl
    rw [List.replicate_succ, List.replicate_succ, List.flatten_cons, List.flatten_cons]
    exact h.append (RDs.rep h n)
theorem Paired.app {α β : Type} {F : α → β → Prop} : ∀ {l1 l2 : List α} {m1 m2 : List β}, Paired F l1 m1 → Paired F l2 m2 → Paired F (l1 ++ l2) (m1 ++ m2)
  | _, _, _, _, .nil, h => h
  | _, _, _, _, .cons a b, h => .cons a (Paired.app b h)
theorem Paired.repl {α β : Type} {F : α → β → Prop} {l : List α} {m : List β} (h : Paired F l m) : ∀ n : Nat, Paired F (Ev.repl n l) (List.replicate n m).flatten
  | 0 => .nil
  | n + 1 => by
    unfold Ev.repl
    rw [List.replicate_succ, List.replicate_succ, List.flatten_cons, List.flatten_cons]
    exact Paired.app h (Paired.repl h n)
theorem Paired.drop' {α β : Type} {F : α → β → Prop} : ∀ {l : List α} {m : List β} (n : Nat), Paired F l m → Paired F (l.drop n) (m.drop n)
  | _, _, 0, h => h
  | _, _, _ + 1, .nil => .nil
  | _, _, n + 1, .cons a b => Paired.drop' n b
theorem Paired.take' {α β : Type} {F : α → β → Prop} : ∀ {l : List α} {m : List β} (n : Nat), Paired F l m → Paired F (l.take n) (m.take n)
  | _, _, 0, h => by simp only [List.take_zero]; exact .nil
  | _, _, _ + 1, .nil => .nil
  | _, _, n + 1, .cons a b => .cons a (Paired.take' n b)
theorem Paired.get' {α β : Type} {F : α → β → Prop} : ∀ {l : List α} {m : List β} {i : Nat} {x : α}, Paired F l m → l[i]? = some x → ∃ y, m[i]? = some y ∧ F x y
  | _, _, _, _, .nil, e => by simp at e
  | _, _, 0, _, .cons a b, e => by simp at e; subst e; exact ⟨_, rfl, a⟩
  | _, _, i + 1, _, .cons a b, e => by simpa using Paired.get' (i := i) b (by simpa using e)
end
theorem sIx_eq (n d : Nat) (o : Option Int) : sIx n d o = HT.sIx n d o := by cases o <;> rfl
theorem place_eq (n : Nat) (i : Int) : place n i = ixN n i := rfl
theorem lenOk_le {n : Nat} (h : lenOk n = true) : n ≤ sizeLine := Nat.le_trans (Nat.le_of_ble_eq_true h) (by decide)

/-- an operation of two places -/
def rOp2 (K : PySem.W.Frag) (g : Hp → RV → RV → Option RV) : R2 := fun xv yv H Q => ∃ H0 ρ hp x y z, Le H0 H ∧ HRel K ρ hp H ∧ RR K H0 ρ H x xv ∧ RR K H0 ρ H y yv ∧ g hp x y = some z ∧
  ∀ ρ' H' v, Step ρ H ρ' H' → HRel K ρ' hp H' → RR K H0 ρ' H' z v → Q v H'
section
variable {X : Cx} {pins : List (Addr × Obj)} {σ : L2.St} {H : L2.Hp} {s : Shared}
theorem rdL (I : L2.Inv X pins σ H s) {a : Addr} {xs : List V} (h : Rd H a (.lst xs)) : xs.length ≤ sizeLine ∧ ∃ (its : List Value) (n : Nat), Vals xs its ∧ s.heap.get? a = some { cls := .type "list", data := .seq its.toArray n } := Rd.ok (u := .lst xs) h I.hok
/-- list + list, whoever holds them -/
def rCatS : R2 := fun x y H Q => ∃ l b xs zs, x = .ref l ∧ y = .ref b ∧ Rd H l (.lst xs) ∧ Rd H b (.lst zs) ∧ xs.length + zs.length ≤ sizeLine ∧ ∀ p, H p = none → Q (.ref p) (upd H p (.lst (xs ++ zs)))
theorem op_catS : OpR X (binaryOp .Add) rCatS := by
  intro pins s σ H x y v u Q I rx ry h
  obtain ⟨l, b, xs, zs, rfl, rfl, hH, hB, hz, q⟩ := h
  cases rx
  cases ry
  obtain ⟨hl, its, n, r, e⟩ := rdL I hH
  obtain ⟨hl2, its2, n2, r2, e2⟩ := rdL I hB
  have l1 := r.length
  have l2 := r2.length
  refine PySem.P.add_list e e2 ?_ (by rw [List.size_toArray, List.size_toArray]; omega)
  have ea : its.toArray ++ its2.toArray = (its ++ its2).toArray := by simp
  rw [ea]
  exact ⟨.ref _, _, I.lnew (t' := s.toks) (r.append r2) (by rw [List.length_append]; omega), rfl, q _ I.fresh⟩

/-- what a result must be: the step is done, nothing new -/
theorem binInt_add {i j k : Int} (e : binInt .add i j = some k) : k = i + j := by cases e; rfl
/-- the operator's sign in the model -/
def BOp.tr : BOp → Operator
  | .add => .Add
  | .sub => .Sub
  | .mul => .Mult
  | .fdiv => .FloorDiv
  | .mod => .Mod
  | .pow => .Pow
theorem op_int (op : BOp) : OpR X (binaryOp op.tr) (fun x y H Q => ∃ i j k, x = .int i ∧ y = .int j ∧ binInt op i j = some k ∧ Q (.int k) H) := by
  intro pins s σ H x y v u Q I rx ry h
  obtain ⟨i, j, k, rfl, rfl, e, q⟩ := h
  cases op with
  | add => cases e; exact op_add pins s σ H _ _ v u Q I rx ry ⟨i, j, rfl, rfl, q⟩
  | sub => cases e; exact op_sub pins s σ H _ _ v u Q I rx ry ⟨i, j, rfl, rfl, q⟩
  | mul =>
    simp only [binInt] at e
    split at e
    · rename_i c
      cases e
      exact op_mulW pins s σ H _ _ v u Q I rx ry ⟨i, j, rfl, rfl, of_decide_eq_true (p := intBits i + intBits j < 1000000) c, q⟩
    · cases e
  | fdiv =>
    simp only [binInt] at e
    split at e
    · rename_i c
      cases e
      obtain ⟨c1, c2⟩ := Bool.and_eq_true_iff.mp c
      exact op_fdivW pins s σ H _ _ v u Q I rx ry ⟨i, j, rfl, rfl, ⟨of_decide_eq_true c1, of_decide_eq_true c2⟩, q⟩
    · cases e
  | mod =>
    simp only [binInt] at e
    split at e
    · rename_i c
      cases e
      exact op_mod pins s σ H _ _ v u Q I rx ry ⟨i, j, rfl, rfl, of_decide_eq_true c, q⟩
    · cases e
  | pow =>
    simp only [binInt] at e
    split at e
    · rename_i c
      cases e
      obtain ⟨c1, c2, c3⟩ := of_decide_eq_true c
      exact op_pow pins s σ H _ _ v u Q I rx ry ⟨i, j, rfl, rfl, ⟨c1, Int.le_trans c2 (by decide), c3⟩, q⟩
    · cases e
theorem op_binV (op : BOp) : OpR X (binaryOp op.tr) (rOp2 X.K fun h => binV h op) := by
  intro pins s σ H xv yv v u Q I rx ry h
  obtain ⟨H0, ρ, hp, x, y, z, le, hr, r1, r2, e, q⟩ := h
  replace e : binV hp op x y = some z := e
  unfold binV at e
  split at e
  · -- ints
    rename_i i j
    cases r1
    cases r2
    split at e
    · rename_i k c
      cases e
      exact op_int op pins s σ H _ _ v u Q I rx ry ⟨i, j, k, rfl, rfl, c, q ρ H _ Step.refl hr rfl⟩
    · cases e
  · -- texts
    rename_i a b
    cases r1
    cases r2
    unfold binStr at e
    split at e
    · rename_i c
      obtain ⟨rfl, c⟩ := c
      cases e
      exact op_add_str pins s σ H _ _ v u Q I rx ry ⟨a, b, rfl, rfl, lenOk_le c, q ρ H _ Step.refl hr rfl⟩
    · cases e
  · -- tuples
    rename_i a b
    obtain ⟨p1, vs, rfl, h1, h2⟩ := r1
    obtain ⟨p2, ws, rfl, g1, g2⟩ := r2
    unfold binTup at e
    split at e
    · rename_i c
      obtain ⟨rfl, c⟩ := c
      cases e
      have c' := lenOk_le c
      rw [h2.length, g2.length] at c'
      refine op_catX pins s σ H _ _ v u Q I rx ry ⟨p1, p2, vs, ws, rfl, rfl, h1.sq, g1.sq, c', fun e0 => ?_, fun e0 => ?_, fun p o np d => ?_⟩
      · subst e0
        have e1 : a = [] := List.eq_nil_of_length_eq_zero h2.length
        subst e1
        exact q ρ H _ Step.refl hr ⟨p2, ws, rfl, g1, g2⟩
      · subst e0
        have e1 : b = [] := List.eq_nil_of_length_eq_zero g2.length
        subst e1
        rw [List.append_nil] at q
        exact q ρ H _ Step.refl hr ⟨p1, vs, rfl, h1, h2⟩
      · exact q ρ _ _ (Step.new np) (hr.new np) (RD.tupNew (h2.append g2) np d)
    · cases e
  · -- a tuple, a number
    rename_i a k
    obtain ⟨p1, vs, rfl, h1, h2⟩ := r1
    cases r2
    unfold binTI at e
    split at e
    · rename_i c
      obtain ⟨rfl, c1, c2, c3, c4⟩ := c
      cases e
      have hne : vs ≠ [] := fun z => by
        subst z
        exact c1 (List.eq_nil_of_length_eq_zero h2.length)
      exact op_repX pins s σ H _ _ v u Q I rx ry ⟨p1, k, vs, rfl, rfl, h1.sq, hne, c2, c3, by rw [← h2.length]; exact c4, fun p o np d => q ρ _ _ (Step.new np) (hr.new np) (RD.tupNew (h2.rep _) np d)⟩
    · cases e
  · -- a list, a number
    rename_i k _ _ 
    cases r2
    unfold binK at e
    split at e
    · rename_i xs c0
      unfold binLI at e
      split at e
      · rename_i c
        obtain ⟨rfl, ⟨c3, c4⟩, c2⟩ := c
        cases e
        obtain ⟨a, vs, rfl, ea, r⟩ := getTrk_rel hr r1 c0
        have hl : xs.length = vs.length := Paired.length r
        exact op_rep pins s σ H _ _ v u Q I rx ry ⟨a, k, vs, rfl, rfl, ea, by omega, by omega, by rw [← hl]; exact lenOk_le c2, fun p np => q ρ _ _ (Step.new np) (hr.new np) (RR.lstNew hr le (Paired.repl r _) np)⟩
      · cases e
    · cases e
  · -- two lists
    unfold binL at e
    split at e
    · rename_i xs ys c1 c2
      unfold binLL at e
      split at e
      · rename_i c
        obtain ⟨rfl, c⟩ := c
        cases e
        obtain ⟨a, vs, rfl, ea, ra⟩ := getLst_rel hr r1 c1
        obtain ⟨b, ws, rfl, eb, rb⟩ := getLst_rel hr r2 c2
        have c' := lenOk_le c
        rw [show xs.length = vs.length from Paired.length ra, show ys.length = ws.length from Paired.length rb] at c'
        exact op_catS pins s σ H _ _ v u Q I rx ry ⟨a, b, vs, ws, rfl, rfl, ea, eb, c', fun p np => q ρ _ _ (Step.new np) (hr.new np) (RR.lstNew hr le (Paired.app ra rb) np)⟩
      · cases e
    · cases e
end
end Ev

set_option Elab.async false
set_option linter.all false
set_option maxRecDepth 100000
set_option maxHeartbeats 4000000
/-! Snd2: comparisons, subscripts, slices. -/
namespace Ev
open PySem PySem.Spec PyProof.Rows L2
def COp.tr : COp → CmpOp
  | .eq => .Eq
  | .ne => .NotEq
  | .lt => .Lt
  | .le => .LtE
  | .gt => .Gt
  | .ge => .GtE
  | .is_ => .Is
  | .isNot => .IsNot
  | .in_ => .In
  | .notIn => .NotIn
def cmpR (op : COp) (h : Hp) (x y : RV) : Option RV := match cmpV h op x y with
  | some b => some (rD (.bool b))
  | none => none
section
variable {X : Cx}
theorem shaped_list {bs : List PyData} (h : SeqAt.shaped (.list bs) = true) : PyData.plainAll bs = true ∧ PyData.depthAll bs ≤ 64 := by
  have h1 := SeqAt.canLay_of_shaped h
  have h2 := SeqAt.depth_of_shaped h
  have h3 := PyData.plain_of_canLay0 _ h1
  simp only [PyData.plain] at h3
  simp only [PyData.depth] at h2
  exact ⟨h3, by omega⟩
theorem op_inD (hu : X.A.units + 200 < cLine) (neg : Bool) : OpR X (compareOp (if neg then .NotIn else .In)) (fun x y H Q => ∃ d b vs bs, y = .ref b ∧ (Rd H b (.lst vs) ∨ SqT X.K H b vs) ∧ DpAll X.K H vs bs ∧ Dp X.K H x d ∧ SeqAt.shaped d = true ∧ SeqAt.shaped (.list bs) = true ∧
    Q (.bl (if neg then !inB d bs else inB d bs)) H) := by
  intro pins s σ H x y v u Q I rx ry h
  obtain ⟨d, b, vs, bs, rfl, hb, hv, hd, s1, s2, q⟩ := h
  obtain ⟨as, r1⟩ := Dp.reads I d x v hd rx
  obtain ⟨p1, p2⟩ := shaped_list s2
  have p3 := PyData.plain_of_canLay0 _ (SeqAt.canLay_of_shaped s1)
  have p4 : X.A.units + 1 + min (PyData.depthAll bs) d.depth < cLine := by
    have := Nat.min_le_left (PyData.depthAll bs) d.depth
    omega
  have fin : ∀ c : Bool, Q (.bl c) H → EP X pins σ Q (.bool c) s := fun c q => ⟨.bl c, H, I, rfl, q⟩
  rcases hb with hb | hb
  · obtain ⟨cs, r2⟩ := Dp.reads I (.list bs) (.ref b) u (.lst (.inl hb) hv) ry
    cases neg with
    | true => exact SeqAt.notIn_list_data r2 r1 p1 p3 p4 (fin _ q)
    | false => exact SeqAt.in_list_data r2 r1 p1 p3 p4 (fin _ q)
  · obtain ⟨cs, r2⟩ := Dp.reads I (.tuple bs) (.ref b) u (.tup hb hv) ry
    cases neg with
    | true => exact SeqAt.notIn_tuple_data r2 r1 p1 p3 p4 (fin _ q)
    | false => exact SeqAt.in_tuple_data r2 r1 p1 p3 p4 (fin _ q)
theorem isNone_rel {K : PySem.W.Frag} {H0 H : L2.Hp} {ρ : List Addr} {x : RV} {v : V} (r : RR K H0 ρ H x v) : isNone x = decide (v = .non) := by
  cases x with
  | hv x =>
    cases x with
    | d d =>
      cases d with
      | none => cases r; rfl
      | bool b => cases r; rfl
      | int b => cases r; rfl
      | str b => cases r; rfl
      | list b => obtain ⟨a, vs, rfl, _⟩ := r; rfl
      | tuple b => obtain ⟨a, vs, rfl, _⟩ := r; rfl
      | dict b => exact r.elim
    | ref n => obtain ⟨a, _, rfl⟩ := r; rfl
    | scr x =>
      obtain ⟨a, rfl, _⟩ := r
      rfl
    | ty n => cases r; rfl
  | fresh xs => obtain ⟨a, vs, rfl, _⟩ := r; rfl
def isV (neg : Bool) (x y : RV) : Option Bool := match y with
  | .hv (.d .none) => some (if neg then !isNone x else isNone x)
  | .hv (.d (.bool b)) => match x with
    | .hv (.d (.bool a)) => some (if neg then !decide (a = b) else decide (a = b))
    | _ => none
  | _ => none
theorem isC {H0 : L2.Hp} {ρ : List Addr} {pins : List (Addr × Obj)} {s : Shared} {σ : L2.St} {H : L2.Hp} {xv yv : V} {v u : Value} {Q : VK} {x y : RV} {c : Bool} (neg : Bool) (I : L2.Inv X pins σ H s) (rx : L2.RelV xv v) (ry : L2.RelV yv u)
    (r1 : RR X.K H0 ρ H x xv) (r2 : RR X.K H0 ρ H y yv) (e : isV neg x y = some c) (q : Q (.bl c) H) : wpAny (model X.prog X.w) X.A (compareOp (if neg then .IsNot else .Is) v u) (EP X pins σ Q) X.xe s := by
  cases y with
  | fresh ys => cases e
  | hv y =>
    cases y with
    | d d =>
      cases d with
      | none =>
        cases (show yv = V.non from r2)
        have e3 := Option.some.inj (show some (if neg then !isNone x else isNone x) = some c from e)
        rw [isNone_rel r1] at e3
        cases neg with
        | true =>
          simp only [if_true] at e3 ⊢
          exact op_notN pins s σ H _ _ v u Q I rx ry ⟨rfl, by rw [e3]; exact q⟩
        | false =>
          simp only [Bool.false_eq_true, if_false] at e3 ⊢
          exact op_isN pins s σ H _ _ v u Q I rx ry ⟨rfl, by rw [e3]; exact q⟩
      | bool b =>
        cases (show yv = V.bl b from r2)
        cases x with
        | fresh xs => cases e
        | hv x =>
          cases x with
          | d x =>
            cases x with
            | bool a =>
              cases (show xv = V.bl a from r1)
              have e3 := Option.some.inj (show some (if neg then !decide (a = b) else decide (a = b)) = some c from e)
              cases neg with
              | true =>
                simp only [if_true] at e3 ⊢
                exact op_notBl pins s σ H _ _ v u Q I rx ry ⟨_, _, rfl, rfl, by rw [e3]; exact q⟩
              | false =>
                simp only [Bool.false_eq_true, if_false] at e3 ⊢
                exact op_isBl pins s σ H _ _ v u Q I rx ry ⟨_, _, rfl, rfl, by rw [e3]; exact q⟩
            | _ => cases e
          | _ => cases e
      | _ => cases e
    | _ => cases e
theorem op_cmpV (hu : X.A.units + 200 < cLine) (op : COp) : OpR X (compareOp op.tr) (rOp2 X.K (cmpR op)) := by
  intro pins s σ H xv yv v u Q I rx ry h
  obtain ⟨H0, ρ, hp, x, y, z, le, hr, r1, r2, e, q⟩ := h
  unfold cmpR at e
  split at e
  · rename_i c ec
    cases e
    have q' : Q (.bl c) H := q ρ H _ Step.refl hr rfl
    have eqC : ∀ (neg : Bool), (match getDat hp x, getDat hp y with
        | some a, some b => if SeqAt.shaped a && SeqAt.shaped b then some (if neg then !PyData.eqv a b else PyData.eqv a b) else none
        | _, _ => none) = some c → wpAny (model X.prog X.w) X.A (compareOp (if neg then .NotEq else .Eq) v u) (EP X pins σ Q) X.xe s := fun neg e2 => by
      split at e2
      · rename_i a b ea eb
        split at e2
        · rename_i sh
          obtain ⟨s1, s2⟩ := Bool.and_eq_true_iff.mp sh
          have e3 := Option.some.inj e2
          have d1 := getDat_rel hr r1 ea
          have d2 := getDat_rel hr r2 eb
          cases neg with
          | true =>
            simp only [if_true] at e3 ⊢
            exact op_neD (by omega) pins s σ H _ _ v u Q I rx ry ⟨a, b, d1, d2, s1, s2, by rw [e3]; exact q'⟩
          | false =>
            simp only [Bool.false_eq_true, if_false] at e3 ⊢
            exact op_eqD (by omega) pins s σ H _ _ v u Q I rx ry ⟨a, b, d1, d2, s1, s2, by rw [e3]; exact q'⟩
        · cases e2
      · cases e2
    have inC : ∀ (neg : Bool), (match getDat hp x, getSeq hp y with
        | some a, some ys => match allData ys with
          | some bs => if SeqAt.shaped a && SeqAt.shaped (.list bs) then some (if neg then !inB a bs else inB a bs) else none
          | none => none
        | _, _ => none) = some c → wpAny (model X.prog X.w) X.A (compareOp (if neg then .NotIn else .In) v u) (EP X pins σ Q) X.xe s := fun neg e2 => by
      split at e2
      · rename_i a ys ea ey
        split at e2
        · rename_i bs eb
          split at e2
          · rename_i sh
            obtain ⟨s1, s2⟩ := Bool.and_eq_true_iff.mp sh
            have e3 := Option.some.inj e2
            have d1 := getDat_rel hr r1 ea
            obtain ⟨b, vs, rfl, hb, rb⟩ := getSeq_rel' hr r2 ey
            rw [allData_eq eb] at rb
            exact op_inD hu neg pins s σ H _ _ v u Q I rx ry ⟨a, b, vs, bs, rfl, hb, RDs.dp _ _ rb.rds, d1, s1, s2, by rw [e3]; exact q'⟩
          · cases e2
        · cases e2
      · cases e2
    cases op with
    | eq => exact eqC false ec
    | ne => exact eqC true ec
    | is_ => exact isC false I rx ry r1 r2 (by rw [← ec]; unfold isV; cases y <;> rfl) q'
    | isNot => exact isC true I rx ry r1 r2 (by rw [← ec]; unfold isV; cases y <;> rfl) q'
    | in_ => exact inC false ec
    | notIn => exact inC true ec
    | lt =>
      simp only [cmpV] at ec
      split at ec
      · cases r1; cases r2
        cases ec
        exact op_lt pins s σ H _ _ v u Q I rx ry ⟨_, _, rfl, rfl, q'⟩
      · cases ec
    | le =>
      simp only [cmpV] at ec
      split at ec
      · cases r1; cases r2
        cases ec
        exact op_le pins s σ H _ _ v u Q I rx ry ⟨_, _, rfl, rfl, q'⟩
      · cases ec
    | gt =>
      simp only [cmpV] at ec
      split at ec
      · cases r1; cases r2
        cases ec
        exact op_gt pins s σ H _ _ v u Q I rx ry ⟨_, _, rfl, rfl, q'⟩
      · cases ec
    | ge =>
      simp only [cmpV] at ec
      split at ec
      · cases r1; cases r2
        cases ec
        exact op_ge pins s σ H _ _ v u Q I rx ry ⟨_, _, rfl, rfl, q'⟩
      · cases ec
  · cases e
/-! ### subscripts -/
def ixR (h : Hp) (x y : RV) : Option RV := match toInt y with
  | some j => ixV h x j
  | none => none
theorem toInt_eq {y : RV} {i : Int} (h : toInt y = some i) : y = rD (.int i) := by
  unfold toInt at h
  split at h
  · cases h; rfl
  · cases h
theorem toBool_eq {y : RV} {i : Bool} (h : toBool y = some i) : y = rD (.bool i) := by
  unfold toBool at h
  split at h
  · cases h; rfl
  · cases h
theorem ix_V : IxR X (rOp2 X.K ixR) := by
  intro value slice pins s σ H xv yv v u Q I rx ry h hs
  obtain ⟨H0, ρ, hp, x, y, z, le, hr, r1, r2, e, q⟩ := h
  unfold ixR at e
  split at e
  · rename_i j ej
    rw [toInt_eq ej] at r2
    cases (show yv = .int j from r2)
    unfold ixV at e
    split at e
    · rename_i xs ex
      split at e
      · rename_i k ek
        split at e
        · rename_i w ew
          cases e
          obtain ⟨a, vs, rfl, ha, ra⟩ := getAny_rel hr r1 ex
          obtain ⟨w', ew', rw'⟩ := Paired.get' ra ew
          have hl : xs.length = vs.length := Paired.length ra
          have at1 : atI vs j = some w' := by
            unfold atI
            rw [← hl, ← place_eq, ek]
            exact ew'
          have q' : Q w' H := q ρ H _ Step.refl hr rw'
          rcases ha with ha | ha
          · exact ix_list value slice pins s σ H _ _ v u Q I rx ry ⟨a, vs, j, w', rfl, rfl, ha, at1, q'⟩ hs
          · exact ix_tup value slice pins s σ H _ _ v u Q I rx ry ⟨a, vs, j, w', rfl, rfl, ha, at1, q'⟩ hs
        · cases e
      · cases e
    · cases e
  · cases e
/-! ### slices -/
theorem sl_V : SlR X (fun xv lo hi H Q => ∃ H0 ρ hp x z, Le H0 H ∧ HRel X.K ρ hp H ∧ RR X.K H0 ρ H x xv ∧ slV hp x lo hi = some z ∧ ∀ ρ' H' v, Step ρ H ρ' H' → HRel X.K ρ' hp H' → RR X.K H0 ρ' H' z v → Q v H') := by
  intro pins s σ H xv v vl vu lo hi sl Q I rx hs pl pu h
  obtain ⟨H0, ρ, hp, x, z, le, hr, r1, e, q⟩ := h
  unfold slV at e
  split at e
  · rename_i ds
    cases e
    obtain ⟨a, vs, rfl, h1, h2⟩ := r1
    have hl := h2.length
    have cut : ∀ {lo hi}, RDs X.K H (cutL ds lo hi) (cutV vs lo hi) := fun {lo hi} => by
      unfold cutL cutV
      rw [sIx_eq, sIx_eq, hl]
      exact (h2.drop _).take _
    refine sl_tupX pins s σ H _ v vl vu lo hi sl Q I rx hs pl pu ⟨a, vs, rfl, h1.sq, fun ec => ?_, fun p o np d => q ρ _ _ (Step.new np) (hr.new np) (RD.tupNew cut np d)⟩
    have cut' := cut (lo := lo) (hi := hi)
    rw [ec] at cut'
    exact q ρ H _ Step.refl hr ⟨a, vs, rfl, h1, cut'⟩
  · split at e
    · rename_i xs ex
      cases e
      obtain ⟨a, vs, rfl, ha, ra⟩ := getAnyL_rel hr r1 ex
      have hl : xs.length = vs.length := Paired.length ra
      have cut : RHs X.K ρ H (cutL xs lo hi) (cutV vs lo hi) := by
        unfold cutL cutV
        rw [sIx_eq, sIx_eq, hl]
        exact Paired.take' _ (Paired.drop' _ ra)
      exact sl_list pins s σ H _ v vl vu lo hi sl Q I rx hs pl pu ⟨a, vs, rfl, ha, fun p np => q ρ _ _ (Step.new np) (hr.new np) (RR.lstNew hr le cut np)⟩
    · cases e
end
end Ev

set_option Elab.async false
set_option linter.all false
set_option maxRecDepth 100000
set_option maxHeartbeats 4000000
/-! Snd3: calls of built-ins. -/
namespace Ev
open PySem PySem.Spec PyProof.Rows L2
def rCall (K : PySem.W.Frag) (g : Hp → List RV → Option RV) : List V → L2.Hp → VK → Prop := fun vs H Q => ∃ H0 ρ hp xs z, Le H0 H ∧ HRel K ρ hp H ∧ RRs K H0 ρ H xs vs ∧ g hp xs = some z ∧
  ∀ ρ' H' v, Step ρ H ρ' H' → HRel K ρ' hp H' → RR K H0 ρ' H' z v → Q v H'
section
variable {K : PySem.W.Frag} {ρ : List Addr} {H H0 : L2.Hp} {hp : Hp}
theorem RRs.one {x : RV} {vs : List V} (h : RRs K H0 ρ H [x] vs) : ∃ v, vs = [v] ∧ RR K H0 ρ H x v := by
  cases h with
  | cons a b => cases b; exact ⟨_, rfl, a⟩
theorem RRs.two {x y : RV} {vs : List V} (h : RRs K H0 ρ H [x, y] vs) : ∃ v u, vs = [v, u] ∧ RR K H0 ρ H x v ∧ RR K H0 ρ H y u := by
  cases h with
  | cons a b =>
    obtain ⟨u, rfl, r⟩ := RRs.one b
    exact ⟨_, u, rfl, a, r⟩
theorem ints_eq : ∀ {xs : List HV} {is : List Int} {vs : List V}, ints? xs = some is → RHs K ρ H xs vs → vs = is.map V.int
  | [], is, vs, e, r => by
    cases e
    cases r
    rfl
  | .d (.int i) :: r, is, vs, e, q => by
    unfold ints? at e
    cases z : ints? r with
    | none => rw [z] at e; cases e
    | some js =>
      rw [z] at e
      cases e
      cases q with
      | cons a b =>
        cases a
        rw [ints_eq z b]
        rfl
  | .ref _ :: _, _, _, e, _ => by cases e
  | .scr _ :: _, _, _, e, _ => by cases e
  | .ty _ :: _, _, _, e, _ => by cases e
  | .d .none :: _, _, _, e, _ => by cases e
  | .d (.bool _) :: _, _, _, e, _ => by cases e
  | .d (.str _) :: _, _, _, e, _ => by cases e
  | .d (.list _) :: _, _, _, e, _ => by cases e
  | .d (.tuple _) :: _, _, _, e, _ => by cases e
  | .d (.dict _) :: _, _, _, e, _ => by cases e
theorem bools_eq : ∀ {xs : List HV} {is : List Bool} {vs : List V}, bools? xs = some is → RHs K ρ H xs vs → vs = is.map V.bl
  | [], is, vs, e, r => by
    cases e
    cases r
    rfl
  | .d (.bool i) :: r, is, vs, e, q => by
    unfold bools? at e
    cases z : bools? r with
    | none => rw [z] at e; cases e
    | some js =>
      rw [z] at e
      cases e
      cases q with
      | cons a b =>
        cases a
        rw [bools_eq z b]
        rfl
  | .ref _ :: _, _, _, e, _ => by cases e
  | .scr _ :: _, _, _, e, _ => by cases e
  | .ty _ :: _, _, _, e, _ => by cases e
  | .d .none :: _, _, _, e, _ => by cases e
  | .d (.int _) :: _, _, _, e, _ => by cases e
  | .d (.str _) :: _, _, _, e, _ => by cases e
  | .d (.list _) :: _, _, _, e, _ => by cases e
  | .d (.tuple _) :: _, _, _, e, _ => by cases e
  | .d (.dict _) :: _, _, _, e, _ => by cases e
end
theorem minI_spec : ∀ {ns : List Int} {m : Int}, minI ns = some m → m ∈ ns ∧ ∀ y ∈ ns, m ≤ y
  | [], m, h => by cases h
  | x :: r, m, h => by
    unfold minI at h
    cases e : minI r with
    | none =>
      rw [e] at h
      cases h
      cases r with
      | nil => exact ⟨List.mem_cons_self, fun y hy => by simp at hy; omega⟩
      | cons z r' =>
        exfalso
        unfold minI at e
        cases e2 : minI r' <;> rw [e2] at e <;> cases e
    | some y =>
      rw [e] at h
      have ih := minI_spec e
      have h' := Option.some.inj h
      split at h'
      · subst h'
        exact ⟨List.mem_cons_self, fun z hz => by
          rcases List.mem_cons.mp hz with rfl | hz
          · omega
          · have := ih.2 z hz; omega⟩
      · subst h'
        exact ⟨List.mem_cons_of_mem _ ih.1, fun z hz => by
          rcases List.mem_cons.mp hz with rfl | hz
          · omega
          · exact ih.2 z hz⟩
theorem maxI_spec : ∀ {ns : List Int} {m : Int}, maxI ns = some m → m ∈ ns ∧ ∀ y ∈ ns, y ≤ m
  | [], m, h => by cases h
  | x :: r, m, h => by
    unfold maxI at h
    cases e : maxI r with
    | none =>
      rw [e] at h
      cases h
      cases r with
      | nil => exact ⟨List.mem_cons_self, fun y hy => by simp at hy; omega⟩
      | cons z r' =>
        exfalso
        unfold maxI at e
        cases e2 : maxI r' <;> rw [e2] at e <;> cases e
    | some y =>
      rw [e] at h
      have ih := maxI_spec e
      have h' := Option.some.inj h
      split at h'
      · subst h'
        exact ⟨List.mem_cons_self, fun z hz => by
          rcases List.mem_cons.mp hz with rfl | hz
          · omega
          · have := ih.2 z hz; omega⟩
      · subst h'
        exact ⟨List.mem_cons_of_mem _ ih.1, fun z hz => by
          rcases List.mem_cons.mp hz with rfl | hz
          · omega
          · exact ih.2 z hz⟩
/-! ### the sort is the library's -/
section
open PySem.W
def leD : PyData → PyData → Bool := PySem.W.dataLe false id
theorem leD_total : TotalLe leD := sortLe_total (listOrd itemOrd) false fun b : PyData => keyToks (id b)
theorem leD_lt (x y : PyData) : leD x y = !dataLt y x := rfl
theorem insD_pw {x : PyData} : ∀ {l : List PyData}, l.Pairwise (fun a b => leD a b = true) → (insD x l).Pairwise (fun a b => leD a b = true) ∧ ∀ y, y ∈ insD x l ↔ y = x ∨ y ∈ l
  | [], _ => ⟨by unfold insD; exact List.pairwise_singleton _ _, fun y => by unfold insD; simp⟩
  | z :: r, h => by
    obtain ⟨h1, h2⟩ := List.pairwise_cons.mp h
    unfold insD
    by_cases c : dataLt z x = true
    · rw [if_pos c]
      obtain ⟨p, m⟩ := insD_pw (x := x) h2
      refine ⟨List.pairwise_cons.mpr ⟨fun y hy => ?_, p⟩, fun y => ?_⟩
      · rcases (m y).mp hy with rfl | hy
        · rcases leD_total.total z y with q | q
          · exact q
          · rw [leD_lt, c] at q; cases q
        · exact h1 y hy
      · rw [List.mem_cons, m y, List.mem_cons]
        constructor
        · rintro (h | h | h)
          · exact .inr (.inl h)
          · exact .inl h
          · exact .inr (.inr h)
        · rintro (h | h | h)
          · exact .inr (.inl h)
          · exact .inl h
          · exact .inr (.inr h)
    · rw [if_neg c]
      have xz : leD x z = true := by rw [leD_lt]; simpa using c
      exact ⟨List.pairwise_cons.mpr ⟨fun y hy => by
        rcases List.mem_cons.mp hy with rfl | hy
        · exact xz
        · exact leD_total.trans x z y xz (h1 y hy), h⟩, fun y => List.mem_cons⟩
theorem insD_filter {x : PyData} (c : PyData) : ∀ {l : List PyData}, (insD x l).filter (sameRank leD c) = (x :: l).filter (sameRank leD c)
  | [] => rfl
  | z :: r => by
    unfold insD
    by_cases q : dataLt z x = true
    · rw [if_pos q, List.filter_cons, insD_filter c]
      by_cases hz : sameRank leD c z = true
      · have hx : ¬ sameRank leD c x = true := fun hx => by
          unfold sameRank at hz hx
          obtain ⟨a1, a2⟩ := Bool.and_eq_true_iff.mp hz
          obtain ⟨b1, b2⟩ := Bool.and_eq_true_iff.mp hx
          have t : leD x z = true := leD_total.trans _ _ _ (by first | exact b2 | exact b1) (by first | exact a1 | exact a2)
          rw [leD_lt, q] at t
          cases t
        simp [List.filter_cons, hz, hx]
      · simp [List.filter_cons, hz]
    · rw [if_neg q]
theorem isort_pw : ∀ l : List PyData, (isort l).Pairwise (fun a b => leD a b = true)
  | [] => List.Pairwise.nil
  | x :: r => (insD_pw (isort_pw r)).1
theorem isort_filter (c : PyData) : ∀ l : List PyData, (isort l).filter (sameRank leD c) = l.filter (sameRank leD c)
  | [] => rfl
  | x :: r => by
    show (insD x (isort r)).filter _ = _
    rw [insD_filter, List.filter_cons, isort_filter c r, List.filter_cons]
theorem isort_eq (l : List PyData) : isort l = l.mergeSort leD := sort_unique leD_total (isort_pw l) fun c => isort_filter c l
end
end Ev

set_option Elab.async false
set_option linter.all false
set_option maxRecDepth 100000
set_option maxHeartbeats 4000000
/-! Snd4: calls of built-ins, each. -/
namespace Ev
open PySem PySem.Spec PyProof.Rows L2
inductive BK where
  | f (id : String)
  | t (n : String)
def BK.v : BK → Value
  | .f id => .builtin id
  | .t n => .type n
def Bi.id : Bi → BK
  | .len => .f "len"
  | .all => .f "all"
  | .any => .f "any"
  | .sum => .f "sum"
  | .min1 => .f "min"
  | .max1 => .f "max"
  | .min2 => .f "min"
  | .max2 => .f "max"
  | .sorted => .f "sorted"
  | .tuple => .t "tuple"
  | .list => .t "list"
  | .int => .t "int"
  | .abs => .f "abs"
  | .repr => .f "repr"
  | .divmod => .f "divmod"
  | .gcd => .f "math.gcd"
  | .lcm => .f "math.lcm"
  | .lenSet => .f ""
  | .bool => .t "bool"
section
variable {X : Cx}
theorem cr_sumT (hc : X.calm = true) : CallR X (.builtin "sum") (fun vs H Q => ∃ (a : Addr) (ns : List Int), vs = [V.ref a] ∧ SqT X.K H a (ns.map V.int) ∧ Q (.int ns.sum) H) := by
  intro pins s σ H vs us Q I r h
  obtain ⟨a, ns, rfl, hs, q⟩ := h
  obtain ⟨its, rv, hl, _⟩ := I.tuple hs
  rw [Vals.ref1 r]
  have hi := rv.ints
  obtain ⟨xs, e⟩ := hi.allInts.items
  have hn : numsOf (intItems xs).toList = ns := by rw [← e]; exact hi.numsOf
  rw [nums_intItems] at hn
  rw [e] at hl
  refine PySem.W.ktm_sumG (I.ok.hd hc) hl fun h' tk t' hk => ?_
  rw [preSum_eq, List.take_of_length_le (by simp), hn]
  exact ⟨.int _, H, I.kept hk, ⟨_, rfl⟩, q⟩
theorem cr_repr (hu : X.A.units + 200 < cLine) (hg : X.A.guards = some []) : CallR X (.builtin "repr") (fun vs H Q => ∃ v d, vs = [v] ∧ Dp X.K H v d ∧ showOk d = true ∧ Q (.str d.shown) H) := by
  intro pins s σ H vs us Q I r h
  obtain ⟨v, d, rfl, hd, hs, q⟩ := h
  obtain ⟨u, rfl, ru⟩ := L2.Vals.one r
  unfold showOk at hs
  simp only [Bool.and_eq_true, Bool.not_eq_true'] at hs
  obtain ⟨⟨⟨h1, h2⟩, h3⟩, h4⟩ := hs
  have h1' := of_decide_eq_true h1
  have h4' := lenOk_le h4
  have rf : ∀ a, u = .ref a → (∀ as, Reads s.heap u d as → wpAny (model X.prog X.w) X.A (call (.builtin "repr") [u]) (EP X pins σ Q) X.xe s) := fun a e as rd => by
    subst e
    exact repr_of_reads' rd h3 (PyData.noDict_hsm h2) hg (by omega) (fun _ _ e => e) (fun h' t tk hk => ⟨.str d.shown, H, I.kept hk, ⟨_, rfl⟩, q⟩) h4'
  obtain ⟨as, rd⟩ := Dp.reads I d v u hd ru
  cases hd with
  | non => cases ru; exact PySem.P.repr_of_none ⟨.str _, H, I.tok _, ⟨_, rfl⟩, by simpa [PyData.shown] using q⟩
  | bl b => cases ru; exact PySem.P.repr_of_bool ⟨.str _, H, I.tok _, ⟨_, rfl⟩, by simpa [PyData.shown] using q⟩
  | int i =>
    obtain ⟨t, rfl⟩ := ru
    simp only [PyData.showable] at h3
    exact PySem.P.repr_of_int (of_decide_eq_true h3) ⟨.str _, H, I.tok _, ⟨_, rfl⟩, by simpa [PyData.shown] using q⟩
  | str x =>
    obtain ⟨t, rfl⟩ := ru
    simp only [PyData.shown] at h4' q
    exact PySem.P.repr_of_str ⟨.str _, H, I.tok _, ⟨_, rfl⟩, q⟩ h4'
  | lst _ _ => exact rf _ ru as rd
  | tup _ _ => exact rf _ ru as rd
theorem cr_lcm : CallR X (.builtin "math.lcm") (fun vs H Q => ∃ a b : Int, vs = [.int a, .int b] ∧ a.natAbs < 2 ^ 64 ∧ b.natAbs < 2 ^ 64 ∧ Q (.int ((Nat.lcm a.natAbs b.natAbs : Nat) : Int)) H) := by
  intro pins s σ H vs us Q I r h
  obtain ⟨a, b, rfl, ha, hb, q⟩ := h
  obtain ⟨t, u, rfl⟩ := Vals.int2 r
  exact PySem.W.mc_lcm ha hb fun _ => ⟨.int _, H, I.tok _, ⟨_, rfl⟩, q⟩
/-! ### sorted -/
theorem each_of {K : PySem.W.Frag} {H : L2.Hp} : ∀ {ds : List PyData} {vs : List V} {us : List Value}, RDs K H ds vs → Vals vs us → PySem.W.EachIs (fun (v : Value) (b : V × PyData) => RelV b.1 v) us (vs.zip ds)
  | [], vs, us, h, r => by
    rw [show vs = [] from h] at r ⊢
    cases r
    exact .nil
  | d :: ds, vs, us, h, r => by
    obtain ⟨v, rr, rfl, h1, h2⟩ := h
    cases r with
    | cons a b => exact .cons a (each_of h2 b)
theorem each_reads {pins : List (Addr × Obj)} {s : Shared} {σ : L2.St} {H : L2.Hp} (I : L2.Inv X pins σ H s) : ∀ {ds : List PyData} {vs : List V} {us : List Value}, RDs X.K H ds vs → Vals vs us → PySem.W.EachIs (fun (v : Value) (b : V × PyData) => ∃ as, Reads s.heap v b.2 as) us (vs.zip ds)
  | [], vs, us, h, r => by
    rw [show vs = [] from h] at r ⊢
    cases r
    exact .nil
  | d :: ds, vs, us, h, r => by
    obtain ⟨v, rr, rfl, h1, h2⟩ := h
    cases r with
    | cons a b => exact .cons (Dp.reads I d v _ (RD.dp _ _ h1) a) (each_reads I h2 b)
theorem zip_snd {K : PySem.W.Frag} {H : L2.Hp} : ∀ {ds : List PyData} {vs : List V}, RDs K H ds vs → (vs.zip ds).map (·.2) = ds
  | [], vs, h => by rw [show vs = [] from h]; rfl
  | d :: ds, vs, h => by
    obtain ⟨v, rr, rfl, h1, h2⟩ := h
    show d :: (rr.zip ds).map (·.2) = d :: ds
    rw [zip_snd h2]
theorem zip_rd {K : PySem.W.Frag} {H : L2.Hp} : ∀ {ds : List PyData} {vs : List V}, RDs K H ds vs → ∀ p ∈ vs.zip ds, RD K H p.2 p.1
  | [], vs, h => by rw [show vs = [] from h]; intro p hp; cases hp
  | d :: ds, vs, h => by
    obtain ⟨v, rr, rfl, h1, h2⟩ := h
    intro p hp
    rcases List.mem_cons.mp (show p ∈ (v, d) :: rr.zip ds from hp) with rfl | hp
    · exact h1
    · exact zip_rd h2 p hp
theorem rds_of {K : PySem.W.Frag} {H : L2.Hp} : ∀ {l : List (V × PyData)}, (∀ p ∈ l, RD K H p.2 p.1) → RDs K H (l.map (·.2)) (l.map (·.1))
  | [], _ => rfl
  | p :: l, h => ⟨p.1, l.map (·.1), rfl, h p List.mem_cons_self, rds_of fun q hq => h q (List.mem_cons_of_mem _ hq)⟩
theorem vals_each : ∀ {out : List Value} {l : List (V × PyData)}, PySem.W.EachIs (fun (v : Value) (b : V × PyData) => RelV b.1 v) out l → Vals (l.map (·.1)) out
  | _, _, .nil => .nil
  | _, _, .cons a b => .cons a (vals_each b)
theorem mem_depth : ∀ {ds : List PyData} {d : PyData}, d ∈ ds → d.depth ≤ PyData.depthAll ds
  | [], d, h => by cases h
  | x :: r, d, h => by
    simp only [PyData.depthAll]
    rcases List.mem_cons.mp h with rfl | h
    · exact Nat.le_max_left _ _
    · exact Nat.le_trans (mem_depth h) (Nat.le_max_right _ _)
theorem cr_sortedD (hu : X.A.units + 200 < cLine) : CallR X (.builtin "sorted") (fun vs H Q => ∃ a ws ds, vs = [V.ref a] ∧ Rd H a (.lst ws) ∧ RDs X.K H ds ws ∧ SeqAt.shaped (.list ds) = true ∧ alikeB ds = true ∧ sortableB ds = true ∧
    ∀ p ys, H p = none → RDs X.K H (isort ds) ys → Q (.ref p) (upd H p (.lst ys))) := by
  intro pins s σ H vs us Q I r h
  obtain ⟨a, ws, ds, rfl, ha, hd, hs, hal, hk, q⟩ := h
  obtain ⟨u, rfl, ru⟩ := L2.Vals.one r
  cases ru
  obtain ⟨hz, its, n, rv, ho⟩ := rdL I ha
  obtain ⟨_, hdep⟩ := shaped_list hs
  have hzip := zip_snd hd
  have hA : PySem.W.AllAlike ((ws.zip ds).map (fun p : V × PyData => p.2)) := by
    rw [hzip]
    intro d hd1 d' hd2
    exact List.all_eq_true.mp (List.all_eq_true.mp hal d hd1) d' hd2
  have hS : PySem.W.Sortable ((ws.zip ds).map (fun p : V × PyData => p.2)) := by
    rw [hzip]
    rcases Bool.or_eq_true_iff.mp hk with h | h
    · refine .inl fun d hd1 => ?_
      have := List.all_eq_true.mp h d hd1
      cases d with
      | tuple xs =>
        cases xs with
        | nil => cases this
        | cons x r => exact ⟨x, r, rfl⟩
      | _ => cases this
    · refine .inr fun d hd1 => ?_
      have := List.all_eq_true.mp h d hd1
      cases d with
      | tuple xs => cases this
      | none => cases this
      | _ => exact ⟨by simp, by simp⟩
  have hl : (ws.zip ds).length = ws.length := by
    rw [List.length_zip, hd.length, Nat.min_self]
  have hm : ((ws.zip ds).mergeSort (PySem.W.dataLe false fun p : V × PyData => p.2)).map (·.2) = isort ds := by
    have e0 : isort ds = ((ws.zip ds).map (·.2)).mergeSort leD := by rw [hzip, isort_eq]
    rw [e0]
    exact PySem.W.sort_maps (r := PySem.W.dataLe false fun p : V × PyData => p.2) (s := leD) (fun p : V × PyData => p.2) fun a _ b _ => rfl
  refine PySem.W.sorted_data (R := fun (v : Value) (b : V × PyData) => RelV b.1 v) (vs := its) (enc := fun p : V × PyData => p.2) ⟨_, ho, rfl, n, rfl⟩ (each_of hd rv) (each_reads I hd rv) hA hS (by rw [hl]; exact hz) (fun b hb => ?_) fun out ho2 he => ?_
  · have h1 : b.2 ∈ ds := by
      rw [← hzip]
      exact List.mem_map.mpr ⟨b, hb, rfl⟩
    have := mem_depth h1
    omega
  · obtain ⟨e, he2⟩ := sortedAll_at s.heap its (List.toArray out)
    have np : H (s.heap.objs.size + 1) = none := I.hok.fresh (Nat.le_succ _)
    have rv2 := vals_each he
    have rd2 : RDs X.K H (isort ds) (((ws.zip ds).mergeSort (PySem.W.dataLe false fun p : V × PyData => p.2)).map (·.1)) := by
      rw [← hm]
      exact rds_of fun p hp => zip_rd hd p (List.mem_mergeSort.mp hp)
    refine ⟨.ref _, _, I.laid (t' := s.toks) (o := .lst _) (fun b o q => sortedAll_old q) (Nat.le_succ _) ⟨?_, out, e, rv2, he2⟩, rfl, q _ _ np rd2⟩
    rw [List.length_map, List.length_mergeSort, hl]
    exact hz
end
end Ev

set_option Elab.async false
set_option linter.all false
set_option maxRecDepth 100000
set_option maxHeartbeats 4000000
/-! Snd5: the built-ins by their names. -/
namespace Ev
open PySem PySem.Spec PyProof.Rows L2
section
variable {X : Cx}
/-- what stands in a list that is read as ints -/
theorem cr_biV (hc : X.calm = true) (hu : X.A.units + 200 < cLine) (hg : X.A.guards = some []) (b : Bi) (hb : b ≠ .lenSet) : CallR X b.id.v (rCall X.K fun h => biV h b) := by
  intro pins s σ H vs us Q I r h
  obtain ⟨H0, ρ, hp, xs, z, le, hr, rx, e, q⟩ := h
  replace e : biV hp b xs = some z := e
  unfold biV at e
  split at e
  · -- len of a text
    obtain ⟨v, rfl, r1⟩ := rx.one
    cases r1
    split at e
    · rename_i c
      cases e
      exact call_len_str pins s σ H _ us Q I r ⟨_, rfl, lenOk_le c, q ρ H _ Step.refl hr rfl⟩
    · cases e
  · -- len
    obtain ⟨v, rfl, r1⟩ := rx.one
    split at e
    · rename_i ys ey
      cases e
      obtain ⟨a, ws, rfl, ha, ra⟩ := getAny_rel hr r1 ey
      have hl : ys.length = ws.length := Paired.length ra
      refine call_len_seq pins s σ H _ us Q I r ⟨a, ws, rfl, ha, ?_⟩
      rw [← hl]
      exact q ρ H _ Step.refl hr rfl
    · cases e
  · -- all
    obtain ⟨v, rfl, r1⟩ := rx.one
    split at e
    · rename_i ys ey
      split at e
      · rename_i bs eb
        cases e
        obtain ⟨a, ws, rfl, ha, ra⟩ := getLst_rel hr r1 ey
        have ew := bools_eq eb ra
        subst ew
        exact cr_all hc pins s σ H _ us Q I r ⟨a, bs, rfl, .inl ha, q ρ H _ Step.refl hr rfl⟩
      · cases e
    · cases e
  · -- any
    obtain ⟨v, rfl, r1⟩ := rx.one
    split at e
    · rename_i ys ey
      split at e
      · rename_i bs eb
        cases e
        obtain ⟨a, ws, rfl, ha, ra⟩ := getLst_rel hr r1 ey
        have ew := bools_eq eb ra
        subst ew
        exact cr_any hc pins s σ H _ us Q I r ⟨a, bs, rfl, .inl ha, q ρ H _ Step.refl hr rfl⟩
      · cases e
    · cases e
  · -- sum
    obtain ⟨v, rfl, r1⟩ := rx.one
    split at e
    · rename_i ys ey
      split at e
      · rename_i bs eb
        cases e
        obtain ⟨a, ws, rfl, ha, ra⟩ := getSeq_rel' hr r1 ey
        have ew := ints_eq eb ra
        subst ew
        rcases ha with ha | ha
        · exact cr_sum hc pins s σ H _ us Q I r ⟨a, bs, rfl, .inl ha, q ρ H _ Step.refl hr rfl⟩
        · exact cr_sumT hc pins s σ H _ us Q I r ⟨a, bs, rfl, ha, q ρ H _ Step.refl hr rfl⟩
      · cases e
    · cases e
  · -- min of a list
    obtain ⟨v, rfl, r1⟩ := rx.one
    split at e
    · rename_i ys ey
      split at e
      · rename_i bs eb
        split at e
        · rename_i m em
          cases e
          obtain ⟨a, ws, rfl, ha, ra⟩ := getLst_rel hr r1 ey
          have ew := ints_eq eb ra
          subst ew
          obtain ⟨m1, m2⟩ := minI_spec em
          refine cr_min hc pins s σ H _ us Q I r ⟨a, bs, rfl, .inl ha, List.length_pos_of_mem m1, fun k k1 k2 => ?_⟩
          have ek : k = m := Int.le_antisymm (k2 m m1) (m2 k k1)
          subst ek
          exact q ρ H _ Step.refl hr rfl
        · cases e
      · cases e
    · cases e
  · -- max of a list
    obtain ⟨v, rfl, r1⟩ := rx.one
    split at e
    · rename_i ys ey
      split at e
      · rename_i bs eb
        split at e
        · rename_i m em
          cases e
          obtain ⟨a, ws, rfl, ha, ra⟩ := getLst_rel hr r1 ey
          have ew := ints_eq eb ra
          subst ew
          obtain ⟨m1, m2⟩ := maxI_spec em
          refine cr_max hc pins s σ H _ us Q I r ⟨a, bs, rfl, .inl ha, List.length_pos_of_mem m1, fun k k1 k2 => ?_⟩
          have ek : k = m := Int.le_antisymm (m2 k k1) (k2 m m1)
          subst ek
          exact q ρ H _ Step.refl hr rfl
        · cases e
      · cases e
    · cases e
  · -- min of two
    obtain ⟨v, u, rfl, r1, r2⟩ := rx.two
    cases r1; cases r2; cases e
    exact call_min2 hc pins s σ H _ us Q I r ⟨_, _, rfl, q ρ H _ Step.refl hr rfl⟩
  · -- max of two
    obtain ⟨v, u, rfl, r1, r2⟩ := rx.two
    cases r1; cases r2; cases e
    exact call_max2 hc pins s σ H _ us Q I r ⟨_, _, rfl, q ρ H _ Step.refl hr rfl⟩
  · -- sorted
    obtain ⟨v, rfl, r1⟩ := rx.one
    split at e
    · rename_i ys ey
      split at e
      · rename_i ds ed
        split at e
        · rename_i c
          cases e
          simp only [Bool.and_eq_true] at c
          obtain ⟨⟨c1, c2⟩, c3⟩ := c
          obtain ⟨a, ws, rfl, ha, ra⟩ := getLst_rel hr r1 ey
          rw [allData_eq ed] at ra
          exact cr_sortedD hu pins s σ H _ us Q I r ⟨a, ws, ds, rfl, ha, ra.rds, c1, c2, c3, fun p zs np rz => q ρ _ _ (Step.new np) (hr.new np) (RR.lstNew hr le rz.rhs np)⟩
        · cases e
      · cases e
    · cases e
  · -- tuple
    obtain ⟨v, rfl, r1⟩ := rx.one
    split at e
    · rename_i ys ey
      split at e
      · rename_i ds ed
        cases e
        obtain ⟨a, ws, rfl, ha, ra⟩ := getSeq_rel hr r1 ey
        rw [allData_eq ed] at ra
        refine call_tupleX pins s σ H _ us Q I r ⟨a, ws, rfl, ?_⟩
        rcases ha with ha | ha
        · exact .inl ⟨.inl ha, fun p o np d => q ρ _ _ (Step.new np) (hr.new np) (RD.tupNew ra.rds np d)⟩
        · exact   .inr ⟨ha.sq, q ρ H _ Step.refl hr ⟨a, ws, rfl, ha, ra.rds⟩⟩
      · cases e
    · cases e
  · -- list
    obtain ⟨v, rfl, r1⟩ := rx.one
    split at e
    · rename_i ys ey
      cases e
      obtain ⟨a, ws, rfl, ha, ra⟩ := getSeq_rel' hr r1 ey
      exact call_list_of pins s σ H _ us Q I r ⟨a, ws, rfl, ha.imp .inl id, fun p np => q ρ _ _ (Step.new np) (hr.new np) (RR.lstNew hr le ra np)⟩
    · cases e
  · -- int
    obtain ⟨v, rfl, r1⟩ := rx.one
    cases r1; cases e
    exact call_int1 pins s σ H _ us Q I r (.inl ⟨_, rfl, q ρ H _ Step.refl hr rfl⟩)
  · -- int of a flag
    obtain ⟨v, rfl, r1⟩ := rx.one
    cases r1; cases e
    exact call_int1 pins s σ H _ us Q I r (.inr ⟨_, rfl, q ρ H _ Step.refl hr rfl⟩)
  · -- abs
    obtain ⟨v, rfl, r1⟩ := rx.one
    cases r1; cases e
    exact call_abs pins s σ H _ us Q I r ⟨_, rfl, q ρ H _ Step.refl hr rfl⟩
  · -- repr
    obtain ⟨v, rfl, r1⟩ := rx.one
    split at e
    · rename_i d ed
      split at e
      · rename_i c
        cases e
        exact cr_repr hu hg pins s σ H _ us Q I r ⟨v, d, rfl, getDat_rel hr r1 ed, c, q ρ H _ Step.refl hr rfl⟩
      · cases e
    · cases e
  · exact absurd rfl hb
  · -- divmod
    obtain ⟨v, u, rfl, r1, r2⟩ := rx.two
    cases r1; cases r2
    split at e
    · rename_i c
      cases e
      have c1 := of_decide_eq_true c
      refine call_divX pins s σ H _ us Q I r ⟨_, _, rfl, c1, fun p o np d => q ρ _ _ (Step.new np) (hr.new np) (RD.tupNew (vs := [.int _, .int _]) ⟨_, _, rfl, rfl, _, _, rfl, rfl, rfl⟩ np d)⟩
    · cases e
  · -- gcd
    obtain ⟨v, u, rfl, r1, r2⟩ := rx.two
    cases r1; cases r2; cases e
    exact cr_gcd pins s σ H _ us Q I r ⟨_, _, rfl, q ρ H _ Step.refl hr rfl⟩
  · -- lcm
    obtain ⟨v, u, rfl, r1, r2⟩ := rx.two
    cases r1; cases r2
    split at e
    · rename_i c
      cases e
      obtain ⟨c1, c2⟩ := of_decide_eq_true c
      exact cr_lcm pins s σ H _ us Q I r ⟨_, _, rfl, c1, c2, q ρ H _ Step.refl hr rfl⟩
    · cases e
  · cases e
end
end Ev

set_option Elab.async false
set_option linter.all false
set_option maxRecDepth 100000
set_option maxHeartbeats 4000000
/-! Snd6: expressions, the combinators. -/
namespace Ev
open PySem PySem.Spec PyProof.Rows L2
section
variable {X : Cx} {pins : List (Addr × Obj)} {σ : L2.St} {H : L2.Hp} {s : Shared}
/-- a tracked list may be held for known -/
theorem freeze (I : L2.Inv X pins σ H s) {a : Addr} {vs : List V} (e : H a = some (.lst vs)) : ∃ o, L2.Inv X pins σ (upd H a (.frz o (.lst vs))) s := by
  obtain ⟨z, its, n, r, ho⟩ := (show ObjOk X.prog X.w H s.heap a (.lst vs) from I.hok a _ e)
  have ne : ∀ b u, H b = some u → (∀ ws, u ≠ .lst ws) → b ≠ a := fun b u q h c => by
    rw [c, e] at q
    exact h vs (Option.some.inj q).symm
  have nn : ∀ b, H b = none → b ≠ a := fun b q c => by
    rw [c, e] at q
    cases q
  refine ⟨{ cls := .type "list", data := .seq its.toArray n }, ⟨I.ok, I.os, I.bare, ⟨I.base.keep, I.base.slot, fun b o h1 h2 h3 => ?_, I.base.there, fun b xs h1 => ?_, fun b o u h1 => ?_, fun b ps h1 => ?_⟩, I.loc, I.cell, ?_, fun x c h1 => ?_, fun p hp => ?_, fun b u h1 => ?_, I.len⟩⟩
  · have q := I.base.free b o h1 h2 h3
    rw [upd_ne (nn b q)]
    exact q
  · have q := I.base.tups b xs h1
    rw [upd_ne (ne b _ q fun _ c => by cases c)]
    exact q
  · have q := I.base.frzs b o u h1
    rw [upd_ne (ne b _ q fun _ c => by cases c)]
    exact q
  · obtain ⟨more, q⟩ := I.base.tbls b ps h1
    exact ⟨more, by rw [upd_ne (ne b _ q fun _ c => by cases c)]; exact q⟩
  · rw [upd_ne (nn _ I.free)]
    exact I.free
  · rw [upd_ne (nn _ (I.freeC x c h1))]
    exact I.freeC x c h1
  · obtain ⟨p1, p2, p3⟩ := I.pin p hp
    exact ⟨p1, by rw [upd_ne (nn _ p2)]; exact p2, p3⟩
  · have st : ∀ (b : Addr) (u : HO), ObjOk X.prog X.w H s.heap b u → ObjOk X.prog X.w (upd H a (.frz { cls := .type "list", data := .seq its.toArray n } (.lst vs))) s.heap b u := fun b u x =>
      x.stay (fun _ _ _ q => q) (fun c q => by rw [upd_ne (ne c _ q fun _ c => by cases c)]; exact q) fun c xs q => by rw [upd_ne (ne c _ q fun _ c => by cases c)]; exact q
    by_cases hb : b = a
    · subst hb
      rw [upd_same] at h1
      cases h1
      exact ⟨ho, st _ _ ⟨z, its, n, r, ho⟩⟩
    · rw [upd_ne hb] at h1
      exact st _ _ (I.hok b u h1)
end

/-! ### readings by the evaluator -/
structure ERel (K : PySem.W.Frag) (ρ : List Addr) (H : L2.Hp) (env : Env) (σ : L2.St) : Prop where
  len : env.length = σ.length
  at_ : ∀ (i : Nat) (x : HV), env[i]? = some (some x) → ∃ v, σ[i]? = some (some v) ∧ RH K ρ H x v
theorem ERel.mono {K : PySem.W.Frag} {ρ ρ' : List Addr} {H H' : L2.Hp} {env : Env} {σ : L2.St} (h : ERel K ρ H env σ) (s : Step ρ H ρ' H') : ERel K ρ' H' env σ :=
  ⟨h.len, fun i x e => by obtain ⟨v, h1, h2⟩ := h.at_ i x e; exact ⟨v, h1, h2.mono s⟩⟩
def tM (K : PySem.W.Frag) (m : Env → M RV) : TE := fun σ H Q => ∃ ρ hp env x hp', HRel K ρ hp H ∧ ERel K ρ H env σ ∧ m env hp = some (x, hp') ∧ ∀ ρ' H' v, Step ρ H ρ' H' → HRel K ρ' hp' H' → RR K H ρ' H' x v → Q v H'
def tMA (K : PySem.W.Frag) (m : Env → M (List RV)) : TA := fun σ H Q => ∃ ρ hp env x hp', HRel K ρ hp H ∧ ERel K ρ H env σ ∧ m env hp = some (x, hp') ∧ ∀ ρ' H' v, Step ρ H ρ' H' → HRel K ρ' hp' H' → RRs K H ρ' H' x v → Q v H'
def tMT (K : PySem.W.Frag) (m : Env → M Bool) : TT := fun σ H Q => ∃ ρ hp env x hp', HRel K ρ hp H ∧ ERel K ρ H env σ ∧ m env hp = some (x, hp') ∧ ∀ ρ' H', Step ρ H ρ' H' → HRel K ρ' hp' H' → Q x H'
theorem PE.imp {X : Cx} {e : Expr} {t t' : TE} (h : PE X e t) (i : ∀ σ H Q, t' σ H Q → t σ H Q) : PE X e t' := ⟨fun pins s σ H Q I q => h.run pins s σ H Q I (i σ H Q q)⟩
theorem PT.imp {X : Cx} {e : Expr} {t t' : TT} (h : PT X e t) (i : ∀ σ H Q, t' σ H Q → t σ H Q) : PT X e t' := ⟨fun pins s σ H Q I q => h.run pins s σ H Q I (i σ H Q q)⟩
theorem PW.imp {X : Cx} {e : Expr} {t t' : TT} (h : PW X e t) (i : ∀ σ H Q, t' σ H Q → t σ H Q) : PW X e t' := ⟨fun wh pins s σ H Q I q => h.run wh pins s σ H Q I (i σ H Q q)⟩
theorem PA.imp {X : Cx} {es : List Expr} {t t' : TA} (h : PA X es t) (i : ∀ σ H Q, t' σ H Q → t σ H Q) : PA X es t' := ⟨fun pos pins s σ H Q I q => h.run pos pins s σ H Q I (i σ H Q q)⟩
theorem bnd_some {α β : Type} {m : M α} {f : α → M β} {h : Hp} {r : β × Hp} (e : bnd m f h = some r) : ∃ a h1, m h = some (a, h1) ∧ f a h1 = some r := by
  unfold bnd at e
  cases q : m h with
  | none => rw [q] at e; cases e
  | some p => rw [q] at e; exact ⟨p.1, p.2, rfl, e⟩
/-- not a starred one -/
def noStar : Expr → Bool
  | .Starred _ _ => false
  | _ => true
theorem starEach_cons {e : Expr} {es : List Expr} {env : PySem.Env} (h : noStar e = true) : starEach (e :: es) env = (false, eval e env) :: starEach es env := by
  cases e <;> first | rfl | cases h
theorem starEach_any {es : List Expr} {env : PySem.Env} {pos : Pos} (h : es.all noStar = true) : (backTo pos (starEach es env)).any (·.1) = false := by
  induction es with
  | nil => rfl
  | cons e es ih =>
    simp only [List.all_cons, Bool.and_eq_true] at h
    rw [starEach_cons h.1]
    show (false || (backTo pos (starEach es env)).any (·.1)) = false
    rw [ih h.2]
    rfl
section
variable {X : Cx} {e a b c : Expr} {es : List Expr} {m ma mb mc : Env → M RV} {pos : Pos} {ms : Env → M (List RV)}
theorem lift_some {α : Type} {o : Option α} {h h' : Hp} {x : α} (e : lift o h = some (x, h')) : o = some x ∧ h' = h := by
  unfold lift at e
  cases o with
  | none => cases e
  | some y => cases e; exact ⟨rfl, rfl⟩
theorem look_some {α : Type} {f : Hp → Option α} {h h' : Hp} {x : α} (e : look f h = some (x, h')) : f h = some x ∧ h' = h := by
  unfold look at e
  cases q : f h with
  | none => rw [q] at e; cases e
  | some y => rw [q] at e; cases e; exact ⟨rfl, rfl⟩
theorem chk_some {b : Bool} {h h' : Hp} {x : Unit} (e : chk b h = some (x, h')) : b = true ∧ h' = h := by
  unfold chk at e
  obtain ⟨e1, e2⟩ := lift_some e
  cases b with
  | false => cases e1
  | true => exact ⟨rfl, e2⟩
theorem c_var {i : Nat} {x : Str} (h : PE X (.Name x pos) (tVar i)) : PE X (.Name x pos) (tM X.K fun env => bnd (lift (getVar env i)) fun v => ret (.hv v)) := PE.imp h fun σ H Q q => by
  obtain ⟨ρ, hp, env, x, hp', hr, er, e, q⟩ := q
  obtain ⟨v, h1, e1, eq0⟩ := bnd_some e
  obtain ⟨ev, rfl⟩ := lift_some e1
  cases eq0
  unfold getVar at ev
  split at ev
  · rename_i v' ev'
    cases ev
    obtain ⟨w, h1, h2⟩ := er.at_ i v ev'
    exact ⟨w, h1, q ρ H w Step.refl hr h2⟩
  · cases ev
theorem c_const {v : V} {d : PyData} (h : PE X e (tC v)) (r : ∀ H, RD X.K H d v) : PE X e (tM X.K fun _ => ret (rD d)) := PE.imp h fun σ H Q q => by
  obtain ⟨ρ, hp, env, x, hp', hr, er, e, q⟩ := q
  cases e
  exact q ρ H v Step.refl hr (r H)
theorem two {σ : L2.St} {H : L2.Hp} {f : RV → RV → M RV} {Q : VK} {R : V → V → L2.Hp → Prop} (h : tM X.K (fun env => bnd (ma env) fun x => bnd (mb env) fun y => f x y) σ H Q)
    (k : ∀ H0 ρ hp x y z hp' H2 xv yv, Le H0 H2 → HRel X.K ρ hp H2 → RR X.K H0 ρ H2 x xv → RR X.K H0 ρ H2 y yv → f x y hp = some (z, hp') →
      (∀ ρ' H' v, Step ρ H2 ρ' H' → HRel X.K ρ' hp' H' → RR X.K H0 ρ' H' z v → Q v H') → R xv yv H2) : tM X.K ma σ H fun xv H1 => tM X.K mb σ H1 fun yv H2 => R xv yv H2 := by
  obtain ⟨ρ, hp, env, z, hp', hr, er, e, q⟩ := h
  obtain ⟨x, hp1, e1, eq0⟩ := bnd_some e
  obtain ⟨y, hp2, e2, eq1⟩ := bnd_some eq0
  refine ⟨ρ, hp, env, x, hp1, hr, er, e1, fun ρ1 H1 xv s1 hr1 rx => ⟨ρ1, hp1, env, y, hp2, hr1, er.mono s1, e2, fun ρ2 H2 yv s2 hr2 ry => ?_⟩⟩
  have l1 : Le H H1 := fun b hb => s1.there b hb
  exact k H ρ2 hp2 x y z hp' H2 xv yv (l1.step s2) hr2 (rx.mono s2) (RR.base l1 ry) eq1 fun ρ' H' v s3 hr3 rz => q ρ' H' v (s1.trans (s2.trans s3)) hr3 rz
theorem one {σ : L2.St} {H : L2.Hp} {f : RV → M RV} {Q : VK} {R : V → L2.Hp → Prop} (h : tM X.K (fun env => bnd (ma env) fun x => f x) σ H Q)
    (k : ∀ H0 ρ hp x z hp' H2 xv, Le H0 H2 → HRel X.K ρ hp H2 → RR X.K H0 ρ H2 x xv → f x hp = some (z, hp') →
      (∀ ρ' H' v, Step ρ H2 ρ' H' → HRel X.K ρ' hp' H' → RR X.K H0 ρ' H' z v → Q v H') → R xv H2) : tM X.K ma σ H R := by
  obtain ⟨ρ, hp, env, z, hp', hr, er, e, q⟩ := h
  obtain ⟨x, hp1, e1, eq0⟩ := bnd_some e
  exact ⟨ρ, hp, env, x, hp1, hr, er, e1, fun ρ1 H1 xv s1 hr1 rx => k H ρ1 hp1 x z hp' H1 xv (fun b hb => s1.there b hb) hr1 rx eq0 fun ρ' H' v s3 hr3 rz => q ρ' H' v (s1.trans s3) hr3 rz⟩
theorem c_bin (op : BOp) (ha : PE X a (tM X.K ma)) (hb : PE X b (tM X.K mb)) : PE X (.BinOp a op.tr b pos) (tM X.K fun env => bnd (ma env) fun x => bnd (mb env) fun y => look fun h => binV h op x y) := PE.imp (pe_op (op_binV op) ha hb) fun σ H Q q => by
  refine two q fun H0 ρ hp x y z hp' H2 xv yv le hr rx ry e q => ?_
  obtain ⟨e1, rfl⟩ := look_some e
  exact ⟨H0, ρ, _, x, y, z, le, hr, rx, ry, e1, q⟩
theorem cmp_some {op : COp} {hp hp' : Hp} {x y z : RV} (e : bnd (look fun h => cmpV h op x y) (fun r => ret (rD (.bool r))) hp = some (z, hp')) : cmpR op hp x y = some z ∧ hp' = hp := by
  obtain ⟨r, h1, e1, eq0⟩ := bnd_some e
  obtain ⟨e2, rfl⟩ := look_some e1
  cases eq0
  unfold cmpR
  rw [e2]
  exact ⟨rfl, rfl⟩
theorem c_cmp (hu : X.A.units + 200 < cLine) (op : COp) (ha : PE X a (tM X.K ma)) (hb : PE X b (tM X.K mb)) (hm : behindInMarks op.tr b = false) :
    PE X (.Compare a [op.tr] [b] pos) (tM X.K fun env => bnd (ma env) fun x => bnd (mb env) fun y => bnd (look fun h => cmpV h op x y) fun r => ret (rD (.bool r))) := PE.imp (pe_cmpR (op_cmpV hu op) ha hb hm) fun σ H Q q => by
  refine two q fun H0 ρ hp x y z hp' H2 xv yv le hr rx ry e q => ?_
  obtain ⟨e1, rfl⟩ := cmp_some e
  exact ⟨H0, ρ, _, x, y, z, le, hr, rx, ry, e1, q⟩
theorem c_ix (ha : PE X a (tM X.K ma)) (hb : PE X b (tM X.K mb)) (hs : PlainIx b) : PE X (.Subscript a b pos) (tM X.K fun env => bnd (ma env) fun x => bnd (mb env) fun y => bnd (lift (toInt y)) fun j => look fun h => ixV h x j) := PE.imp (pe_ix ix_V ha hb hs) fun σ H Q q => by
  refine two q fun H0 ρ hp x y z hp' H2 xv yv le hr rx ry e q => ?_
  obtain ⟨j, h1, e1, eq0⟩ := bnd_some e
  obtain ⟨e2, rfl⟩ := lift_some e1
  obtain ⟨e3, rfl⟩ := look_some eq0
  exact ⟨H0, ρ, _, x, y, z, le, hr, rx, ry, by unfold ixR; rw [e2]; exact e3, q⟩
theorem c_neg (ha : PE X a (tM X.K ma)) : PE X (.UnaryOp .USub a pos) (tM X.K fun env => bnd (ma env) fun x => bnd (lift (toInt x)) fun i => ret (rD (.int (-i)))) := PE.imp (pe_un un_neg ha) fun σ H Q q => by
  refine one q fun H0 ρ hp x z hp' H2 xv le hr rx e q => ?_
  obtain ⟨j, h1, e1, eq0⟩ := bnd_some e
  obtain ⟨e2, rfl⟩ := lift_some e1
  cases eq0
  rw [toInt_eq e2] at rx
  cases rx
  exact ⟨_, rfl, q ρ H2 _ Step.refl hr rfl⟩
/-! ### tests -/
/-- the bool that a test wants -/
def tb (m : Env → M RV) : Env → M Bool := fun env => bnd (m env) fun x => lift (toBool x)
theorem bool_of {K : PySem.W.Frag} {H0 H : L2.Hp} {ρ : List Addr} {x : RV} {v : V} {r : Bool} (e : toBool x = some r) (h : RR K H0 ρ H x v) : v = .bl r := by
  rw [toBool_eq e] at h
  exact h
/-- from a value's rule to the test's -/
theorem tb_tB {σ : L2.St} {H : L2.Hp} {Q : Bool → L2.Hp → Prop} (h : tMT X.K (tb m) σ H Q) : tB (tM X.K m) σ H Q := by
  obtain ⟨ρ, hp, env, x, hp', hr, er, e, q⟩ := h
  obtain ⟨v, hp1, e1, eq0⟩ := bnd_some e
  obtain ⟨e2, rfl⟩ := lift_some eq0
  exact ⟨ρ, hp, env, v, _, hr, er, e1, fun ρ1 H1 xv s1 hr1 rx => ⟨x, bool_of e2 rx, q ρ1 H1 s1 hr1⟩⟩
def plainT : Expr → Bool
  | .UnaryOp .Not _ _ => false
  | .BoolOp _ _ _ => false
  | .IfExp _ _ _ _ => false
  | .Compare _ _ _ _ => false
  | _ => true
theorem plainT_isTrue {e : Expr} {env : PySem.Env} (h : plainT e = true) : ∀ whole, isTrue e env whole = (do let v ← whole; standAt e.pos; holding [v] (truthy v)) := by
  intro whole
  cases e <;> first | rfl | cases h | skip
  rename_i op _ _
  cases op <;> first | rfl | cases h
theorem c_test (h : PE X e (tM X.K m)) (hp : plainT e = true) : PT X e (tMT X.K (tb m)) := PT.imp (pt_val h (plainT_isTrue hp)) fun _ _ _ q => tb_tB q
theorem c_testCmp (hu : X.A.units + 200 < cLine) (op : COp) (ha : PE X a (tM X.K ma)) (hb : PE X b (tM X.K mb)) (hm : behindInMarks op.tr b = false) :
    PT X (.Compare a [op.tr] [b] pos) (tMT X.K (tb fun env => bnd (ma env) fun x => bnd (mb env) fun y => bnd (look fun h => cmpV h op x y) fun r => ret (rD (.bool r)))) :=
  PT.imp (pt_cmpR (op_cmpV hu op) ha hb hm) fun σ H Q q => by
    have q' := tb_tB q
    refine two q' fun H0 ρ hp x y z hp' H2 xv yv le hr rx ry e q => ?_
    obtain ⟨e1, rfl⟩ := cmp_some e
    exact ⟨H0, ρ, _, x, y, z, le, hr, rx, ry, e1, q⟩
def chainM (op op' : COp) (ma mb mc : Env → M RV) : Env → M RV := fun env => bnd (ma env) fun x => bnd (mb env) fun y => bnd (look fun h => cmpV h op x y) fun r =>
      if r then bnd (mc env) fun z => bnd (look fun h => cmpV h op' y z) fun r' => ret (rD (.bool r')) else ret (rD (.bool false))
theorem chain_read {op op' : COp} {σ : L2.St} {H : L2.Hp} {Q : VK} (h : tM X.K (chainM op op' ma mb mc) σ H Q) : tChain (rOp2 X.K (cmpR op)) (rOp2 X.K (cmpR op')) (tM X.K ma) (tM X.K mb) (tM X.K mc) σ H Q := by
  obtain ⟨ρ, hp, env, z, hp', hr, er, e, q⟩ := h
  obtain ⟨x, hp1, e1, eq0⟩ := bnd_some e
  obtain ⟨y, hp2, e2, eq1⟩ := bnd_some eq0
  obtain ⟨r, hp3, e3, eq2⟩ := bnd_some eq1
  obtain ⟨e4, rfl⟩ := look_some e3
  refine ⟨ρ, hp, env, x, hp1, hr, er, e1, fun ρ1 H1 xv s1 hr1 rx => ⟨ρ1, hp1, env, y, _, hr1, er.mono s1, e2, fun ρ2 H2 yv s2 hr2 ry => ?_⟩⟩
  have l1 : Le H H1 := fun b hb => s1.there b hb
  have rx2 := rx.mono s2
  have ry2 := RR.base l1 ry
  refine ⟨H, ρ2, _, x, y, rD (.bool r), l1.step s2, hr2, rx2, ry2, by unfold cmpR; rw [e4], fun ρ3 H3 w s3 hr3 rw_ => ⟨r, rw_, ?_⟩⟩
  cases r with
  | true =>
    rw [if_pos rfl] at eq2 ⊢
    obtain ⟨z', hp4, e5, eq3⟩ := bnd_some eq2
    obtain ⟨e6, rfl⟩ := cmp_some eq3
    have s13 := s1.trans (s2.trans s3)
    refine ⟨ρ3, _, env, z', _, hr3, er.mono s13, e5, fun ρ4 H4 zv s4 hr4 rz => ?_⟩
    exact ⟨H, ρ4, _, y, z', z, ((l1.step s2).step s3).step s4, hr4, (ry2.mono s3).mono s4, RR.base ((l1.step s2).step s3) rz, e6, fun ρ' H' v s5 hr5 rv => q ρ' H' v (s13.trans (s4.trans s5)) hr5 rv⟩
  | false =>
    rw [if_neg Bool.false_ne_true] at eq2 ⊢
    cases eq2
    exact q ρ3 H3 _ (s1.trans (s2.trans s3)) hr3 rfl
theorem c_chain (hu : X.A.units + 200 < cLine) (op op' : COp) (ha : PE X a (tM X.K ma)) (hb : PE X b (tM X.K mb)) (hc : PE X c (tM X.K mc)) (hm : lastMarks [op.tr, op'.tr] [b, c] = false) :
    PE X (.Compare a [op.tr, op'.tr] [b, c] pos) (tM X.K (chainM op op' ma mb mc)) := PE.imp (pe_chain (op_cmpV hu op) (op_cmpV hu op') ha hb hc hm) fun σ H Q q => chain_read q
theorem c_testChain (hu : X.A.units + 200 < cLine) (op op' : COp) (ha : PE X a (tM X.K ma)) (hb : PE X b (tM X.K mb)) (hc : PE X c (tM X.K mc)) (hm : lastMarks [op.tr, op'.tr] [b, c] = false) :
    PT X (.Compare a [op.tr, op'.tr] [b, c] pos) (tMT X.K (tb (chainM op op' ma mb mc))) := PT.imp (pt_chain (op_cmpV hu op) (op_cmpV hu op') ha hb hc hm) fun σ H Q q => chain_read (tb_tB q)
/-! ### not, and, or -/
def notM (m : Env → M RV) : Env → M RV := fun env => bnd (m env) fun x => bnd (lift (toBool x)) fun b => ret (rD (.bool !b))
def andM (ma mb : Env → M RV) : Env → M RV := fun env => bnd (ma env) fun x => bnd (lift (toBool x)) fun r => if r then mb env else ret (rD (.bool false))
def orM (ma mb : Env → M RV) : Env → M RV := fun env => bnd (ma env) fun x => bnd (lift (toBool x)) fun r => if r then ret (rD (.bool true)) else mb env
def iteM (mc ma mb : Env → M RV) : Env → M RV := fun env => bnd (mc env) fun x => bnd (lift (toBool x)) fun r => if r then ma env else mb env
theorem c_not (h : PE X a (tM X.K m)) : PE X (.UnaryOp .Not a pos) (tM X.K (notM m)) := PE.imp (pe_not h) fun σ H Q q => by
  refine one q fun H0 ρ hp x z hp' H2 xv le hr rx e q => ?_
  obtain ⟨r, h1, e1, eq0⟩ := bnd_some e
  obtain ⟨e2, rfl⟩ := lift_some e1
  cases eq0
  exact ⟨r, bool_of e2 rx, q ρ H2 _ Step.refl hr rfl⟩
theorem tb_split {f : Bool → M RV} {env : Env} {hp hp' : Hp} {x : Bool} (e : bnd (bnd (m env) fun x => bnd (lift (toBool x)) f) (fun x => lift (toBool x)) hp = some (x, hp')) :
    ∃ r hp1, tb m env hp = some (r, hp1) ∧ bnd (f r) (fun x => lift (toBool x)) hp1 = some (x, hp') := by
  obtain ⟨z, hp1, e1, e2⟩ := bnd_some e
  obtain ⟨y, hp2, e3, e4⟩ := bnd_some e1
  obtain ⟨r, hp3, e5, e6⟩ := bnd_some e4
  obtain ⟨e7, rfl⟩ := lift_some e5
  refine ⟨r, hp3, ?_, ?_⟩
  · unfold tb bnd
    rw [e3]
    show lift (toBool y) _ = _
    rw [e7]
    rfl
  · unfold bnd
    rw [e6]
    exact e2
theorem c_testNot (h : PT X a (tMT X.K (tb m))) : PT X (.UnaryOp .Not a pos) (tMT X.K (tb (notM m))) := PT.imp (pt_not h) fun σ H Q q => by
  obtain ⟨ρ, hp, env, x, hp', hr, er, e, q⟩ := q
  obtain ⟨r, hp1, e1, e2⟩ := tb_split (m := m) e
  obtain ⟨z, hp2, e3, e4⟩ := bnd_some e2
  cases e3
  obtain ⟨e5, rfl⟩ := lift_some e4
  cases e5
  exact ⟨ρ, hp, env, r, _, hr, er, e1, fun ρ' H' s hr' => q ρ' H' s hr'⟩
theorem c_and {rest : List Expr} (ha : PE X a (tM X.K ma)) (hb : PE X (.BoolOp .And (b :: rest) pos) (tM X.K mb)) : PE X (.BoolOp .And (a :: b :: rest) pos) (tM X.K (andM ma mb)) := PE.imp (pe_and ha hb) fun σ H Q q => by
  obtain ⟨ρ, hp, env, z, hp', hr, er, e, q⟩ := q
  obtain ⟨x, hp1, e1, eq0⟩ := bnd_some e
  obtain ⟨r, h1, e2, eq1⟩ := bnd_some eq0
  obtain ⟨e3, rfl⟩ := lift_some e2
  refine ⟨ρ, hp, env, x, _, hr, er, e1, fun ρ1 H1 xv s1 hr1 rx => ⟨r, bool_of e3 rx, ?_⟩⟩
  cases r with
  | true =>
    rw [if_pos rfl] at eq1 ⊢
    exact ⟨ρ1, _, env, z, hp', hr1, er.mono s1, eq1, fun ρ2 H2 zv s2 hr2 rz => q ρ2 H2 zv (s1.trans s2) hr2 (RR.base (fun b hb => s1.there b hb) rz)⟩
  | false =>
    rw [if_neg Bool.false_ne_true] at eq1 ⊢
    cases eq1
    exact q ρ1 H1 _ s1 hr1 rfl
theorem c_or {rest : List Expr} (ha : PE X a (tM X.K ma)) (hb : PE X (.BoolOp .Or (b :: rest) pos) (tM X.K mb)) : PE X (.BoolOp .Or (a :: b :: rest) pos) (tM X.K (orM ma mb)) := PE.imp (pe_or ha hb) fun σ H Q q => by
  obtain ⟨ρ, hp, env, z, hp', hr, er, e, q⟩ := q
  obtain ⟨x, hp1, e1, eq0⟩ := bnd_some e
  obtain ⟨r, h1, e2, eq1⟩ := bnd_some eq0
  obtain ⟨e3, rfl⟩ := lift_some e2
  refine ⟨ρ, hp, env, x, _, hr, er, e1, fun ρ1 H1 xv s1 hr1 rx => ⟨r, bool_of e3 rx, ?_⟩⟩
  cases r with
  | true =>
    rw [if_pos rfl] at eq1 ⊢
    cases eq1
    exact q ρ1 H1 _ s1 hr1 rfl
  | false =>
    rw [if_neg Bool.false_ne_true] at eq1 ⊢
    exact ⟨ρ1, _, env, z, hp', hr1, er.mono s1, eq1, fun ρ2 H2 zv s2 hr2 rz => q ρ2 H2 zv (s1.trans s2) hr2 (RR.base (fun b hb => s1.there b hb) rz)⟩
theorem c_testAnd {rest : List Expr} (ha : PT X a (tMT X.K (tb ma))) (hb : PW X (.BoolOp .And (b :: rest) pos) (tMT X.K (tb mb))) : PW X (.BoolOp .And (a :: b :: rest) pos) (tMT X.K (tb (andM ma mb))) := PW.imp (pw_and ha hb) fun σ H Q q => by
  obtain ⟨ρ, hp, env, x, hp', hr, er, e, q⟩ := q
  obtain ⟨r, hp1, e1, e2⟩ := tb_split (m := ma) e
  refine ⟨ρ, hp, env, r, hp1, hr, er, e1, fun ρ1 H1 s1 hr1 => ?_⟩
  cases r with
  | true =>
    rw [if_pos rfl] at e2 ⊢
    exact ⟨ρ1, hp1, env, x, hp', hr1, er.mono s1, e2, fun ρ2 H2 s2 hr2 => q ρ2 H2 (s1.trans s2) hr2⟩
  | false =>
    rw [if_neg Bool.false_ne_true] at e2 ⊢
    obtain ⟨z, hp2, e3, e4⟩ := bnd_some e2
    cases e3
    obtain ⟨e5, rfl⟩ := lift_some e4
    cases e5
    exact q ρ1 H1 s1 hr1
theorem c_testOr {rest : List Expr} (ha : PT X a (tMT X.K (tb ma))) (hb : PW X (.BoolOp .Or (b :: rest) pos) (tMT X.K (tb mb))) : PW X (.BoolOp .Or (a :: b :: rest) pos) (tMT X.K (tb (orM ma mb))) := PW.imp (pw_or ha hb) fun σ H Q q => by
  obtain ⟨ρ, hp, env, x, hp', hr, er, e, q⟩ := q
  obtain ⟨r, hp1, e1, e2⟩ := tb_split (m := ma) e
  refine ⟨ρ, hp, env, r, hp1, hr, er, e1, fun ρ1 H1 s1 hr1 => ?_⟩
  cases r with
  | true =>
    rw [if_pos rfl] at e2 ⊢
    obtain ⟨z, hp2, e3, e4⟩ := bnd_some e2
    cases e3
    obtain ⟨e5, rfl⟩ := lift_some e4
    cases e5
    exact q ρ1 H1 s1 hr1
  | false =>
    rw [if_neg Bool.false_ne_true] at e2 ⊢
    exact ⟨ρ1, hp1, env, x, hp', hr1, er.mono s1, e2, fun ρ2 H2 s2 hr2 => q ρ2 H2 (s1.trans s2) hr2⟩
theorem c_ite (hc : PT X c (tMT X.K (tb mc))) (ha : PE X a (tM X.K ma)) (hb : PE X b (tM X.K mb)) : PE X (.IfExp c a b pos) (tM X.K (iteM mc ma mb)) := PE.imp (pe_ifExp hc ha hb) fun σ H Q q => by
  obtain ⟨ρ, hp, env, z, hp', hr, er, e, q⟩ := q
  obtain ⟨x, hp1, e1, eq0⟩ := bnd_some e
  obtain ⟨r, h1, e2, eq1⟩ := bnd_some eq0
  obtain ⟨e3, rfl⟩ := lift_some e2
  refine ⟨ρ, hp, env, r, _, hr, er, by unfold tb bnd; rw [e1]; show lift (toBool x) _ = _; rw [e3]; rfl, fun ρ1 H1 s1 hr1 => ?_⟩
  cases r with
  | true =>
    rw [if_pos rfl] at eq1 ⊢
    exact ⟨ρ1, _, env, z, hp', hr1, er.mono s1, eq1, fun ρ2 H2 zv s2 hr2 rz => q ρ2 H2 zv (s1.trans s2) hr2 (RR.base (fun b hb => s1.there b hb) rz)⟩
  | false =>
    rw [if_neg Bool.false_ne_true] at eq1 ⊢
    exact ⟨ρ1, _, env, z, hp', hr1, er.mono s1, eq1, fun ρ2 H2 zv s2 hr2 rz => q ρ2 H2 zv (s1.trans s2) hr2 (RR.base (fun b hb => s1.there b hb) rz)⟩
/-! ### argument lists, displays -/
theorem c_nil : PA X [] (tMA X.K fun _ => ret []) := PA.imp pa_nil fun σ H Q q => by
  obtain ⟨ρ, hp, env, z, hp', hr, er, e, q⟩ := q
  cases e
  exact q ρ H [] Step.refl hr .nil
theorem c_cons (hs : noStar e = true) (h : PE X e (tM X.K m)) (hr : PA X es (tMA X.K ms)) : PA X (e :: es) (tMA X.K fun env => bnd (m env) fun x => bnd (ms env) fun xs => ret (x :: xs)) := PA.imp (pa_cons h hr (starEach_cons hs)) fun σ H Q q => by
  obtain ⟨ρ, hp, env, z, hp', hr, er, e, q⟩ := q
  obtain ⟨x, hp1, e1, eq0⟩ := bnd_some e
  obtain ⟨xs, hp2, e2, eq1⟩ := bnd_some eq0
  cases eq1
  refine ⟨ρ, hp, env, x, hp1, hr, er, e1, fun ρ1 H1 xv s1 hr1 rx => ⟨ρ1, hp1, env, xs, _, hr1, er.mono s1, e2, fun ρ2 H2 vs s2 hr2 rxs => ?_⟩⟩
  exact q ρ2 H2 _ (s1.trans s2) hr2 (.cons (rx.mono s2) (RRs.base (fun b hb => s1.there b hb) rxs))
/-- an argument list, then something -/
theorem args {σ : L2.St} {H : L2.Hp} {f : List RV → M RV} {Q : VK} {R : List V → L2.Hp → Prop} (h : tM X.K (fun env => bnd (ms env) fun x => f x) σ H Q)
    (k : ∀ H0 ρ hp x z hp' H2 xv, Le H0 H2 → HRel X.K ρ hp H2 → RRs X.K H0 ρ H2 x xv → f x hp = some (z, hp') →
      (∀ ρ' H' v, Step ρ H2 ρ' H' → HRel X.K ρ' hp' H' → RR X.K H0 ρ' H' z v → Q v H') → R xv H2) : tMA X.K ms σ H R := by
  obtain ⟨ρ, hp, env, z, hp', hr, er, e, q⟩ := h
  obtain ⟨x, hp1, e1, eq0⟩ := bnd_some e
  exact ⟨ρ, hp, env, x, hp1, hr, er, e1, fun ρ1 H1 xv s1 hr1 rx => k H ρ1 hp1 x z hp' H1 xv (fun b hb => s1.there b hb) hr1 rx eq0 fun ρ' H' v s3 hr3 rz => q ρ' H' v (s1.trans s3) hr3 rz⟩
theorem datas_rel {K : PySem.W.Frag} {H0 H : L2.Hp} {ρ : List Addr} : ∀ {xs : List RV} {ds : List PyData} {vs : List V}, datas? xs = some ds → RRs K H0 ρ H xs vs → RDs K H ds vs
  | [], ds, vs, e, r => by cases e; cases r; rfl
  | .hv (.d x) :: r, ds, vs, e, q => by
    unfold datas? at e
    cases z : datas? r with
    | none => rw [z] at e; cases e
    | some es =>
      rw [z] at e
      cases e
      cases q with
      | cons a b => exact ⟨_, _, rfl, a, datas_rel z b⟩
  | .hv (.ref _) :: _, _, _, e, _ => by cases e
  | .hv (.scr _) :: _, _, _, e, _ => by cases e
  | .hv (.ty _) :: _, _, _, e, _ => by cases e
  | .fresh _ :: _, _, _, e, _ => by cases e
theorem hvs_rel {K : PySem.W.Frag} {H0 H : L2.Hp} {ρ : List Addr} : ∀ {xs : List RV} {ds : List HV} {vs : List V}, hvs? xs = some ds → RRs K H0 ρ H xs vs → RHs K ρ H ds vs
  | [], ds, vs, e, r => by cases e; cases r; exact .nil
  | .hv x :: r, ds, vs, e, q => by
    unfold hvs? at e
    cases z : hvs? r with
    | none => rw [z] at e; cases e
    | some es =>
      rw [z] at e
      cases e
      cases q with
      | cons a b => exact .cons a (hvs_rel z b)
  | .fresh _ :: _, _, _, e, _ => by cases e
theorem c_tup {k : Nat} (h : PA X es (tMA X.K ms)) : PE X (.Tuple es k pos) (tM X.K fun env => bnd (ms env) fun xs => bnd (lift (datas? xs)) fun ds => bnd (chk (lenOk ds.length)) fun _ => ret (rD (.tuple ds))) := PE.imp (pe_tupX h) fun σ H Q q => by
  refine args q fun H0 ρ hp x z hp' H2 xv le hr rx e q => ?_
  obtain ⟨ds, h1, e1, eq0⟩ := bnd_some e
  obtain ⟨e2, rfl⟩ := lift_some e1
  obtain ⟨u, h1, e3, eq1⟩ := bnd_some eq0
  obtain ⟨e4, rfl⟩ := chk_some e3
  cases eq1
  have rd := datas_rel e2 rx
  exact ⟨by rw [← rd.length]; exact lenOk_le e4, fun p o np d => q ρ _ _ (Step.new np) (hr.new np) (RD.tupNew rd np d)⟩
theorem c_lst (h : PA X es (tMA X.K ms)) : PE X (.List es pos) (tM X.K fun env => bnd (ms env) fun xs => bnd (lift (hvs? xs)) fun vs => bnd (chk (lenOk vs.length)) fun _ => ret (.fresh vs)) := PE.imp (pe_lst h) fun σ H Q q => by
  refine args q fun H0 ρ hp x z hp' H2 xv le hr rx e q => ?_
  obtain ⟨ds, h1, e1, eq0⟩ := bnd_some e
  obtain ⟨e2, rfl⟩ := lift_some e1
  obtain ⟨u, h1, e3, eq1⟩ := bnd_some eq0
  obtain ⟨e4, rfl⟩ := chk_some e3
  cases eq1
  have rd := hvs_rel e2 rx
  have hl : ds.length = xv.length := Paired.length rd
  exact ⟨by rw [← hl]; exact lenOk_le e4, fun p np => q ρ _ _ (Step.new np) (hr.new np) (RR.lstNew hr le rd np)⟩
/-! ### slices -/
def partM (o : Option (Env → M RV)) : Env → M (Option Int) := fun env => match o with
  | none => ret none
  | some m => bnd (m env) fun x => bnd (lift (toInt x)) fun i => ret (some i)
def tMO (K : PySem.W.Frag) (m : Env → M (Option Int)) : TO := fun σ H Q => ∃ ρ hp env x hp', HRel K ρ hp H ∧ ERel K ρ H env σ ∧ m env hp = some (x, hp') ∧ ∀ ρ' H', Step ρ H ρ' H' → HRel K ρ' hp' H' → Q x H'
theorem PO.imp {e : Option Expr} {t t' : TO} (h : PO X e t) (i : ∀ σ H Q, t' σ H Q → t σ H Q) : PO X e t' := ⟨fun pins s σ H Q I q => h.run pins s σ H Q I (i σ H Q q)⟩
theorem c_po0 : PO X none (tMO X.K fun _ => ret none) := PO.imp po_none fun σ H Q q => by
  obtain ⟨ρ, hp, env, z, hp', hr, er, e, q⟩ := q
  cases e
  exact q ρ H Step.refl hr
theorem c_po1 (h : PE X e (tM X.K m)) : PO X (some e) (tMO X.K fun env => bnd (m env) fun x => bnd (lift (toInt x)) fun i => ret (some i)) := PO.imp (po_some h) fun σ H Q q => by
  obtain ⟨ρ, hp, env, z, hp', hr, er, e, q⟩ := q
  obtain ⟨x, hp1, e1, eq0⟩ := bnd_some e
  obtain ⟨i, h1, e2, eq1⟩ := bnd_some eq0
  obtain ⟨e3, rfl⟩ := lift_some e2
  cases eq1
  refine ⟨ρ, hp, env, x, _, hr, er, e1, fun ρ1 H1 xv s1 hr1 rx => ?_⟩
  rw [toInt_eq e3] at rx
  exact ⟨i, rx, q ρ1 H1 s1 hr1⟩
theorem c_sl {lo hi : Option Expr} {ml mh : Env → M (Option Int)} {p2 : Pos} (ha : PE X a (tM X.K ma)) (hl : PO X lo (tMO X.K ml)) (hh : PO X hi (tMO X.K mh)) :
    PE X (.Subscript a (.Slice lo hi none p2) pos) (tM X.K fun env => bnd (ma env) fun x => bnd (ml env) fun l => bnd (mh env) fun u => look fun h => slV h x l u) := PE.imp (pe_slice sl_V ha hl hh) fun σ H Q q => by
  obtain ⟨ρ, hp, env, z, hp', hr, er, e, q⟩ := q
  obtain ⟨x, hp1, e1, eq0⟩ := bnd_some e
  obtain ⟨l, hp2, e2, eq1⟩ := bnd_some eq0
  obtain ⟨u, hp3, e3, eq2⟩ := bnd_some eq1
  obtain ⟨e4, rfl⟩ := look_some eq2
  refine ⟨ρ, hp, env, x, hp1, hr, er, e1, fun ρ1 H1 xv s1 hr1 rx => ⟨ρ1, hp1, env, l, hp2, hr1, er.mono s1, e2, fun ρ2 H2 s2 hr2 => ⟨ρ2, hp2, env, u, _, hr2, er.mono (s1.trans s2), e3, fun ρ3 H3 s3 hr3 => ?_⟩⟩⟩
  have s13 := s1.trans (s2.trans s3)
  exact ⟨H, ρ3, _, x, z, fun b hb => s13.there b hb, hr3, (rx.mono s2).mono s3, e4, fun ρ' H' v s4 hr4 rv => q ρ' H' v (s13.trans s4) hr4 rv⟩
theorem HRel.set {K : PySem.W.Frag} {ρ : List Addr} {H H' : L2.Hp} {hp : Hp} {n : Nat} {a : Addr} {o : Ob} (hr : HRel K ρ hp H) (ha : ρ[n]? = some a) (st : Step ρ H ρ H') (e : ∀ b, b ≠ a → H' b = H b) (ro : RO K ρ H' o a) : HRel K ρ (hp.set n o) H' := by
  refine ⟨by rw [List.length_set]; exact hr.len, hr.nd, fun k o' b h1 h2 => ?_⟩
  by_cases hk : k = n
  · subst hk
    rw [ha] at h2
    cases h2
    have hl : k < hp.length := by rw [← hr.len]; exact (List.getElem?_eq_some_iff.mp ha).1
    rw [List.getElem?_set_self hl] at h1
    cases h1
    exact ro
  · rw [List.getElem?_set_ne (Ne.symm hk)] at h1
    have hb : b ≠ a := fun z => by
      subst z
      obtain ⟨l1, e1⟩ := List.getElem?_eq_some_iff.mp ha
      obtain ⟨l2, e2⟩ := List.getElem?_eq_some_iff.mp h2
      exact hk ((List.getElem_inj hr.nd).mp (e2.trans e1.symm))
    exact RO.mono st (e b hb) (hr.ob k o' b h1 h2)
/-- an object of the evaluator is written -/
theorem Step.write {ρ : List Addr} {H : L2.Hp} {a : Addr} {o u : HO} (ha : a ∈ ρ) (e : H a = some o) (ni : ¬ Imm o) : Step ρ H ρ (upd H a u) := by
  refine ⟨⟨[], by simp, by simp⟩, fun b w q hb => ?_, fun b w q hi => ?_, fun b hb => ?_⟩
  · rw [upd_ne fun z => hb (by rw [z]; exact ha)]; exact q
  · rw [upd_ne fun z => by rw [z, e] at q; cases q; exact ni hi]; exact q
  · by_cases hb2 : b = a
    · rw [hb2, upd_same]; simp
    · rw [upd_ne hb2]; exact hb
/-- one expression, the rest from the very start -/
theorem one' {σ : L2.St} {H : L2.Hp} {f : RV → M RV} {Q : VK} {R : V → L2.Hp → Prop} (h : tM X.K (fun env => bnd (ma env) fun x => f x) σ H Q)
    (k : ∀ ρ0 ρ hp x z hp' H2 xv, Step ρ0 H ρ H2 → HRel X.K ρ hp H2 → RR X.K H ρ H2 x xv → f x hp = some (z, hp') →
      (∀ ρ' H' v, Step ρ0 H ρ' H' → HRel X.K ρ' hp' H' → RR X.K H ρ' H' z v → Q v H') → R xv H2) : tM X.K ma σ H R := by
  obtain ⟨ρ, hp, env, z, hp', hr, er, e, q⟩ := h
  obtain ⟨x, hp1, e1, eq0⟩ := bnd_some e
  exact ⟨ρ, hp, env, x, hp1, hr, er, e1, fun ρ1 H1 xv s1 hr1 rx => k ρ ρ1 hp1 x z hp' H1 xv s1 hr1 rx eq0 q⟩
/-- what may be known of a state from now on -/
def Ghost (X : Cx) (H : L2.Hp) (R : L2.Hp → Prop) : Prop := ∀ (pins : List (Addr × Obj)) (σ : L2.St) (s : Shared), L2.Inv X pins σ H s → ∃ H', L2.Inv X pins σ H' s ∧ R H'
theorem frz_read {σ : L2.St} {H : L2.Hp} {Q : VK} (q : tM X.K (fun env => bnd (ma env) frzV) σ H Q) : tM X.K ma σ H fun xv H2 => Ghost X H2 fun H3 => Q xv H3 := by
  refine one' q fun ρ0 ρ hp x z hp' H2 xv s1 hr rx e q => ?_
  intro pins σ s I2
  unfold frzV at e
  split at e
  · -- just made
    rename_i xs
    split at e
    · rename_i ds ed
      cases e
      obtain ⟨a, vs, rfl, n0, na, ea, rv⟩ := rx
      rw [allData_eq ed] at rv
      obtain ⟨o, I3⟩ := freeze I2 ea
      have nb : ∀ b, H b ≠ none → b ≠ a := fun b hb z => hb (by rw [z]; exact n0)
      have imm2 : ∀ b u, H2 b = some u → Imm u → (upd H2 a (.frz o (.lst vs))) b = some u := fun b u q hi => by
        rw [upd_ne fun z => by rw [z, ea] at q; cases q; exact hi]; exact q
      have st : Step ρ0 H ρ (upd H2 a (.frz o (.lst vs))) := by
        refine ⟨s1.pre, fun b u q hb => ?_, fun b u q hi => ?_, fun b hb => ?_⟩
        · rw [upd_ne (nb b (by rw [q]; simp))]; exact s1.keep b u q hb
        · rw [upd_ne (nb b (by rw [q]; simp))]; exact s1.imm b u q hi
        · rw [upd_ne (nb b hb)]; exact s1.there b hb
      have hr3 : HRel X.K ρ hp (upd H2 a (.frz o (.lst vs))) := by
        refine ⟨hr.len, hr.nd, fun n o' b h1 h2 => ?_⟩
        have hb : b ≠ a := fun z => na (by rw [← z]; exact List.mem_of_getElem? h2)
        have ro := hr.ob n o' b h1 h2
        have im : ∀ {ds : List PyData} {ws : List V}, RDs X.K H2 ds ws → RDs X.K (upd H2 a (.frz o (.lst vs))) ds ws := fun {ds ws} h => RDs.mono imm2 ds ws h
        cases o' with
        | lst xs =>
          obtain ⟨ws, h3, h4⟩ := ro
          refine ⟨ws, by rw [upd_ne hb]; exact h3, Paired.mapP h4 fun x v hx => ?_⟩
          cases x with
          | d x => exact RD.mono imm2 x v hx
          | scr ns =>
            obtain ⟨b, h1, h2⟩ := hx
            exact ⟨b, h1, h2.mono imm2⟩
          | _ => exact hx
        | frz ds =>
          obtain ⟨o2, ws, h3, h4⟩ := ro
          exact ⟨o2, ws, by rw [upd_ne hb]; exact h3, im h4⟩
        | dic _ => exact ro
      exact ⟨_, I3, q ρ _ _ st hr3 ⟨a, vs, rfl, ⟨o, upd_same⟩, RDs.mono imm2 _ _ rv.rds⟩⟩
    · cases e
  · -- a mutable list
    rename_i n
    obtain ⟨a, hn, rfl⟩ := rx
    split at e
    · rename_i xs ex
      split at e
      · rename_i ds ed
        cases e
        obtain ⟨vs, ea, rv⟩ := hr.ob n _ a ex hn
        rw [allData_eq ed] at rv
        obtain ⟨o, I3⟩ := freeze I2 ea
        have hm : a ∈ ρ := List.mem_of_getElem? hn
        have st : Step ρ H2 ρ (upd H2 a (.frz o (.lst vs))) := Step.write hm ea (fun z => z)
        have rd := RDs.mono st.imm _ _ rv.rds
        exact ⟨_, I3, q ρ _ _ (s1.trans st) (hr.set hn st (fun b hb => upd_ne hb) ⟨o, vs, upd_same, rd⟩) ⟨a, vs, rfl, ⟨o, upd_same⟩, rd⟩⟩
      · cases e
    · rename_i ds ed
      cases e
      obtain ⟨o, vs, ea, rv⟩ := hr.ob n _ a ed hn
      exact ⟨_, I2, q ρ H2 _ s1 hr ⟨a, vs, rfl, ⟨o, ea⟩, rv⟩⟩
    · cases e
  · cases e
    exact ⟨_, I2, q ρ H2 _ s1 hr rx⟩
theorem c_frz (ha : PE X e (tM X.K ma)) : PE X e (tM X.K fun env => bnd (ma env) frzV) := by
  refine ⟨fun pins s σ H Q I q => thn (ha.run pins s σ H _ I (frz_read q)) fun u s1 ⟨xv, H2, I2, ru, g⟩ => ?_⟩
  obtain ⟨H3, I3, q3⟩ := g pins σ s1 I2
  exact ⟨xv, H3, I3, ru, q3⟩
theorem new_read {σ : L2.St} {H : L2.Hp} {Q : VK} (q : tM X.K (fun env => bnd (ma env) newV) σ H Q) : tM X.K ma σ H Q := by
  refine one' q fun ρ0 ρ hp x z hp' H2 xv s1 hr rx e q => ?_
  unfold newV at e
  split at e
  · rename_i xs
    cases e
    obtain ⟨a, vs, rfl, n0, na, ea, rv⟩ := rx
    obtain ⟨new, e1, f1⟩ := s1.pre
    have st : Step ρ0 H (ρ ++ [a]) H2 := ⟨⟨new ++ [a], by rw [e1, List.append_assoc], fun b hb => by
      rcases List.mem_append.mp hb with hb | hb
      · exact f1 b hb
      · rw [List.mem_singleton.mp hb]; exact n0⟩, s1.keep, s1.imm, s1.there⟩
    have mono : ∀ {x : HV} {v : V}, RH X.K ρ H2 x v → RH X.K (ρ ++ [a]) H2 x v := fun {x v} h => by
      cases x with
      | d x => exact h
      | ref n =>
        obtain ⟨b, h1, h2⟩ := h
        exact ⟨b, by rw [List.getElem?_append_left (List.getElem?_eq_some_iff.mp h1).1]; exact h1, h2⟩
      | scr x => exact h
      | ty n => exact h
    have get : (ρ ++ [a])[hp.length]? = some a := by rw [← hr.len]; simp
    refine q _ _ _ st ⟨by simp [hr.len], ?_, fun n o b h1 h2 => ?_⟩ ⟨a, get, rfl⟩
    · refine List.nodup_append.mpr ⟨hr.nd, by simp, fun x hx y hy => ?_⟩
      rw [List.mem_singleton.mp hy]
      exact fun z => na (by rw [← z]; exact hx)
    · by_cases hn : n < hp.length
      · rw [List.getElem?_append_left hn] at h1
        rw [List.getElem?_append_left (by rw [hr.len]; exact hn)] at h2
        have ro := hr.ob n o b h1 h2
        cases o with
        | lst ys =>
          obtain ⟨ws, h3, h4⟩ := ro
          exact ⟨ws, h3, Paired.mapP h4 fun _ _ h => mono h⟩
        | frz ds => exact ro
        | dic _ => exact ro
      · have hn2 : n = hp.length := by
          have := (List.getElem?_eq_some_iff.mp h1).1
          simp at this
          omega
        subst hn2
        rw [get] at h2
        cases h2
        simp at h1
        subst h1
        exact ⟨vs, ea, Paired.mapP rv fun _ _ h => mono h⟩
  · cases e
    exact q ρ H2 _ s1 hr rx
theorem c_new (ha : PE X e (tM X.K ma)) : PE X e (tM X.K fun env => bnd (ma env) newV) := PE.imp ha fun σ H Q q => new_read q
end
end Ev

set_option Elab.async false
set_option linter.all false
set_option maxRecDepth 100000
set_option maxHeartbeats 4000000
/-! Snd7: built-ins and methods as expressions. -/
namespace Ev
open PySem PySem.Spec PyProof.Rows L2
section
variable {X : Cx} {e o : Expr} {es : List Expr} {m : Env → M RV} {ms : Env → M (List RV)} {pos p apos : Pos} {x : Str}
/-- the reading of a call by values -/
theorem call_read {f : Hp → List RV → Option RV} {σ : L2.St} {H : L2.Hp} {Q : VK} (q : tM X.K (fun env => bnd (ms env) fun vs => look fun h => f h vs) σ H Q) : tCB (rCall X.K f) (tMA X.K ms) σ H Q := by
  refine args q fun H0 ρ hp xs z hp' H2 xv le hr rx e k => ?_
  obtain ⟨e1, rfl⟩ := look_some e
  exact ⟨H0, ρ, hp', xs, z, le, hr, rx, e1, k⟩
theorem hst_of {e : Expr} {es : List Expr} {env : PySem.Env} (h : noStar e = true) : starEach (e :: es) env = (false, eval e env) :: starEach es env := starEach_cons h
/-- f(..), f a built-in function -/
theorem c_bif {f : Hp → List RV → Option RV} {id : String} (hc : CallR X (.builtin id) (rCall X.K f)) (hg : Gl X x) (hm : X.mg x = none) (hv : bootBuiltins x = some (.builtin id)) (hn : x ≠ "__name__") (hd : (x == ("__debug__" : Str)) = false)
    (h1 : noStar e = true) (h2 : es.all noStar = true) (ha : PA X (e :: es) (tMA X.K ms)) : PE X (.Call (.Name x p) (e :: es) [] pos) (tM X.K fun env => bnd (ms env) fun vs => look fun h => f h vs) :=
  PE.imp (pe_callB hc hg hm hv ha hn hd (hst_of h1) (starEach_any h2)) fun _ _ _ q => call_read q
theorem c_bit {f : Hp → List RV → Option RV} {id : String} (hc : CallR X (.type id) (rCall X.K f)) (hg : Gl X x) (hm : X.mg x = none) (hv : bootBuiltins x = some (.type id)) (hn : x ≠ "__name__") (hd : (x == ("__debug__" : Str)) = false)
    (h1 : noStar e = true) (h2 : es.all noStar = true) (ha : PA X (e :: es) (tMA X.K ms)) : PE X (.Call (.Name x p) (e :: es) [] pos) (tM X.K fun env => bnd (ms env) fun vs => look fun h => f h vs) :=
  PE.imp (pe_callTy hc hg hm hv ha hn hd (hst_of h1) (starEach_any h2)) fun _ _ _ q => call_read q
theorem c_big {f : Hp → List RV → Option RV} {id : String} (hc : CallR X (.builtin id) (rCall X.K f)) (hg : Gl X x) (hm : X.mg x = some (.builtin id)) (hd : (x == ("__debug__" : Str)) = false)
    (h1 : noStar e = true) (h2 : es.all noStar = true) (ha : PA X (e :: es) (tMA X.K ms)) : PE X (.Call (.Name x p) (e :: es) [] pos) (tM X.K fun env => bnd (ms env) fun vs => look fun h => f h vs) :=
  PE.imp (pe_callBfun hc hg hm ha hd (hst_of h1) (starEach_any h2)) fun _ _ _ q => call_read q

/-! ### isinstance -/
theorem isi_ty {K : PySem.W.Frag} {ρ : List Addr} {H H0 : L2.Hp} {hp : Hp} (hr : HRel K ρ hp H) {x : RV} {v : V} {t : String} (r : RR K H0 ρ H x v) (e : tyOf hp x = some t) : TyX K H v (.type t) := by
  cases x with
  | hv x =>
    cases x with
    | d d =>
      cases d with
      | none => cases e; cases r; exact .base .non
      | bool b => cases e; cases r; exact .base (.bl b)
      | int i => cases e; cases r; exact .base (.int i)
      | str y => cases e; cases r; exact .base (.str y)
      | tuple ds =>
        cases e
        obtain ⟨a, vs, rfl, h1, _⟩ := r
        rcases h1 with ⟨o, h1, _⟩ | ⟨o, its, n, h1, h2, _⟩
        · exact .fTuple h1
        · exact .kTuple h1 h2
      | list ds =>
        cases e
        obtain ⟨a, vs, rfl, ⟨o, h1⟩, _⟩ := r
        exact .base (.frz h1)
      | dict kvs => cases e
    | ref n =>
      obtain ⟨a, h1, rfl⟩ := r
      simp only [tyOf] at e
      cases q : hp[n]? with
      | none => rw [q] at e; cases e
      | some o =>
        have ro := hr.ob n o a q h1
        rw [q] at e
        cases o with
        | lst ys =>
          cases e
          obtain ⟨vs, e1, _⟩ := ro
          exact .base (.lst e1)
        | frz ds =>
          cases e
          obtain ⟨o, vs, e1, _⟩ := ro
          exact .base (.frz e1)
        | dic _ => cases e
    | scr _ => cases e
    | ty _ => cases e
  | fresh xs =>
    cases e
    obtain ⟨a, vs, rfl, _, _, ea, _⟩ := r
    exact .base (.lst ea)
/-- the types that isinstance may ask for -/
def isiTys : List String := ["bool", "int", "str", "list", "tuple", "dict"]
def valTys : List String := ["NoneType", "bool", "int", "str", "list", "tuple"]
theorem kit_all : ∀ t ∈ valTys, ∀ c ∈ isiTys, kitB t c = some (subTy t c) := by decide +kernel
theorem tyOf_mem {hp : Hp} {x : RV} {t : String} (e : tyOf hp x = some t) : t ∈ valTys := by
  unfold tyOf at e
  split at e <;> first | (cases e; decide) | skip
  · split at e <;> cases e <;> decide
  · cases e
theorem kit_any {K : PySem.W.Frag} {t : String} (h : t ∈ valTys) : ∀ {cs : List String}, (∀ c ∈ cs, c ∈ isiTys) → PySem.W.kitAny K (.type t) (cs.map Value.type) = some (cs.any fun c => subTy t c)
  | [], _ => rfl
  | c :: cs, hc => by
    have h1 : PySem.W.kitOne K (.type t) (.type c) = some (subTy t c) := kit_all t h c (hc c List.mem_cons_self)
    refine kitAny_cons h1 (fun z => ?_) fun z => ?_
    · rw [List.any_cons, z, Bool.false_or]
      exact kit_any h fun c hc' => hc c (List.mem_cons_of_mem _ hc')
    · rw [List.any_cons, z, Bool.true_or]
def isiM (m : Env → M RV) (ts : List String) : Env → M RV := fun env => bnd (m env) fun x => bnd (look fun h => isiV h x ts) fun r => ret (rD (.bool r))
theorem isi_read {ts : List String} {σ : L2.St} {H : L2.Hp} {Q : VK} {R : V → L2.Hp → Prop} (q : tM X.K (isiM m ts) σ H Q)
    (k : ∀ xv t H2, TyX X.K H2 xv (.type t) → t ∈ valTys → (∀ H3, (∀ b o, H2 b = some o → H3 b = some o) → (∃ p, ∀ b, b ≠ p → H3 b = H2 b) → Q (.bl (ts.any fun c => subTy t c)) H3) → R xv H2) : tM X.K m σ H R := by
  refine one q fun H0 ρ hp x z hp' H2 xv le hr rx e q => ?_
  obtain ⟨r, hp1, e1, e2⟩ := bnd_some e
  obtain ⟨e3, rfl⟩ := look_some e1
  cases e2
  unfold isiV at e3
  split at e3
  · rename_i t et
    cases e3
    refine k xv t H2 (isi_ty hr rx et) (tyOf_mem et) fun H3 k3 ⟨p, kp⟩ => ?_
    refine q ρ H3 _ ⟨⟨[], by simp, by simp⟩, fun b o h _ => k3 b o h, fun b o h _ => k3 b o h, fun b h => ?_⟩ (hr.mono ⟨⟨[], by simp, by simp⟩, fun b o h _ => k3 b o h, fun b o h _ => k3 b o h, fun b h => ?_⟩ fun a ha => ?_) rfl
    · cases w : H2 b with
      | none => exact absurd w h
      | some o => rw [k3 b o w]; simp
    · cases w : H2 b with
      | none => exact absurd w h
      | some o => rw [k3 b o w]; simp
    · cases w : H2 a with
      | none => exact absurd w (hr.tracked ha)
      | some o => exact k3 a o w
  · cases e3
/-- isinstance(x, T) -/
theorem c_isi1 {c : String} {cx : Str} {px : Pos} (hg : Gl X "isinstance") (hm : X.mg "isinstance" = none) (hg2 : Gl X cx) (hm2 : X.mg cx = none) (hb : bootBuiltins cx = some (.type c)) (hn : cx ≠ "__name__") (hd : (cx == ("__debug__" : Str)) = false)
    (hc : c ∈ isiTys) (h1 : noStar e = true) (he : PE X e (tM X.K m)) : PE X (.Call (.Name "isinstance" p) [e, .Name cx px] [] pos) (tM X.K (isiM m [c])) := by
  refine PE.imp (pe_callB call_isi hg hm (by decide +kernel) (pa_cons he (pa_cons (pe_bltn hg2 hm2 hb (show RelV (.ty c) (.type c) from rfl) hn hd) pa_nil rfl) (hst_of h1)) (by decide) (by decide) (hst_of h1) (starEach_any rfl)) fun σ H Q q => ?_
  refine isi_read q fun xv t H2 ty ht k => ?_
  refine ⟨xv, .ty c, .type t, .type c, subTy t c, rfl, .ty c, ty, kit_all t ht c hc, ?_⟩
  have := k H2 (fun _ _ h => h) ⟨0, fun _ _ => rfl⟩
  simpa using this
/-- the classes' names, each a built-in type -/
def isiNames (X : Cx) : List String → List Expr → Prop
  | [], [] => True
  | c :: cs, .Name x _ :: es => (Gl X x ∧ X.mg x = none ∧ bootBuiltins x = some (.type c) ∧ x ≠ "__name__" ∧ (x == ("__debug__" : Str)) = false) ∧ isiNames X cs es
  | _, _ => False
theorem pa_types : ∀ {cs : List String} {es : List Expr}, isiNames X cs es → PA X es (fun _ H Q => Q (cs.map V.ty) H)
  | [], [], _ => pa_nil
  | c :: cs, .Name x _ :: es, h => by
    obtain ⟨⟨g, m, b, n, d⟩, h⟩ := h
    exact PA.imp (pa_cons (pe_bltn g m b (show RelV (.ty c) (.type c) from rfl) n d) (pa_types h) rfl) fun σ H Q q => q
theorem clsV_all : ∀ cs : List String, Paired ClsV (cs.map V.ty) (cs.map Value.type)
  | [] => .nil
  | c :: cs => .cons (.ty c) (clsV_all cs)
/-- isinstance(x, (T, U, ..)) -/
theorem c_isiT {cs : List String} {ts : List Expr} {k : Nat} {px : Pos} (hg : Gl X "isinstance") (hm : X.mg "isinstance" = none) (hts : isiNames X cs ts) (hc : ∀ c ∈ cs, c ∈ isiTys) (hl : cs.length ≤ 100) (h1 : noStar e = true) (he : PE X e (tM X.K m)) :
    PE X (.Call (.Name "isinstance" p) [e, .Tuple ts k px] [] pos) (tM X.K (isiM m cs)) := by
  refine PE.imp (pe_callB call_isiT hg hm (by decide +kernel) (pa_cons he (pa_cons (pe_tup (pa_types hts)) pa_nil rfl) (hst_of h1)) (by decide) (by decide) (hst_of h1) (starEach_any rfl)) fun σ H Q q => ?_
  refine isi_read q fun xv t H2 ty ht k => ?_
  refine ⟨by rw [List.length_map, sizeLine_eq]; omega, fun p np => ?_⟩
  have kp : ∀ b o, H2 b = some o → (upd H2 p (.tup (cs.map V.ty))) b = some o := fun b o h => by rw [upd_ne (ne_of_none h np)]; exact h
  have ty' : TyX X.K (upd H2 p (.tup (cs.map V.ty))) xv (.type t) := by
    generalize hty : Value.type t = tv at ty
    cases ty with
    | base b =>
      cases b with
      | non => exact .base .non
      | bl y => exact .base (.bl y)
      | int i => exact .base (.int i)
      | str y => exact .base (.str y)
      | flt y => exact .base (.flt y)
      | lst ea => exact .base (.lst (kp _ _ ea))
      | frz ea => exact .base (.frz (kp _ _ ea))
      | tup ea => exact .base (.tup (kp _ _ ea))
      | dK ea => exact .base (.dK (kp _ _ ea))
      | dT ea => exact .base (.dT (kp _ _ ea))
      | ins ea cl ha hn htk hm => exact .base (.ins (kp _ _ ea) cl ha hn htk hm)
    | byt y => exact .byt y
    | set ea => exact .set (kp _ _ ea)
    | kList e c => exact .kList e c
    | kTuple e c => exact .kTuple e c
    | kDict e c => exact .kDict e c
    | fTuple ea => exact .fTuple (kp _ _ ea)
    | fDict ea => exact .fDict (kp _ _ ea)
  exact ⟨xv, p, cs.map V.ty, .type t, cs.map Value.type, _, rfl, upd_same, clsV_all cs, ty', kit_any ht hc, k _ kp ⟨p, fun b hb => upd_ne hb⟩⟩
end
end Ev

set_option Elab.async false
set_option linter.all false
set_option maxRecDepth 100000
set_option maxHeartbeats 4000000
/-! Snd8: methods; len(set(..)); list(range(..)). -/
namespace Ev
open PySem PySem.Spec PyProof.Rows L2
def Mt.nm : Mt → Str
  | .append => "append"
  | .extend => "extend"
  | .pop0 => "pop"
  | .pop1 => "pop"
  | .insert => "insert"
  | .index => "index"
  | .count => "count"
  | .remove => "remove"
def Mt.id : Mt → Bool → String
  | .append, _ => "list.append"
  | .extend, _ => "list.extend"
  | .pop0, _ => "list.pop"
  | .pop1, _ => "list.pop"
  | .insert, _ => "list.insert"
  | .index, false => "list.index"
  | .index, true => "tuple.index"
  | .count, false => "list.count"
  | .count, true => "tuple.count"
  | .remove, _ => "list.remove"
def isTupV : RV → Bool
  | .hv (.d (.tuple _)) => true
  | _ => false
/-- how a method is found -/
def MFind (m : Mt) (t : Bool) : Prop := PlainAttrs (if t then "tuple" else "list") ∧ Slot (if t then "tuple" else "list") m.nm (m.id t) ∧ typeOf (.builtin (m.id t)) = pure (.type "method_descriptor")
theorem mfind_l (m : Mt) : MFind m false := by
  refine ⟨F.plainAttrs_list, ?_⟩
  cases m
  · exact ⟨F.slot_list_append, F.type_list_append⟩
  · exact ⟨F.slot_list_extend, F.type_list_extend⟩
  · exact ⟨F.slot_list_pop, F.type_list_pop⟩
  · exact ⟨F.slot_list_pop, F.type_list_pop⟩
  · exact ⟨F.slot_list_insert, F.type_list_insert⟩
  · exact ⟨F.slot_list_index, F.type_list_index⟩
  · exact ⟨F.slot_list_count, F.type_list_count⟩
  · exact ⟨F.slot_list_remove, F.type_list_remove⟩
theorem mfind_t : MFind .index true ∧ MFind .count true :=
  ⟨⟨F.plainAttrs_tuple, F.slot_tuple_index, F.type_tuple_index⟩, ⟨F.plainAttrs_tuple, F.slot_tuple_count, F.type_tuple_count⟩⟩
theorem mtV_tup {m : Mt} {ds : List PyData} {vs : List RV} {h : Hp} {r : RV × Hp} (e : mtV m (.hv (.d (.tuple ds))) vs h = some r) : m = .index ∨ m = .count := by
  cases m <;> first | exact .inl rfl | exact .inr rfl | cases e
theorem mtV_seq {m : Mt} {x : RV} {vs : List RV} {h : Hp} {z : RV × Hp} (e : mtV m x vs h = some z) : ∃ xs, getSeq h x = some xs := by
  have ref : ∀ {n : Nat} {xs : List HV}, h[n]? = some (.lst xs) → ∃ ys, getSeq h (.hv (.ref n)) = some ys := fun {n xs} q => ⟨xs, by simp only [getSeq, getLst, q]⟩
  unfold mtV at e
  split at e
  · split at e
    · rename_i q; exact ref q
    · cases e
  · split at e
    · rename_i q _; exact ref q
    · cases e
  · split at e
    · rename_i q; exact ref q
    · cases e
  · split at e
    · rename_i q; exact ref q
    · cases e
  · split at e
    · rename_i q; exact ref q
    · cases e
  · split at e
    · rename_i q; exact ⟨_, q⟩
    · cases e
  · split at e
    · rename_i q _; exact ⟨_, q⟩
    · cases e
  · cases e
section
variable {X : Cx}
/-- what the receiver is -/
theorem recv {pins : List (Addr × Obj)} {s : Shared} {σ : L2.St} {H H0 : L2.Hp} {ρ : List Addr} {hp : Hp} {x : RV} {v : V} {u : Value} (I : L2.Inv X pins σ H s) (hr : HRel X.K ρ hp H) (r : RR X.K H0 ρ H x v) (ru : RelV v u)
    {m : Mt} {vs : List RV} {h' : Hp} {z : RV × Hp} (e : mtV m x vs h' = some z) : MFind m (isTupV x) ∧ s.TypeIs u (if isTupV x then "tuple" else "list") ∧ ∀ a, u = .ref a → ∃ ob, s.heap.get? a = some ob ∧ ob.dict = none := by
  have lst : ∀ {a : Addr} {ws : List V}, v = .ref a → SqL X.K H a ws → s.TypeIs u "list" ∧ ∀ a, u = .ref a → ∃ ob, s.heap.get? a = some ob ∧ ob.dict = none := fun {a ws} ev hs => by
    subst ev
    cases ru
    obtain ⟨its, _, pl, _⟩ := I.list hs
    refine ⟨pl.isList.typeIs, fun b eb => ?_⟩
    cases eb
    obtain ⟨o, n, h1, _, h3, _⟩ := pl
    exact ⟨o, h1, h3⟩
  obtain ⟨sq, esq⟩ := mtV_seq e
  cases x with
  | hv x =>
    cases x with
    | d d =>
      cases d with
      | tuple ds =>
        obtain ⟨a, ws, rfl, ht, _⟩ := r
        refine ⟨?_, ?_⟩
        · rcases mtV_tup e with rfl | rfl
          · exact mfind_t.1
          · exact mfind_t.2
        · cases ru
          obtain ⟨its, _, pl, _⟩ := I.tuple ht.sq
          refine ⟨pl.typeIs, fun b eb => ?_⟩
          cases eb
          rcases ht with ⟨o, h1, h2⟩ | ⟨o, its, n, h1, _, h2, _⟩
          · exact ⟨o, (I.hok a _ h1).1, h2⟩
          · exact ⟨o, I.kIn a o h1, h2⟩
      | list ds =>
        obtain ⟨a, ws, ev, hf, _⟩ := r
        exact ⟨mfind_l m, lst ev hf.sq⟩
      | none => cases esq
      | bool b => cases esq
      | int b => cases esq
      | str b => cases esq
      | dict b => exact r.elim
    | ref n =>
      obtain ⟨a, h1, ev⟩ := r
      refine ⟨mfind_l m, ?_⟩
      have hn : n < hp.length := by rw [← hr.len]; exact (List.getElem?_eq_some_iff.mp h1).1
      have ro := hr.ob n hp[n] a (List.getElem?_eq_getElem hn) h1
      cases q : hp[n] with
      | lst xs =>
        rw [q] at ro
        obtain ⟨ws, e1, _⟩ := ro
        exact lst ev (.inl (.inl e1))
      | frz xs =>
        rw [q] at ro
        obtain ⟨o, ws, e1, _⟩ := ro
        exact lst ev (.inl (.inr ⟨o, e1⟩))
      | dic kvs =>
        rw [q] at ro
        exact ro.elim
    | scr f => cases esq
    | ty n => cases esq
  | fresh xs =>
    obtain ⟨a, ws, ev, _, _, ea, _⟩ := r
    exact ⟨mfind_l m, lst ev (.inl (.inl ea))⟩
theorem blt_size {n : Nat} (h : Nat.blt n 16777216 = true) : n < sizeLine := by
  have := Nat.le_of_ble_eq_true h
  rw [sizeLine_eq]
  exact this
/-- a list of the evaluator is written -/
theorem wr {K : PySem.W.Frag} {ρ : List Addr} {H : L2.Hp} {hp : Hp} {n : Nat} {xs ys : List HV} (hr : HRel K ρ hp H) (h : hp[n]? = some (.lst xs)) {a : Addr} (ha : ρ[n]? = some a) {ws us : List V} (ea : H a = some (.lst ws)) (r : RHs K ρ H ys us) :
    Step ρ H ρ (upd H a (.lst us)) ∧ HRel K ρ (hp.set n (.lst ys)) (upd H a (.lst us)) := by
  have st : Step ρ H ρ (upd H a (.lst us)) := Step.write (List.mem_of_getElem? ha) ea (fun z => z)
  exact ⟨st, hr.set ha st (fun b hb => upd_ne hb) ⟨us, upd_same, r.mono st⟩⟩
theorem mt_run (hu : X.A.units + 200 < cLine) (m : Mt) (hm : m ≠ .remove) (pins : List (Addr × Obj)) (s : Shared) (σ : L2.St) (H H0 : L2.Hp) (ρ : List Addr) (hp hp' : Hp) (x z : RV) (ys : List RV) (v : V) (vs : List V) (u : Value) (us : List Value) (Q : VK) (I : L2.Inv X pins σ H s)
    (ru : RelV v u) (rus : Vals vs us) (le : Le H0 H) (hr : HRel X.K ρ hp H) (r : RR X.K H0 ρ H x v) (rs : RRs X.K H0 ρ H ys vs) (e : mtV m x ys hp = some (z, hp')) (q : ∀ ρ' H' w, Step ρ H ρ' H' → HRel X.K ρ' hp' H' → RR X.K H0 ρ' H' z w → Q w H') :
    wpAny (model X.prog X.w) X.A (call (.builtin (m.id (isTupV x))) (u :: us)) (EP X pins σ Q) X.xe s := by
  unfold mtV at e
  split at e
  · -- append
    rename_i n y
    split at e
    · rename_i xs ex
      split at e
      · rename_i c
        cases e
        obtain ⟨w, rfl, r1⟩ := rs.one
        obtain ⟨a, h1, rfl⟩ := r
        obtain ⟨ws, ea, ra⟩ := hr.ob n _ a ex h1
        have hl : xs.length = ws.length := Paired.length ra
        obtain ⟨st, hr2⟩ := wr hr ex h1 ea (Paired.app ra (.cons r1 .nil))
        exact mt_append pins s σ H _ _ u us Q I ru rus ⟨a, ws, w, rfl, rfl, ea, by rw [← hl]; exact blt_size c, q ρ _ _ st hr2 rfl⟩
      · cases e
    · cases e
  · -- extend
    rename_i n y
    split at e
    · rename_i xs zs ex ez
      split at e
      · rename_i c
        cases e
        obtain ⟨w, rfl, r1⟩ := rs.one
        obtain ⟨a, h1, rfl⟩ := r
        obtain ⟨ws, ea, ra⟩ := hr.ob n _ a ex h1
        obtain ⟨b, bs, rfl, hb, rb⟩ := getLst_rel hr r1 ez
        have c' := lenOk_le c
        rw [show xs.length = ws.length from Paired.length ra, show zs.length = bs.length from Paired.length rb] at c'
        obtain ⟨st, hr2⟩ := wr hr ex h1 ea (Paired.app ra rb)
        cases ru
        obtain ⟨w2, rfl, rw2⟩ := L2.Vals.one rus
        cases rw2
        obtain ⟨_, l1, n1, v1, g1⟩ := rdL I (Rd.of ea)
        obtain ⟨_, l2, n2, v2, g2⟩ := rdL I hb
        have len1 := v1.length
        have len2 := v2.length
        have sz : l1.toArray.size + l2.toArray.size ≤ sizeLine := by simp only [List.size_toArray]; omega
        have nl : ¬ (!l1.toArray.isEmpty && Builtin.List.listTooLong (l1.toArray.size + l2.toArray.size)) = true := by
          rw [notLongL sz, Bool.and_false]; simp

        show wpAny _ _ (call (.builtin "list.extend") [.ref a, .ref b]) _ _ _
        refine call_meets F.slot_list_extend ⟨_, g1, rfl⟩ F.entry_list_extend (F.args_list_extend_2 _ _) (AutoSeq1.list_extend_list_list_0 a l1.toArray n1 b l2.toArray n2 nl (by simp only [List.size_toArray]; omega) (by omega)) ⟨g1, g2, ?_⟩
        exact ⟨.non, _, I.lset (its' := l1 ++ l2) ea g1 (by simp) (v1.append v2) (by rw [List.length_append]; omega), rfl, q ρ _ _ st hr2 rfl⟩
      · cases e
    · cases e
  · -- pop
    rename_i n
    split at e
    · rename_i xs ex
      split at e
      · rename_i y ey
        cases e
        cases rs
        obtain ⟨a, h1, rfl⟩ := r
        obtain ⟨ws, ea, ra⟩ := hr.ob n _ a ex h1
        have hl : xs.length = ws.length := Paired.length ra
        obtain ⟨w, ew, rw2⟩ := Paired.get' ra ey
        have ra2 : RHs X.K ρ H xs.dropLast ws.dropLast := by
          rw [List.dropLast_eq_take, List.dropLast_eq_take, hl]
          exact Paired.take' _ ra
        obtain ⟨st, hr2⟩ := wr hr ex h1 ea ra2
        exact mt_pop pins s σ H _ _ u us Q I ru rus ⟨a, ws, w, rfl, rfl, ea, by rw [← hl]; exact ew, q ρ _ _ st hr2 (rw2.mono st)⟩
      · cases e
    · cases e
  · -- pop at a place
    rename_i n i
    split at e
    · rename_i xs ex
      split at e
      · rename_i k ek
        split at e
        · rename_i y ey
          cases e
          obtain ⟨w, rfl, r1⟩ := rs.one
          cases r1
          obtain ⟨a, h1, rfl⟩ := r
          obtain ⟨ws, ea, ra⟩ := hr.ob n _ a ex h1
          have hl : xs.length = ws.length := Paired.length ra
          obtain ⟨w, ew, rw2⟩ := Paired.get' ra ey
          have ra2 : RHs X.K ρ H (xs.eraseIdx k) (ws.eraseIdx k) := by
            rw [List.eraseIdx_eq_take_drop_succ, List.eraseIdx_eq_take_drop_succ]
            exact Paired.app (Paired.take' _ ra) (Paired.drop' _ ra)
          obtain ⟨st, hr2⟩ := wr hr ex h1 ea ra2
          rw [place_eq] at ek
          obtain ⟨k1, k2, k3, k4⟩ := ixN_seq ek
          have hz := (I.lstM ea).1
          rw [sizeLine_eq] at hz
          exact mt_popAt pins s σ H _ _ u us Q I ru rus ⟨a, ws, i, k, w, rfl, rfl, ea, by omega, by omega, by rw [← hl]; exact k1, ew, q ρ _ _ st hr2 (rw2.mono st)⟩
        · cases e
      · cases e
    · cases e
  · -- insert
    rename_i n i y
    split at e
    · rename_i xs ex
      split at e
      · rename_i c
        cases e
        obtain ⟨c1, c2⟩ := Bool.and_eq_true_iff.mp c
        obtain ⟨c3, c4⟩ := of_decide_eq_true c1
        obtain ⟨w1, w2, rfl, r1, r2⟩ := rs.two
        cases r1
        obtain ⟨a, h1, rfl⟩ := r
        obtain ⟨ws, ea, ra⟩ := hr.ob n _ a ex h1
        have hl : xs.length = ws.length := Paired.length ra
        have ra2 : RHs X.K ρ H (xs.take i.toNat ++ y :: xs.drop i.toNat) (ws.take i.toNat ++ [w2] ++ ws.drop i.toNat) := by
          rw [List.append_assoc]
          exact Paired.app (Paired.take' _ ra) (.cons r2 (Paired.drop' _ ra))
        obtain ⟨st, hr2⟩ := wr hr ex h1 ea ra2
        have hz := blt_size c2
        rw [sizeLine_eq] at hz
        exact mt_insert pins s σ H _ _ u us Q I ru rus ⟨a, ws, i, w2, rfl, rfl, ea, by rw [← hl]; exact blt_size c2, c3, by omega, q ρ _ _ st hr2 rfl⟩
      · cases e
    · cases e
  · -- index
    rename_i k
    split at e
    · rename_i xs ex
      split at e
      · rename_i ns en
        split at e
        · rename_i c
          cases e
          obtain ⟨w, rfl, r1⟩ := rs.one
          cases r1
          obtain ⟨u2, rfl, ru2⟩ := L2.Vals.one rus
          obtain ⟨t, rfl⟩ := ru2
          have fin : ∀ t, EP X pins σ Q (.int (ns.idxOf k : Nat) t) { s with toks := s.toks + 1 } := fun t => ⟨.int (ns.idxOf k : Nat), H, I.tok _, ⟨_, rfl⟩, q ρ H _ Step.refl hr rfl⟩
          cases hx : isTupV x with
          | true =>
            unfold isTupV at hx
            split at hx
            · rename_i ds
              obtain ⟨a, ws, rfl, ht, rd⟩ := r
              cases ex
              have ew := ints_eq en (RDs.rhs (ρ := ρ) rd)
              subst ew
              cases ru
              obtain ⟨its, rv, pl, _⟩ := I.tuple ht.sq
              exact SeqAt.tuple_index_ints pl rv.ints c (fin _)
            · cases hx
          | false =>
            obtain ⟨a, ws, rfl, ha, rd⟩ := getLst_rel hr r (show getLst hp x = some xs by
              rw [← ex]
              unfold getSeq
              split
              · cases hx
              · rfl)
            have ew := ints_eq en rd
            subst ew
            cases ru
            obtain ⟨its, rv, pl, hz⟩ := I.list (.inl ha)
            rw [List.length_map] at hz
            exact SeqAt.list_index_ints pl.isList rv.ints hz c (fin _)
        · cases e
      · cases e
    · cases e
  · -- count
    rename_i y
    split at e
    · rename_i xs d ex ed
      split at e
      · rename_i ds eds
        split at e
        · rename_i c
          cases e
          obtain ⟨c1, c2⟩ := Bool.and_eq_true_iff.mp c
          obtain ⟨p1, p2⟩ := shaped_list c1
          have p3 := PyData.plain_of_canLay0 _ (SeqAt.canLay_of_shaped c2)
          have p4 : X.A.units + 1 + min (PyData.depthAll ds) d.depth < cLine := by
            have := Nat.min_le_left (PyData.depthAll ds) d.depth
            omega
          obtain ⟨w, rfl, r1⟩ := rs.one
          obtain ⟨u2, rfl, ru2⟩ := L2.Vals.one rus
          obtain ⟨as, rd2⟩ := Dp.reads I d w u2 (getDat_rel hr r1 ed) ru2
          have fin : ∀ t, EP X pins σ Q (.int ((ds.countP fun z => PyData.eqv z d : Nat) : Int) t) { s with toks := s.toks + 1 } := fun t => ⟨.int _, H, I.tok _, ⟨_, rfl⟩, q ρ H _ Step.refl hr rfl⟩
          have key : ∀ {a : Addr} {ws : List V} {its : List Value}, RDs X.K H ds ws → Vals ws its → ∃ bs, ReadsAll s.heap its ds bs := fun {a ws its} rd rv => Dp.readsAll I ds ws its rd.dp rv
          cases hx : isTupV x with
          | true =>
            unfold isTupV at hx
            split at hx
            · rename_i ds2
              obtain ⟨a, ws, rfl, ht, rd⟩ := r
              cases ex
              have rd3 := RDs.rhs (ρ := ρ) rd
              rw [allData_eq eds] at rd3
              cases ru
              obtain ⟨its, rv, pl, _⟩ := I.tuple ht.sq
              obtain ⟨bs, rds⟩ := key (a := a) rd3.rds rv
              exact SeqAt.count_tuple_data pl (by simpa using rds) rd2 p1 p3 p4 (fin _)
            · cases hx
          | false =>
            obtain ⟨a, ws, rfl, ha, rd⟩ := getLst_rel hr r (show getLst hp x = some xs by
              rw [← ex]
              unfold getSeq
              split
              · cases hx
              · rfl)
            rw [allData_eq eds] at rd
            cases ru
            obtain ⟨its, rv, pl, hz⟩ := I.list (.inl ha)
            obtain ⟨bs, rds⟩ := key (a := a) rd.rds rv
            exact SeqAt.count_list_data pl.isList (by simpa using rds) rd2 p1 p3 p4 (fin _)
        · cases e
      · cases e
    · cases e
  · cases e
variable {e o : Expr} {es : List Expr} {m : Env → M RV} {ms : Env → M (List RV)} {pos p apos : Pos}
def okBase : Expr → Bool
  | .Name _ _ => true
  | .Subscript _ _ _ => true
  | _ => false
theorem base_of {o : Expr} {nm : Str} {env : PySem.Env} (h : okBase o = true) : attributeBase o nm env (eval o env) = eval o env := by
  cases o <;> first | rfl | cases h
theorem few_of {es : List Expr} {env : PySem.Env} {pos : Pos} (h : es.all noStar = true) (hl : es.length < 30) : ((backTo pos (starEach es env)).all (fun x => !x.1) && (backToKw pos (keywordEach [] env)).all (fun x => x.1.isSome)
      && decide (es.length + ([] : List Keyword).length + (if ([] : List Keyword).isEmpty then 0 else 1) < 30)) = true := by
  have h1 : (backTo pos (starEach es env)).all (fun x => !x.1) = true := by
    induction es with
    | nil => rfl
    | cons e es ih =>
      simp only [List.all_cons, Bool.and_eq_true] at h
      rw [starEach_cons h.1]
      exact ih h.2 (Nat.lt_of_succ_lt hl)
  rw [h1]
  simp only [Bool.true_and, Bool.and_eq_true, decide_eq_true_eq]
  exact ⟨rfl, by simpa using hl⟩
def mthM (mt : Mt) (m : Env → M RV) (ms : Env → M (List RV)) : Env → M RV := fun env => bnd (m env) fun x => bnd (ms env) fun vs => mtV mt x vs
/-- o.m(e, ..) -/
theorem c_mth (hu : X.A.units + 200 < cLine) (mt : Mt) (hm : mt ≠ .remove) (hb : okBase o = true) (hline : (apos.endLine == pos.line) = true) (h1 : noStar e = true) (hs : es.all noStar = true) (hl : (e :: es).length < 30) (ho : PE X o (tM X.K m)) (ha : PA X (e :: es) (tMA X.K ms)) :
    PE X (.Call (.Attribute o mt.nm apos) (e :: es) [] pos) (tM X.K (mthM mt m ms)) := by
  refine ⟨fun pins s σ H Q I q => ?_⟩
  obtain ⟨ρ, hp, env, z, hp', hr, er, e, q⟩ := q
  obtain ⟨x, hp1, e1, eq0⟩ := bnd_some e
  obtain ⟨xs, hp2, e2, eq1⟩ := bnd_some eq0
  refine wpAny_Call_method_late (base_of hb) (few_of (by simp only [List.all_cons, h1, hs, Bool.and_self]) hl) hline rfl (thn (ho.run pins s σ H (fun xv H1 => ∃ ρ1, Step ρ H ρ1 H1 ∧ HRel X.K ρ1 hp1 H1 ∧ RR X.K H ρ1 H1 x xv) I ⟨ρ, hp, env, x, hp1, hr, er, e1, fun ρ1 H1 xv s1 hr1 rx => ⟨ρ1, s1, hr1, rx⟩⟩) fun v s1 ⟨xv, H1, I1, r1, ρ1, st1, hr1, rx⟩ => ?_)
  obtain ⟨⟨pa, slot, hty⟩, ti, nd⟩ := recv I1 hr1 rx r1 eq1
  refine ⟨_, _, pa, slot, hty, ti, nd, ?_⟩
  have hA := ha.run pos pins s1 σ H1 (fun vs H2 => ∃ ρ2, Step ρ1 H1 ρ2 H2 ∧ HRel X.K ρ2 hp2 H2 ∧ RRs X.K H1 ρ2 H2 xs vs) I1 ⟨ρ1, hp1, env, xs, hp2, hr1, er.mono st1, e2, fun ρ2 H2 vs st2 hr2 rxs => ⟨ρ2, st2, hr2, rxs⟩⟩
  rw [hst_of h1] at hA ⊢
  refine Calls.callWith_builtin (by show (false || (backTo pos (starEach es X.env)).any (·.1)) = false; rw [starEach_any hs] <;> rfl) (Calls.evalArgs_plain ?_)
  refine thn hA fun us s2 ⟨vs, H2, I2, r2, ρ2, st2, hr2, rxs⟩ => ?_
  have l1 : Le H H1 := fun b hb => st1.there b hb
  exact mt_run hu mt hm pins s2 σ H2 H ρ2 hp2 hp' x z xs xv vs v us Q I2 r1 r2 (l1.step st2) hr2 (rx.mono st2) (RRs.base l1 rxs) eq1 fun ρ' H' w st3 hr3 rz => q ρ' H' w (st1.trans (st2.trans st3)) hr3 rz
/-- o.m() -/
theorem c_mth0 (hu : X.A.units + 200 < cLine) (mt : Mt) (hm : mt ≠ .remove) (hb : okBase o = true) (hline : (apos.endLine == pos.line) = true) (ho : PE X o (tM X.K m)) :
    PE X (.Call (.Attribute o mt.nm apos) [] [] pos) (tM X.K (mthM mt m fun _ => ret [])) := by
  refine ⟨fun pins s σ H Q I q => ?_⟩
  obtain ⟨ρ, hp, env, z, hp', hr, er, e, q⟩ := q
  obtain ⟨x, hp1, e1, eq0⟩ := bnd_some e
  obtain ⟨xs, hp2, e2, eq1⟩ := bnd_some eq0
  cases e2
  refine wpAny_Call_method0_late (base_of hb) hline (thn (ho.run pins s σ H (fun xv H1 => ∃ ρ1, Step ρ H ρ1 H1 ∧ HRel X.K ρ1 hp1 H1 ∧ RR X.K H ρ1 H1 x xv) I ⟨ρ, hp, env, x, hp1, hr, er, e1, fun ρ1 H1 xv s1 hr1 rx => ⟨ρ1, s1, hr1, rx⟩⟩) fun v s1 ⟨xv, H1, I1, r1, ρ1, st1, hr1, rx⟩ => ?_)
  obtain ⟨⟨pa, slot, hty⟩, ti, nd⟩ := recv I1 hr1 rx r1 eq1
  refine ⟨_, _, pa, slot, hty, ti, nd, Calls.callWith_builtin rfl (PySem.evalArgs_none ?_)⟩
  exact mt_run hu mt hm pins s1 σ H1 H ρ1 hp1 hp' x z [] xv [] v [] Q I1 r1 .nil (fun b hb => st1.there b hb) hr1 rx .nil eq1 fun ρ' H' w st3 hr3 rz => q ρ' H' w (st1.trans st3) hr3 rz

/-! ### list(range(n)), tuple(range(n)) -/
def lrM (tup : Bool) (m : Env → M RV) : Env → M RV := fun env => bnd (m env) fun x => bnd (lift (toInt x)) fun n => bnd (chk (decide (-16777216 ≤ n ∧ n ≤ 16777216))) fun _ =>
      ret (if tup then rD (.tuple ((List.range n.toNat).map fun (i : Nat) => .int i)) else .fresh (rangeL 0 n.toNat))
theorem rg_data {K : PySem.W.Frag} {H : L2.Hp} : ∀ (l : List Nat), RDs K H (l.map fun (i : Nat) => .int i) (l.map fun (i : Nat) => V.int (0 + (i : Int)))
  | [] => rfl
  | i :: r => ⟨V.int (0 + (i : Int)), _, rfl, show V.int (0 + (i : Int)) = V.int (i : Int) by rw [Int.zero_add], rg_data r⟩
theorem rg_hv {K : PySem.W.Frag} {ρ : List Addr} {H : L2.Hp} (lo : Int) : ∀ (l : List Nat), RHs K ρ H (l.map fun (i : Nat) => .d (.int (lo + i))) (l.map fun (i : Nat) => V.int (lo + (i : Int)))
  | [] => .nil
  | i :: r => .cons rfl (rg_hv lo r)
theorem c_listRange {tup : Bool} {pr posr pos2 : Pos} (hc : X.calm = true) (hg : Gl X (if tup then "tuple" else "list")) (hm : X.mg (if tup then "tuple" else "list") = none) (hg2 : Gl X "range") (hm2 : X.mg "range" = none) (hs : noStar e = true) (he : PE X e (tM X.K m)) :
    PE X (.Call (.Name (if tup then "tuple" else "list") p) [.Call (.Name "range" pr) [e] [] posr] [] pos) (tM X.K (lrM tup m)) := by
  have rg := prg_1 (p := pr) (pos := posr) hg2 hm2 he (hst_of hs)
  have rd : ∀ {σ : L2.St} {H : L2.Hp} {Q : VK}, tM X.K (lrM tup m) σ H Q → tM X.K m σ H fun xv H1 => ∃ n : Int, xv = .int n ∧ RgOk 0 n ∧ ∃ H0 ρ hp, Le H0 H1 ∧ HRel X.K ρ hp H1 ∧
      ∀ ρ' H' v, Step ρ H1 ρ' H' → HRel X.K ρ' hp H' → RR X.K H0 ρ' H' (if tup then rD (.tuple ((List.range n.toNat).map fun (i : Nat) => .int i)) else .fresh (rangeL 0 n.toNat)) v → Q v H' := fun {σ H Q} q => by
    refine one q fun H0 ρ hp x z hp' H2 xv le hr rx e q => ?_
    obtain ⟨n, h1, e1, eq0⟩ := bnd_some e
    obtain ⟨e2, rfl⟩ := lift_some e1
    obtain ⟨u, h1, e3, eq1⟩ := bnd_some eq0
    obtain ⟨e4, rfl⟩ := chk_some e3
    cases eq1
    rw [toInt_eq e2] at rx
    obtain ⟨c1, c2⟩ := of_decide_eq_true e4
    exact ⟨n, rx, ⟨by omega, by omega, by omega, by omega, by omega⟩, H0, ρ, _, le, hr, q⟩
  cases tup with
  | true =>
    refine PE.imp (pe_tupRgX hc hg hm rg rfl) fun σ H Q q => ?_
    have q1 := rd q
    obtain ⟨ρ, hp, env, x, hp', hr, er, e, q1⟩ := q1
    refine ⟨ρ, hp, env, x, hp', hr, er, e, fun ρ1 H1 xv s1 hr1 rx => ?_⟩
    obtain ⟨n, ev, ok, H0, ρ2, hp2, le, hr2, k⟩ := q1 ρ1 H1 xv s1 hr1 rx
    refine ⟨n, ev, ok, fun p o np d => k ρ2 _ _ (Step.new np) (hr2.new np) (RD.tupNew ?_ np d)⟩
    have := rg_data (K := X.K) (H := H1) (List.range n.toNat)
    unfold rgV
    rw [Int.sub_zero]
    exact this
  | false =>
    refine PE.imp (pe_listRg hc hg hm rg rfl) fun σ H Q q => ?_
    have q1 := rd q
    obtain ⟨ρ, hp, env, x, hp', hr, er, e, q1⟩ := q1
    refine ⟨ρ, hp, env, x, hp', hr, er, e, fun ρ1 H1 xv s1 hr1 rx => ?_⟩
    obtain ⟨n, ev, ok, H0, ρ2, hp2, le, hr2, k⟩ := q1 ρ1 H1 xv s1 hr1 rx
    refine ⟨n, ev, ok, fun p np => k ρ2 _ _ (Step.new np) (hr2.new np) (RR.lstNew hr2 le ?_ np)⟩
    unfold rgV rangeL
    rw [Int.sub_zero]
    exact rg_hv 0 _

/-! ### len(set(..)) of few ints -/
theorem mem_nodupI {x : Int} : ∀ {l : List Int}, x ∈ nodupI l ↔ x ∈ l
  | [] => Iff.rfl
  | y :: r => by
    unfold nodupI
    by_cases h : r.contains y = true
    · rw [if_pos h, mem_nodupI, List.mem_cons]
      refine ⟨.inr, fun z => z.elim (fun z => ?_) id⟩
      rw [z]
      simpa using h
    · rw [if_neg h, List.mem_cons, List.mem_cons, mem_nodupI]
theorem nodup_nodupI : ∀ l : List Int, (nodupI l).Nodup
  | [] => List.nodup_nil
  | y :: r => by
    unfold nodupI
    by_cases h : r.contains y = true
    · rw [if_pos h]
      exact nodup_nodupI r
    · rw [if_neg h]
      exact List.nodup_cons.mpr ⟨fun z => h (by simpa using mem_nodupI.mp z), nodup_nodupI r⟩
theorem nodupI_le : ∀ l : List Int, (nodupI l).length ≤ l.length
  | [] => Nat.le_refl _
  | y :: r => by
    unfold nodupI
    have := nodupI_le r
    by_cases h : r.contains y = true
    · rw [if_pos h, List.length_cons]
      omega
    · rw [if_neg h, List.length_cons, List.length_cons]
      omega
theorem len_nodupI {l k : List Int} (hk : k.Nodup) (h : ∀ x, x ∈ k ↔ x ∈ l) : k.length = (nodupI l).length :=
  ((List.perm_ext_iff_of_nodup hk (nodup_nodupI l)).mpr fun x => by rw [h, mem_nodupI]).length_eq
theorem firstMet_set (f : Nat → Int) : ∀ i, (firstMet f i).Nodup ∧ ∀ x, x ∈ firstMet f i ↔ ∃ j, j < i ∧ f j = x
  | 0 => ⟨List.nodup_nil, fun x => ⟨nofun, fun ⟨j, h, _⟩ => absurd h (Nat.not_lt_zero _)⟩⟩
  | i + 1 => by
    obtain ⟨nd, mm⟩ := firstMet_set f i
    rw [firstMet_succ]
    unfold step_dedup
    have grow : ∀ x, (∃ j, j < i + 1 ∧ f j = x) ↔ (x ∈ firstMet f i ∨ x = f i) := fun x => by
      rw [mm]
      constructor
      · rintro ⟨j, hj, rfl⟩
        rcases Nat.lt_succ_iff_lt_or_eq.mp hj with h | h
        · exact .inl ⟨j, h, rfl⟩
        · exact .inr (by rw [h])
      · rintro (⟨j, hj, rfl⟩ | rfl)
        · exact ⟨j, Nat.lt_succ_of_lt hj, rfl⟩
        · exact ⟨i, Nat.lt_succ_self i, rfl⟩
    by_cases h : ((firstMet f i).any fun x => x == f i) = true
    · rw [if_pos h]
      refine ⟨nd, fun x => ?_⟩
      rw [grow]
      refine ⟨.inl, fun z => z.elim id fun z => ?_⟩
      obtain ⟨y, hy, e⟩ := List.any_eq_true.mp h
      rw [z, ← eq_of_beq e]
      exact hy
    · rw [if_neg h]
      have out : f i ∉ firstMet f i := fun z => h (List.any_eq_true.mpr ⟨_, z, beq_self_eq_true _⟩)
      refine ⟨List.nodup_append.mpr ⟨nd, by simp, fun a ha b hb => ?_⟩, fun x => ?_⟩
      · rw [List.mem_singleton.mp hb]
        exact fun z => out (by rw [← z]; exact ha)
      · rw [grow, List.mem_append, List.mem_singleton]
theorem c_lenSet {p2 q2 : Pos} (hc : X.calm = true) (hg : Gl X "len") (hm : X.mg "len" = none) (hg2 : Gl X "set") (hm2 : X.mg "set" = none) (hs : noStar e = true) (he : PE X e (tM X.K m)) :
    PE X (.Call (.Name "len" p) [.Call (.Name "set" p2) [e] [] q2] [] pos) (tM X.K fun env => bnd (bnd (m env) fun x => bnd (ret []) fun xs => ret (x :: xs)) fun vs => look fun h => biV h .lenSet vs) := by
  refine ⟨fun pins s σ H Q I q => ?_⟩
  have q1 : tM X.K (fun env => bnd (m env) fun x => look fun h => biV h .lenSet [x]) σ H Q := by
    obtain ⟨ρ, hp, env, z, hp', hr, er, e, q⟩ := q
    refine ⟨ρ, hp, env, z, hp', hr, er, ?_, q⟩
    rw [← e]
    show bnd (m env) (fun x => look fun h => biV h .lenSet [x]) hp = bnd (bnd (m env) fun x => bnd (ret []) fun xs => ret (x :: xs)) (fun vs => look fun h => biV h .lenSet vs) hp
    simp only [bnd]
    cases m env hp <;> rfl
  have k := one q1 (R := fun xv H2 => ∃ ns : List Int, ∃ a, xv = .ref a ∧ (Rd H2 a (.lst (ns.map V.int)) ∨ SqT X.K H2 a (ns.map V.int)) ∧ ns.length < 20 ∧ Q (.int ((nodupI ns).length : Nat)) H2) fun H0 ρ hp x z hp' H2 xv le hr rx e q => by
    obtain ⟨e1, rfl⟩ := look_some e
    simp only [biV] at e1
    split at e1
    · rename_i xs ex
      split at e1
      · rename_i ns en
        split at e1
        · rename_i c
          cases e1
          obtain ⟨a, ws, rfl, ha, ra⟩ := getSeq_rel' hr rx ex
          have ew := ints_eq en ra
          subst ew
          exact ⟨ns, a, rfl, ha, Nat.le_of_ble_eq_true c, q ρ H2 _ Step.refl hr rfl⟩
        · cases e1
      · cases e1
    · cases e1
  have na : starEach [e] X.env = (false, eval e X.env) :: starEach [] X.env := hst_of hs
  refine Call_ (ld_blt I hg hm boot_len (callWith_builtin1 (args_cons ?_ rfl) rfl rfl))
  refine Call_ (ld_blt I hg2 hm2 boot_set (callWith_type1 (args_cons (thn (he.run pins s σ H _ I k) fun v s1 ⟨x, H1, I1, r1, ns, a, ex, ha, hl, q1⟩ => args_nil ?_) na) na rfl))
  subst ex
  cases r1
  rcases ha with ha | ha
  · obtain ⟨its, r, pl, hz⟩ := I1.list (.inl ha)
    have hlen : its.toArray.size = ns.length := by rw [List.size_toArray, ← r.length, List.length_map]
    refine call_set_list (I1.ok.hd hc) pl.isList (by simpa using r.ints) (by rw [hlen]; unfold scanBound; omega) fun h' tk hS hk => args_nil ?_
    obtain ⟨fn, fm⟩ := firstMet_set (fun i => ns.getD i 0) its.toArray.size
    rw [len_nodupI (l := ns) fn (fun x => by
      rw [fm, hlen]
      constructor
      · rintro ⟨j, hj, rfl⟩
        rw [List.getD_eq_getElem?_getD, List.getElem?_eq_getElem hj]
        exact List.getElem_mem hj
      · intro hx
        obtain ⟨j, hj, e⟩ := List.mem_iff_getElem.mp hx
        exact ⟨j, hj, by rw [List.getD_eq_getElem?_getD, List.getElem?_eq_getElem hj]; exact e⟩)] at hS
    obtain ⟨o, ss, ep, t, ho, hex, hd, _, _, _, hf, hn⟩ := hS
    have I2 : Inv X pins σ H1 { s1 with heap := h', toks := tk } := I1.kept fun b o e => hk b o (Heap.lt_size e) e
    have hl2 : (nodupI ns).length < 20 := by
      rw [← len_nodupI (l := ns) (nodup_nodupI ns) fun _ => mem_nodupI]
      exact Nat.lt_of_le_of_lt (nodupI_le ns) hl
    exact call_len_set ho hex hd hf (by rw [hn]; omega) ⟨.int _, H1, I2.tok _, ⟨_, by rw [hn]⟩, q1⟩
  · obtain ⟨its, r, pl, hz⟩ := I1.tuple ha
    have hb : ns.length + 1 < scanBound := by unfold scanBound; omega
    refine call_set_tupI ns (I1.ok.hd hc) (show s1.heap.IsTuple a its.toArray from pl) (by simpa using r.ints) hb fun h' tk c hS hc2 hk => args_nil ?_
    obtain ⟨o, ss, ep, t, ho, hex, hd, _, nd, mm, _, hf, hn, _⟩ := hS
    have ec : c = (nodupI ns).length := by
      rw [← hn, ← Array.length_toList, ← List.length_map]
      exact len_nodupI nd fun x => by rw [← mm, decide_eq_true_eq]
    have I2 : Inv X pins σ H1 { s1 with heap := h', toks := tk } := I1.kept hk
    exact call_len_set ho hex hd hf (by rw [hn]; omega) ⟨.int _, H1, I2.tok _, ⟨_, by rw [hn, ec]⟩, q1⟩
end
end Ev

set_option Elab.async false
set_option linter.all false
set_option maxRecDepth 100000
set_option maxHeartbeats 4000000
/-! Snd9: defs, their promise by the evaluator; calls. -/
namespace Ev
open PySem PySem.Spec PyProof.Rows L2
abbrev SpG := List V → L2.Hp → VK → Prop
abbrev noX : CXT := fun _ _ _ _ _ _ => False
abbrev noE : XK := fun _ _ _ => False
/-- a def keeps its promise, called where nothing is being shown -/
structure FnG (P : Program) (w : World) (K : PySem.W.Frag) (mg : Str → Option Value) (base : Heap) (k : Nat) (f : Addr) (fd : FuncData) (ps : List Str) (sp : SpG) : Prop where
  len : ∀ vs H Q, sp vs H Q → vs.length = ps.length
  run : ∀ (A : Around) (outer : List PySem.Env) (s : Shared) (H : L2.Hp) (as : Args) (us : List Value) (vs : List V) (Q : VK), Room k A → A.guards = some [] → Env0 P w K mg base A outer s H → BindsTo s fd as (ps.zip us) → Vals vs us → sp vs H Q →
    codeAny (model P w) A (.call (.ref f) as) (CR noX outer P w H s Q noE) s
section
variable {P : Program} {w : World} {K : PySem.W.Frag} {mg : Str → Option Value} {base : Heap} {x qual : Str} {params : Arguments} {body : List Stmt} {scope : Scope} {dvs : List V} {kws : List (Str × V)} {f : Addr} {fd : FuncData}
theorem fng_of {N ps : List Str} {k : Nat} {sp : SpG} (F : FunD K x qual params body scope dvs kws f fd) (S : FnScope N ps scope) (len : ∀ vs H Q, sp vs H Q → vs.length = ps.length)
    (hb : ∀ (cdv : Value) (A : Around) (outer : List PySem.Env) (s : Shared) (H : L2.Hp) (vs : List V) (Q : VK), Room k (A.deeper (envOfC qual scope s.heap.objs.size f cdv)) → A.guards = some [] → sp vs H Q →
      ∃ t, PSs (cxOf noX P w K mg base N qual scope f cdv A outer s H noE).nox body t ∧ t { nx := fun _ G => Q .non G, rt := Q } (L2.start N vs) H) : FnG P w K mg base (k + 1) f fd ps sp := by
  obtain ⟨oc, od, dV, kV, doc, pm, an, cdv, ct, osl, rfl, lk, hcd, _, _⟩ := F.ex
  refine ⟨len, fun A outer s H as us vs Q hr hg e0 hbind rv hsp => ?_⟩
  refine LamX.run_ofS (N := N) (ps := ps) lk hcd S hr e0 hbind rv (len _ _ _ hsp) fun hr2 => ?_
  obtain ⟨t, h1, h2⟩ := hb cdv A outer s H vs Q hr2 hg hsp
  exact ⟨t, h1.nox, h2⟩
end
section
variable {X : Cx} {k : Nat} {f : Addr} {fd : FuncData} {ps ks : List Str} {sp : SpG} {pins : List (Addr × Obj)} {σ : L2.St} {H : L2.Hp} {s : Shared} {Q : VK}
theorem run_fg {us zs : List Value} {kw : List (Str × Value)} {vs : List V} (F : FnG X.prog X.w X.K X.mg X.base k f fd ps sp) (hr : Room k X.A) (hg : X.A.guards = some []) (hb : BindsTo s fd ⟨us, kw⟩ (ps.zip zs)) (I : L2.Inv X pins σ H s) (r : Vals vs zs) (h : sp vs H Q) :
    wpAny (model X.prog X.w) X.A (call (.ref f) us kw) (EP X pins σ Q) X.xe s := by
  refine wpAny_call (codeAny_mono (F.run X.A X.stack s H ⟨us, kw⟩ zs vs Q hr hg I.env0 hb r h) fun z s' hq => ?_)
  cases z with
  | error _ => exact False.elim hq
  | ok fl =>
    cases fl with
    | ret u => exact I.after hq
    | _ => exact False.elim hq
end
/-! ### the promise by the evaluator -/
def spN (K : PySem.W.Frag) (T : List Fn) (n : Nat) (f : Str) : SpG := fun vs H Q => ∃ ρ hp as r hp', HRel K ρ hp H ∧ RHs K ρ H as vs ∧ callN T n f as hp = some (r, hp') ∧
  ∀ ρ' H' v, Step ρ H ρ' H' → HRel K ρ' hp' H' → RR K H ρ' H' r v → Q v H'
theorem RH.noref {K : PySem.W.Frag} {ρ ρ' : List Addr} {H : L2.Hp} : ∀ {as : List HV} {vs : List V}, noRef as = true → RHs K ρ H as vs → RHs K ρ' H as vs
  | [], _, _, .nil => .nil
  | .d x :: r, _, h, .cons a b => .cons a (RH.noref (as := r) h b)
  | .scr x :: r, _, h, .cons a b => .cons a (RH.noref (as := r) h b)
  | .ty x :: r, _, h, .cons a b => .cons a (RH.noref (as := r) h b)
  | .ref _ :: _, _, h, _ => by cases h
theorem RHs.ofData {K : PySem.W.Frag} {ρ ρ' : List Addr} {H : L2.Hp} {xs : List HV} {ds : List PyData} {vs : List V} (e : allData xs = some ds) (h : RHs K ρ H xs vs) : RHs K ρ' H xs vs := by
  rw [allData_eq e] at h ⊢
  exact h.rds.rhs
/-- a call behind the evaluated arguments -/
theorem run_read {K : PySem.W.Frag} {T : List Fn} {n : Nat} {f : Str} {pure : Bool} {H0 H : L2.Hp} {ρ : List Addr} {hp hp' : Hp} {as : List HV} {vs : List V} {z : RV} {Q : VK} (le : Le H0 H) (hr : HRel K ρ hp H) (r : RHs K ρ H as vs) (e : runCall (callN T n) f pure as hp = some (z, hp'))
    (q : ∀ ρ' H' v, Step ρ H ρ' H' → HRel K ρ' hp' H' → RR K H0 ρ' H' z v → Q v H') : spN K T n f vs H Q := by
  unfold runCall at e
  cases pure with
  | false =>
    rw [if_neg Bool.false_ne_true] at e
    exact ⟨ρ, hp, as, z, hp', hr, r, e, fun ρ' H' v st hr' rz => q ρ' H' v st hr' (RR.base le rz)⟩
  | true =>
    rw [if_pos rfl] at e
    split at e
    · rename_i nr
      split at e
      · rename_i w ew
        split at e
        · rename_i x ex
          cases e
          obtain ⟨r1, h1⟩ := w
          refine ⟨[], [], as, r1, h1, HRel.nil, RH.noref nr r, ew, fun ρ' H' v st hr' rz => ?_⟩
          have kp : ∀ b o, H b = some o → H' b = some o := fun b o h => st.keep b o h (by simp)
          have st2 : Step ρ H ρ H' := ⟨⟨[], by simp, by simp⟩, fun b o h _ => kp b o h, fun b o h _ => kp b o h, st.there⟩
          have hr2 : HRel K ρ hp H' := hr.mono st2 fun a ha => by
            cases w : H a with
            | none => exact absurd w (hr.tracked ha)
            | some o => exact kp a o w
          obtain ⟨new, en, fn⟩ := st.pre
          refine q ρ H' v st2 hr2 ?_
          unfold outP at ex
          split at ex
          · rename_i y h1 heq
            cases heq
            cases ex
            exact rz
          · rename_i xs h1 heq
            cases heq
            split at ex
            · rename_i ds ed
              cases ex
              obtain ⟨a, vs2, rfl, n0, _, ea, rv⟩ := rz
              exact ⟨a, vs2, rfl, le.none n0, fun z => hr.tracked z n0, ea, RHs.ofData ed rv⟩
            · cases ex
          · rename_i m h1 heq
            cases heq
            obtain ⟨a, ha, rfl⟩ := rz
            have hn : H a = none := fn a (by
              rw [en] at ha
              exact List.mem_of_getElem? (by simpa using ha))
            split at ex
            · rename_i xs ex2
              split at ex
              · rename_i ds ed
                cases ex
                obtain ⟨vs2, ea, rv⟩ := hr'.ob m _ a ex2 ha
                exact ⟨a, vs2, rfl, le.none hn, fun z => hr.tracked z hn, ea, RHs.ofData ed rv⟩
              · cases ex
            · rename_i ds ex2
              cases ex
              obtain ⟨o, vs2, ea, rv⟩ := hr'.ob m _ a ex2 ha
              exact ⟨a, vs2, rfl, ⟨o, ea⟩, rv⟩
            · cases ex
          · cases ex
        · cases e
      · cases e
    · cases e
theorem Paired.perm {α β : Type} {F : α → β → Prop} {xs : List α} {ys : List β} (h : Paired F xs ys) : ∀ {order : List Nat} {as : List α}, permute order xs = some as → ∃ bs, permute order ys = some bs ∧ Paired F as bs
  | [], as, e => by cases e; exact ⟨[], rfl, .nil⟩
  | i :: r, as, e => by
    unfold permute at e
    split at e
    · rename_i x zs ex ez
      cases e
      obtain ⟨y, ey, f1⟩ := Paired.get' h ex
      obtain ⟨bs, eb, f2⟩ := Paired.perm h ez
      exact ⟨y :: bs, by unfold permute; rw [ey, eb], .cons f1 f2⟩
    · cases e
theorem Vals.paired {vs : List V} {us : List Value} (h : Vals vs us) : Paired RelV vs us := h
/-- how the written arguments go to the parameters -/
def Shape (fd : FuncData) (ps ks : List Str) (n : Nat) (order : List Nat) : Prop :=
  ∀ (s : Shared) (us ws zs : List Value), us.length = n → ws.length = ks.length → permute order (us ++ ws) = some zs → BindsTo s fd ⟨us, ks.zip ws⟩ (ps.zip zs)
section
variable {X : Cx} {x : Str} {p pos : Pos} {e : Expr} {es : List Expr} {k : Nat} {f : Addr} {fd : FuncData} {ps ks : List Str} {T : List Fn} {n : Nat} {ms ms2 : Env → M (List RV)} {order : List Nat} {kws : List Keyword}
def callM (T : List Fn) (n : Nat) (f : Str) (pure : Bool) (order : List Nat) (ms : Env → M (List RV)) : Env → M RV := fun env => bnd (ms env) fun xs => bnd (lift (hvs? xs)) fun vs => bnd (lift (permute order vs)) fun as => runCall (callN T n) f pure as
/-- the reading: behind the arguments -/
theorem call_args {pure : Bool} {σ : L2.St} {H : L2.Hp} {Q : VK} (q : tM X.K (callM T n x pure order ms) σ H Q) :
    tMA X.K ms σ H fun xs H2 => ∃ ys, permute order xs = some ys ∧ spN X.K T n x ys H2 Q := by
  refine args q fun H0 ρ hp xs z hp' H2 xv le hr rx e q => ?_
  obtain ⟨vs, h1, e1, eq0⟩ := bnd_some e
  obtain ⟨e2, rfl⟩ := lift_some e1
  obtain ⟨as, h1, e3, eq1⟩ := bnd_some eq0
  obtain ⟨e4, rfl⟩ := lift_some e3
  obtain ⟨ys, ey, rv⟩ := Paired.perm (hvs_rel e2 rx) e4
  exact ⟨ys, ey, run_read le hr rv eq1 q⟩
theorem run_call {pins : List (Addr × Obj)} {σ : L2.St} {H : L2.Hp} {s : Shared} {Q : VK} {us ws : List Value} {vs : List V} (F : FnG X.prog X.w X.K X.mg X.base k f fd ps (spN X.K T n x)) (hr : Room k X.A) (hgd : X.A.guards = some []) {m : Nat} (sh : Shape fd ps ks m order) (I : L2.Inv X pins σ H s)
    (l1 : us.length = m) (l2 : ws.length = ks.length) (r : Vals vs (us ++ ws)) (h : ∃ ys, permute order vs = some ys ∧ spN X.K T n x ys H Q) : wpAny (model X.prog X.w) X.A (call (.ref f) us (ks.zip ws)) (EP X pins σ Q) X.xe s := by
  obtain ⟨ys, ey, h⟩ := h
  obtain ⟨zs, ez, rz⟩ := Paired.perm r ey
  exact run_fg F hr hgd (sh s us ws zs l1 l2 ez) I rz h
/-- so many values come -/
def Many (ms : Env → M (List RV)) (m : Nat) : Prop := ∀ env h xs h', ms env h = some (xs, h') → xs.length = m
theorem tMA.many {K : PySem.W.Frag} {m : Nat} (hm : Many ms m) {σ : L2.St} {H : L2.Hp} {R : List V → L2.Hp → Prop} (q : tMA K ms σ H R) : tMA K ms σ H fun vs H2 => vs.length = m ∧ R vs H2 := by
  obtain ⟨ρ, hp, env, xs, hp', hr, er, e, q⟩ := q
  refine ⟨ρ, hp, env, xs, hp', hr, er, e, fun ρ' H' vs st hr' rx => ⟨?_, q ρ' H' vs st hr' rx⟩⟩
  rw [← Paired.length rx]
  exact hm env hp xs hp' e
/-- f(e, ..) -/
theorem c_call {pure : Bool} (F : FnG X.prog X.w X.K X.mg X.base k f fd ps (spN X.K T n x)) (hr : Room k X.A) (hgd : X.A.guards = some []) (hg : Gl X x) (hm : X.mg x = some (.ref f)) (hk : PySem.W.keepIn X.K (.ref f) = true) (sh : Shape fd ps [] (es.length + 1) order) (hd : (x == ("__debug__" : Str)) = false)
    (h1 : noStar e = true) (hs : es.all noStar = true) (hl : Many ms (es.length + 1)) (ha : PA X (e :: es) (tMA X.K ms)) : PE X (.Call (.Name x p) (e :: es) [] pos) (tM X.K (callM T n x pure order ms)) := by
  refine ⟨fun pins s σ H Q I q => ?_⟩
  refine wpAny_Call_Name_kw (ld_glob I hg hm ?_ hd)
  refine PySem.W.callWith_K (h₀ := X.base) I.ok.mod.kin hk (thn (ha.run pos pins s σ H _ I (tMA.many hl (call_args q))) fun us s1 ⟨vs, H1, I1, r, l, q⟩ => ⟨I1.kIn, ?_⟩) (hst_of h1) (starEach_any hs)
  have l1 := r.length
  exact run_call (ks := []) (ws := []) (us := us) F hr hgd sh I1 (by omega) rfl (by rw [List.append_nil]; exact r) q
/-- f() -/
theorem c_call0 {pure : Bool} (F : FnG X.prog X.w X.K X.mg X.base k f fd ps (spN X.K T n x)) (hr : Room k X.A) (hgd : X.A.guards = some []) (hg : Gl X x) (hm : X.mg x = some (.ref f)) (hk : PySem.W.keepIn X.K (.ref f) = true) (sh : Shape fd ps [] 0 order) (hd : (x == ("__debug__" : Str)) = false) :
    PE X (.Call (.Name x p) [] [] pos) (tM X.K (callM T n x pure order fun _ => ret [])) := by
  refine ⟨fun pins s σ H Q I q => ?_⟩
  refine wpAny_Call_Name_kw (ld_glob I hg hm ?_ hd)
  have q1 := call_args q
  obtain ⟨ρ, hp, env, xs, hp', hr2, er, e, q1⟩ := q1
  cases e
  have q2 := q1 ρ H [] Step.refl hr2 .nil
  exact PySem.W.callWith_K0 I.kIn hk (run_call (ks := []) (ws := []) (us := []) (vs := []) F hr hgd sh I rfl rfl .nil q2)
/-! ### with keywords -/
def kwOk : Keyword → Bool
  | ⟨some _, _, _⟩ => true
  | _ => false
def kwNames : List Keyword → List Str
  | [] => []
  | ⟨some n, _, _⟩ :: r => n :: kwNames r
  | ⟨none, _, _⟩ :: r => kwNames r
theorem kw_facts {env : PySem.Env} {pos : Pos} : ∀ {kws : List Keyword}, kws.all kwOk = true →
    (backToKw pos (keywordEach kws env)).all (·.1.isSome) = true ∧ (backToKw pos (keywordEach kws env)).any (·.1.isNone) = false ∧ (backToKw pos (keywordEach kws env)).filterMap (·.1) = kwNames kws ∧ (kwNames kws).length = kws.length
  | [], _ => ⟨rfl, rfl, rfl, rfl⟩
  | ⟨some n, e, p⟩ :: r, h => by
    obtain ⟨h1, h2, h3, h4⟩ := kw_facts (env := env) (pos := pos) (kws := r) h
    refine ⟨h1, h2, ?_, congrArg Nat.succ h4⟩
    show n :: (backToKw pos (keywordEach r env)).filterMap (·.1) = n :: kwNames r
    rw [h3]
  | ⟨none, e, p⟩ :: r, h => by cases h
theorem evs2 {m1 : Nat} {σ : L2.St} {H : L2.Hp} {R : List V → L2.Hp → Prop} (hl : Many ms m1) (q : tMA X.K (fun env => bnd (ms env) fun xs => bnd (ms2 env) fun ys => ret (xs ++ ys)) σ H R) :
    tMA X.K ms σ H fun vs H1 => vs.length = m1 ∧ tMA X.K ms2 σ H1 fun ws H2 => R (vs ++ ws) H2 := by
  obtain ⟨ρ, hp, env, z, hp', hr, er, e, q⟩ := q
  obtain ⟨xs, hp1, e1, eq0⟩ := bnd_some e
  obtain ⟨ys, hp2, e2, eq1⟩ := bnd_some eq0
  cases eq1
  refine ⟨ρ, hp, env, xs, hp1, hr, er, e1, fun ρ1 H1 vs s1 hr1 rx => ⟨by rw [← Paired.length rx]; exact hl env hp xs hp1 e1, ρ1, hp1, env, ys, _, hr1, er.mono s1, e2, fun ρ2 H2 ws s2 hr2 ry => ?_⟩⟩
  exact q ρ2 H2 _ (s1.trans s2) hr2 (Paired.app (rx.mono s2) (RRs.base (fun b hb => s1.there b hb) ry))
theorem c_pk0 : PK X [] (tMA X.K fun _ => ret []) := ⟨fun pos pins s σ H Q I q => by
  obtain ⟨ρ, hp, env, z, hp', hr, er, e, q⟩ := q
  cases e
  exact pk_nil.run pos pins s σ H Q I (q ρ H [] Step.refl hr .nil)⟩
theorem c_pk1 {m : Env → M RV} {nm : Option Str} {kpos : Pos} (h : PE X e (tM X.K m)) (hr : PK X kws (tMA X.K ms)) : PK X (⟨nm, e, kpos⟩ :: kws) (tMA X.K fun env => bnd (m env) fun x => bnd (ms env) fun xs => ret (x :: xs)) := ⟨fun pos pins s σ H Q I q => by
  refine (pk_cons (nm := nm) (kpos := kpos) h hr).run pos pins s σ H Q I ?_
  obtain ⟨ρ, hp, env, z, hp', hr, er, e, q⟩ := q
  obtain ⟨x, hp1, e1, eq0⟩ := bnd_some e
  obtain ⟨xs, hp2, e2, eq1⟩ := bnd_some eq0
  cases eq1
  refine ⟨ρ, hp, env, x, hp1, hr, er, e1, fun ρ1 H1 xv s1 hr1 rx => ⟨ρ1, hp1, env, xs, _, hr1, er.mono s1, e2, fun ρ2 H2 vs s2 hr2 rxs => ?_⟩⟩
  exact q ρ2 H2 _ (s1.trans s2) hr2 (.cons (rx.mono s2) (RRs.base (fun b hb => s1.there b hb) rxs))⟩
/-- f(e, .., k = v, ..) -/
theorem c_callK {pure : Bool} (F : FnG X.prog X.w X.K X.mg X.base k f fd ps (spN X.K T n x)) (hr : Room k X.A) (hgd : X.A.guards = some []) (hg : Gl X x) (hm : X.mg x = some (.ref f)) (hk : PySem.W.keepIn X.K (.ref f) = true) (sh : Shape fd ps (kwNames kws) (es.length + 1) order) (hd : (x == ("__debug__" : Str)) = false)
    (h1 : noStar e = true) (hs : es.all noStar = true) (hkw : kws.all kwOk = true) (hl : Many ms (es.length + 1)) (hl2 : Many ms2 kws.length) (ha : PA X (e :: es) (tMA X.K ms)) (hk2 : PK X kws (tMA X.K ms2)) :
    PE X (.Call (.Name x p) (e :: es) kws pos) (tM X.K (callM T n x pure order fun env => bnd (ms env) fun xs => bnd (ms2 env) fun ys => ret (xs ++ ys))) := by
  refine ⟨fun pins s σ H Q I q => ?_⟩
  obtain ⟨k1, k2, k3, k4⟩ := kw_facts (env := X.env) (pos := pos) hkw
  refine wpAny_Call_Name_kw (ld_glob I hg hm ?_ hd)
  refine PySem.W.callWith_KW (h₀ := X.base) I.ok.mod.kin hk k1 (thn (ha.run pos pins s σ H _ I (evs2 hl (call_args q))) fun us s1 ⟨vs, H1, I1, r, l, q⟩ => ?_) (by rw [hst_of h1]; show (false || (backTo pos (starEach es X.env)).any (·.1) || _) = false; rw [starEach_any hs, k2] <;> rfl) (hst_of h1)
  refine thn (hk2.run pos pins s1 σ H1 _ I1 (tMA.many hl2 q)) fun ws s2 ⟨zs, H2, I2, rz, lz, q2⟩ => ⟨I2.kIn, ?_⟩
  rw [k3]
  have l1 := r.length
  have l2 := rz.length
  exact run_call (us := us) (ws := ws) F hr hgd sh I2 (by omega) (by omega) (r.append rz) q2
/-- f(k = v, ..) -/
theorem c_callK0 {pure : Bool} (F : FnG X.prog X.w X.K X.mg X.base k f fd ps (spN X.K T n x)) (hr : Room k X.A) (hgd : X.A.guards = some []) (hg : Gl X x) (hm : X.mg x = some (.ref f)) (hk : PySem.W.keepIn X.K (.ref f) = true) (sh : Shape fd ps (kwNames kws) 0 order) (hd : (x == ("__debug__" : Str)) = false)
    (hkw : kws.all kwOk = true) (hl2 : Many ms2 kws.length) (hk2 : PK X kws (tMA X.K ms2)) :
    PE X (.Call (.Name x p) [] kws pos) (tM X.K (callM T n x pure order ms2)) := by
  refine ⟨fun pins s σ H Q I q => ?_⟩
  obtain ⟨k1, k2, k3, k4⟩ := kw_facts (env := X.env) (pos := pos) hkw
  refine wpAny_Call_Name_kw (ld_glob I hg hm ?_ hd)
  refine PySem.W.callWith_KW0 (h₀ := X.base) I.ok.mod.kin hk k1 ?_ (by show (false || _) = false; rw [k2] <;> rfl)
  refine thn (hk2.run pos pins s σ H _ I (tMA.many hl2 (call_args q))) fun ws s2 ⟨zs, H2, I2, rz, lz, q2⟩ => ⟨I2.kIn, ?_⟩
  rw [k3]
  have l2 := rz.length
  exact run_call (us := []) F hr hgd sh I2 rfl (by omega) rz q2
end
end Ev

set_option Elab.async false
set_option linter.all false
set_option maxRecDepth 100000
set_option maxHeartbeats 4000000
/-! Snd10: what loops walk. -/
namespace Ev
open PySem PySem.Spec PyProof.Rows L2
def ItemR (K : PySem.W.Frag) (w : Bool) (ρ : List Addr) (H : L2.Hp) (x : HV) (v : V) : Prop := RH K ρ H x v ∨ (w = true ∧ ∃ ds a vs, x = .d (.tuple ds) ∧ v = .ref a ∧ SqT K H a vs ∧ RDs K H ds vs)
def itsNow : Its → Hp → Option (List HV)
  | .seq xs, _ => some xs
  | .live n, hp => match hp[n]? with
    | some (.lst xs) => some xs
    | _ => none
/-- J hands out what the evaluator walks -/
def Walks (K : PySem.W.Frag) (w : Bool) (its : Its) (ρ0 : List Addr) (H0 : L2.Hp) (J : It) : Prop := ∀ ρ hp H i xs, Step ρ0 H0 ρ H → HRel K ρ hp H → itsNow its hp = some xs → (i ≤ xs.length ∨ ∃ n, its = .live n) →
  (∀ x, xs[i]? = some x → J.go i H ∧ ∀ v H', J.yld i H v H' → Step ρ H ρ H' ∧ HRel K ρ hp H' ∧ ItemR K w ρ H' x v) ∧ (xs[i]? = none → J.stop i H)
def ItQ (kd : Bool) (K : PySem.W.Frag) (a : Addr) : It := if kd then Itt K a else Itl K a
/-- the source stays -/
def Stays (kd : Bool) (K : PySem.W.Frag) (ρ0 : List Addr) (H0 : L2.Hp) (a : Addr) (vs : List V) : Prop := ∀ ρ H, Step ρ0 H0 ρ H → SqK kd K H a vs
section
variable {K : PySem.W.Frag} {ρ0 ρ : List Addr} {H0 H : L2.Hp} {hp : Hp} {a b c : Addr} {vs ws us : List V} {kd k2 k3 : Bool}
theorem const_fz (h : FzL H0 a vs) : Stays false K ρ0 H0 a vs := fun ρ H st => (FzL.mono st.imm h).sq
theorem const_tup (h : TupX K H0 a vs) : Stays true K ρ0 H0 a vs := fun ρ H st => (TupX.mono st.imm h).sq
theorem const_new (h : H0 a = some (.lst vs)) (n : a ∉ ρ0) : Stays false K ρ0 H0 a vs := fun ρ H st => .inl (.inl (st.keep a _ h n))
theorem list_cases {xs : List HV} {i : Nat} (h : i ≤ xs.length) (e : xs[i]? = none) : xs.length = i := by
  have := List.getElem?_eq_none_iff.mp e
  omega
theorem Paired.none {α β : Type} {F : α → β → Prop} {l : List α} {m : List β} {i : Nat} (h : Paired F l m) (e : l[i]? = none) : m.length ≤ i := by
  have h1 := Paired.length h
  have h2 := List.getElem?_eq_none_iff.mp e
  omega
theorem walks_q {xs : List HV} (cs : Stays kd K ρ0 H0 a vs) (r : RHs K ρ0 H0 xs vs) : Walks K false (.seq xs) ρ0 H0 (ItQ kd K a) := by
  intro ρ hp H i ys st hr e _
  cases e
  have q := cs ρ H st
  have r2 := RHs.mono st r
  cases kd with
  | true =>
    refine ⟨fun x ex => ?_, fun ex => ⟨vs, q, Paired.none r ex⟩⟩
    obtain ⟨v, ev, rv⟩ := Paired.get' r2 ex
    refine ⟨⟨vs, v, q, ev⟩, fun v2 H' ⟨e1, e2⟩ => ?_⟩
    subst e1
    have := e2 vs q
    rw [ev] at this
    cases this
    exact ⟨Step.refl, hr, .inl rv⟩
  | false =>
    refine ⟨fun x ex => ?_, fun ex => ⟨vs, q, Paired.none r ex⟩⟩
    obtain ⟨v, ev, rv⟩ := Paired.get' r2 ex
    refine ⟨⟨vs, v, q, ev⟩, fun v2 H' ⟨e1, e2⟩ => ?_⟩
    subst e1
    have := e2 vs q
    rw [ev] at this
    cases this
    exact ⟨Step.refl, hr, .inl rv⟩
theorem walks_live {n : Nat} (ha : ρ0[n]? = some a) : Walks K false (.live n) ρ0 H0 (Itl K a) := by
  intro ρ hp H i ys st hr e _
  simp only [itsNow] at e
  split at e
  · rename_i xs ex
    cases e
    obtain ⟨vs, ea, rv⟩ := hr.ob n _ a ex (st.get ha)
    have q : SqL K H a vs := .inl (.inl ea)
    refine ⟨fun x ex => ?_, fun ex => ⟨vs, q, Paired.none rv ex⟩⟩
    obtain ⟨v, ev, r1⟩ := Paired.get' rv ex
    refine ⟨⟨vs, v, q, ev⟩, fun v2 H' ⟨e1, e2⟩ => ?_⟩
    subst e1
    have := e2 vs q
    rw [ev] at this
    cases this
    exact ⟨Step.refl, hr, .inl r1⟩
  · cases e
theorem walks_r (lo : Int) (n : Nat) : Walks K false (.seq (rangeL lo n)) ρ0 H0 (Itr lo n) := by
  intro ρ hp H i ys st hr e _
  cases e
  have hl : (rangeL lo n).length = n := by unfold rangeL; simp
  refine ⟨fun x ex => ?_, fun ex => ?_⟩
  · have hi : i < n := by rw [← hl]; exact (List.getElem?_eq_some_iff.mp ex).1
    refine ⟨hi, fun v H' ⟨e1, e2⟩ => ?_⟩
    subst e1 e2
    unfold rangeL at ex
    rw [List.getElem?_map, List.getElem?_range hi] at ex
    cases ex
    exact ⟨Step.refl, hr, .inl rfl⟩
  · have := List.getElem?_eq_none_iff.mp ex
    show n ≤ i
    omega
theorem RDs.get : ∀ {ds : List PyData} {vs : List V} {i : Nat} {d : PyData}, RDs K H ds vs → ds[i]? = some d → ∃ v, vs[i]? = some v ∧ RD K H d v
  | [], _, _, _, _, e => by simp at e
  | d :: ds, vs, 0, _, h, e => by
    obtain ⟨v, r, rfl, h1, _⟩ := h
    cases e
    exact ⟨v, rfl, h1⟩
  | d :: ds, vs, i + 1, _, h, e => by
    obtain ⟨v, r, rfl, _, h2⟩ := h
    exact RDs.get (i := i) h2 (by simpa using e)
theorem RDs.step (st : Step ρ0 H0 ρ H) {ds : List PyData} (h : RDs K H0 ds vs) : RDs K H ds vs := RDs.mono st.imm _ _ h
/-- a tuple that was just given out -/
theorem given {T : Addr} {ds : List PyData} (np : H T = none) (hr : HRel K ρ hp H) (r : RDs K H ds vs) : Step ρ H ρ (upd H T (.tup vs)) ∧ HRel K ρ hp (upd H T (.tup vs)) ∧ ItemR K true ρ (upd H T (.tup vs)) (.d (.tuple ds)) (.ref T) :=
  ⟨Step.new np, hr.new np, .inr ⟨rfl, ds, T, vs, rfl, rfl, .inl (.inl upd_same), RDs.mono (Step.new (ρ := ρ) (o := .tup vs) np).imm _ _ r⟩⟩
theorem enumL_get : ∀ {ds : List PyData} {k i : Nat}, (enumL k ds)[i]? = (ds[i]?).map fun d => .d (.tuple [.int ((k + i : Nat) : Int), d])
  | [], k, i => by simp [enumL]
  | d :: ds, k, 0 => by simp [enumL]
  | d :: ds, k, i + 1 => by
    show (enumL (k + 1) ds)[i]? = _
    rw [enumL_get, show k + 1 + i = k + (i + 1) by omega]
    rfl
theorem walks_E {ds : List PyData} (cs : Stays kd K ρ0 H0 a vs) (r : RDs K H0 ds vs) : Walks K true (.seq (enumL 0 ds)) ρ0 H0 (ItE kd K a) := by
  intro ρ hp H i ys st hr e hi
  cases e
  have q := cs ρ H st
  have r2 := r.step st
  refine ⟨fun x ex => ?_, fun ex => ?_⟩
  · rw [enumL_get] at ex
    cases ed : ds[i]? with
    | none => rw [ed] at ex; cases ex
    | some d =>
      rw [ed] at ex
      cases ex
      obtain ⟨v, ev, rv⟩ := r2.get ed
      refine ⟨⟨vs, v, q, ev⟩, fun v2 H' ⟨T, y, e1, np, e2, e3⟩ => ?_⟩
      have := e3 vs q
      rw [ev] at this
      cases this
      subst e1 e2
      exact given np hr ⟨_, _, rfl, by rw [Nat.zero_add]; rfl, _, _, rfl, rv, rfl⟩
  · refine ⟨vs, q, ?_⟩
    rw [enumL_get] at ex
    have h1 : ds.length ≤ i := by
      cases ed : ds[i]? with
      | none => exact List.getElem?_eq_none_iff.mp ed
      | some d => rw [ed] at ex; cases ex
    rw [← r.length]
    rcases hi with hi | ⟨n, hn⟩
    · have hl : ∀ (k : Nat) (l : List PyData), (enumL k l).length = l.length := fun k l => by
        induction l generalizing k with
        | nil => rfl
        | cons x l ih => exact congrArg Nat.succ (ih (k + 1))
      rw [hl] at hi
      omega
    · cases hn
theorem zipL_get : ∀ {ds es : List PyData} {i : Nat} {d e : PyData}, ds[i]? = some d → es[i]? = some e → (zipL ds es)[i]? = some (.d (.tuple [d, e]))
  | x :: ds, y :: es, 0, _, _, h1, h2 => by cases h1; cases h2; rfl
  | x :: ds, y :: es, i + 1, _, _, h1, h2 => by
    show (zipL ds es)[i]? = _
    exact zipL_get (by simpa using h1) (by simpa using h2)
  | [], _, _, _, _, h1, _ => by simp at h1
  | _ :: _, [], _, _, _, _, h2 => by simp at h2
theorem zipL_len : ∀ {ds es : List PyData}, (zipL ds es).length = min ds.length es.length
  | x :: ds, y :: es => by
    show (zipL ds es).length + 1 = _
    rw [zipL_len, List.length_cons, List.length_cons]
    omega
  | [], _ => by simp [zipL]
  | _ :: _, [] => by simp [zipL]
theorem zip3L_get : ∀ {ds es fs : List PyData} {i : Nat} {d e f : PyData}, ds[i]? = some d → es[i]? = some e → fs[i]? = some f → (zip3L ds es fs)[i]? = some (.d (.tuple [d, e, f]))
  | x :: ds, y :: es, z :: fs, 0, _, _, _, h1, h2, h3 => by cases h1; cases h2; cases h3; rfl
  | x :: ds, y :: es, z :: fs, i + 1, _, _, _, h1, h2, h3 => by
    show (zip3L ds es fs)[i]? = _
    exact zip3L_get (by simpa using h1) (by simpa using h2) (by simpa using h3)
  | [], _, _, _, _, _, _, h1, _, _ => by simp at h1
  | _ :: _, [], _, _, _, _, _, _, h2, _ => by simp at h2
  | _ :: _, _ :: _, [], _, _, _, _, _, _, h3 => by simp at h3
theorem zip3L_len : ∀ {ds es fs : List PyData}, (zip3L ds es fs).length = min (min ds.length es.length) fs.length
  | x :: ds, y :: es, z :: fs => by
    show (zip3L ds es fs).length + 1 = _
    rw [zip3L_len, List.length_cons, List.length_cons, List.length_cons]
    omega
  | [], _, _ => by simp [zip3L]
  | _ :: _, [], _ => by simp [zip3L]
  | _ :: _, _ :: _, [] => by simp [zip3L]
theorem walks_Z {ds es : List PyData} (c1 : Stays kd K ρ0 H0 a vs) (r1 : RDs K H0 ds vs) (c2 : Stays k2 K ρ0 H0 b ws) (r2 : RDs K H0 es ws) : Walks K true (.seq (zipL ds es)) ρ0 H0 (ItZ2 kd k2 K a b) := by
  intro ρ hp H i ys st hr e hi
  cases e
  have q1 := c1 ρ H st
  have q2 := c2 ρ H st
  have s1 := r1.step st
  have s2 := r2.step st
  have l1 := r1.length
  have l2 := r2.length
  refine ⟨fun x ex => ?_, fun ex => ?_⟩
  · have hl := (List.getElem?_eq_some_iff.mp ex).1
    rw [zipL_len] at hl
    obtain ⟨v, ev, rv⟩ := s1.get (List.getElem?_eq_getElem (show i < ds.length by omega))
    obtain ⟨w, ew, rw2⟩ := s2.get (List.getElem?_eq_getElem (show i < es.length by omega))
    rw [zipL_get (List.getElem?_eq_getElem (show i < ds.length by omega)) (List.getElem?_eq_getElem (show i < es.length by omega))] at ex
    cases ex
    refine ⟨⟨vs, ws, ⟨q1, q2⟩, by omega⟩, fun v2 H' ⟨T, y1, y2, e1, np, e2, e3, e4⟩ => ?_⟩
    have f1 := e3 vs q1
    have f2 := e4 ws q2
    rw [ev] at f1
    rw [ew] at f2
    cases f1
    cases f2
    subst e1 e2
    exact given np hr ⟨_, _, rfl, rv, _, _, rfl, rw2, rfl⟩
  · rcases hi with hi | ⟨n, hn⟩
    · have := list_cases hi ex
      rw [zipL_len] at this
      exact ⟨vs, ws, ⟨q1, q2⟩, by omega⟩
    · cases hn
theorem walks_Z3 {ds es fs : List PyData} (c1 : Stays kd K ρ0 H0 a vs) (r1 : RDs K H0 ds vs) (c2 : Stays k2 K ρ0 H0 b ws) (r2 : RDs K H0 es ws) (c3 : Stays k3 K ρ0 H0 c us) (r3 : RDs K H0 fs us) : Walks K true (.seq (zip3L ds es fs)) ρ0 H0 (ItZ3 kd k2 k3 K a b c) := by
  intro ρ hp H i ys st hr e hi
  cases e
  have q1 := c1 ρ H st
  have q2 := c2 ρ H st
  have q3 := c3 ρ H st
  have s1 := r1.step st
  have s2 := r2.step st
  have s3 := r3.step st
  have l1 := r1.length
  have l2 := r2.length
  have l3 := r3.length
  refine ⟨fun x ex => ?_, fun ex => ?_⟩
  · have hl := (List.getElem?_eq_some_iff.mp ex).1
    rw [zip3L_len] at hl
    have b1 : i < ds.length := by omega
    have b2 : i < es.length := by omega
    have b3 : i < fs.length := by omega
    obtain ⟨v, ev, rv⟩ := s1.get (List.getElem?_eq_getElem b1)
    obtain ⟨w, ew, rw2⟩ := s2.get (List.getElem?_eq_getElem b2)
    obtain ⟨u, eu, ru⟩ := s3.get (List.getElem?_eq_getElem b3)
    rw [zip3L_get (List.getElem?_eq_getElem b1) (List.getElem?_eq_getElem b2) (List.getElem?_eq_getElem b3)] at ex
    cases ex
    refine ⟨⟨vs, ws, us, ⟨q1, q2, q3⟩, by omega⟩, fun v2 H' ⟨T, y1, y2, y3, e1, np, e2, e3, e4, e5⟩ => ?_⟩
    have f1 := e3 vs q1
    have f2 := e4 ws q2
    have f3 := e5 us q3
    rw [ev] at f1
    rw [ew] at f2
    rw [eu] at f3
    cases f1
    cases f2
    cases f3
    subst e1 e2
    exact given np hr ⟨_, _, rfl, rv, _, _, rfl, rw2, _, _, rfl, ru, rfl⟩
  · rcases hi with hi | ⟨n, hn⟩
    · have := list_cases hi ex
      rw [zip3L_len] at this
      exact ⟨vs, ws, us, ⟨q1, q2, q3⟩, by omega⟩
    · cases hn
/-- a source for enumerate and zip -/
theorem src {Hb : L2.Hp} (hr : HRel K ρ hp H) {x : RV} {v : V} {ds : List PyData} (r : RR K Hb ρ H x v) (e : seqData hp x = some ds) : ∃ kd a vs, v = .ref a ∧ Stays kd K ρ H a vs ∧ RDs K H ds vs := by
  have key : ∀ {xs : List HV}, getSeq hp x = some xs → (∀ n, x ≠ .hv (.ref n)) → allData xs = some ds → ∃ kd a vs, v = .ref a ∧ Stays kd K ρ H a vs ∧ RDs K H ds vs := fun {xs} e1 nr e2 => by
    cases x with
    | hv x =>
      cases x with
      | d d =>
        cases d with
        | tuple es =>
          cases e1
          obtain ⟨a, vs, rfl, h1, h2⟩ := r
          have rr := h2.rhs (ρ := ρ)
          rw [allData_eq e2] at rr
          exact ⟨true, a, vs, rfl, const_tup h1, rr.rds⟩
        | list es =>
          cases e1
          obtain ⟨a, vs, rfl, h1, h2⟩ := r
          have rr := h2.rhs (ρ := ρ)
          rw [allData_eq e2] at rr
          exact ⟨false, a, vs, rfl, const_fz h1, rr.rds⟩
        | _ => cases e1
      | ref n => exact absurd rfl (nr n)
      | scr _ => cases e1
      | ty _ => cases e1
    | fresh ys =>
      cases e1
      obtain ⟨a, vs, rfl, _, na, ea, rv⟩ := r
      rw [allData_eq e2] at rv
      exact ⟨false, a, vs, rfl, const_new ea na, rv.rds⟩
  unfold seqData at e
  split at e
  · rename_i n
    obtain ⟨a, h1, rfl⟩ := r
    split at e
    · rename_i es ex
      cases e
      obtain ⟨o, vs, ea, rv⟩ := hr.ob n _ a ex h1
      exact ⟨false, a, vs, rfl, const_fz ⟨o, ea⟩, rv⟩
    · cases e
  · rename_i h1
    split at e
    · rename_i xs ex
      exact key ex (fun n z => h1 n z) e
    · cases e
/-- what a for walks -/
theorem src_its {Hb : L2.Hp} (hr : HRel K ρ hp H) {x : RV} {v : V} {its : Its} (r : RR K Hb ρ H x v) (e : itsOf hp x = some its) : ∃ kd a vs, v = .ref a ∧ SqK kd K H a vs ∧ Walks K false its ρ H (ItQ kd K a) := by
  unfold itsOf at e
  split at e
  · rename_i n
    obtain ⟨a, h1, rfl⟩ := r
    split at e
    · rename_i xs ex
      cases e
      obtain ⟨vs, ea, rv⟩ := hr.ob n _ a ex h1
      exact ⟨false, a, vs, rfl, .inl (.inl ea), walks_live h1⟩
    · rename_i ds ex
      cases e
      obtain ⟨o, vs, ea, rv⟩ := hr.ob n _ a ex h1
      have cs : Stays false K ρ H a vs := const_fz ⟨o, ea⟩
      exact ⟨false, a, vs, rfl, cs ρ H Step.refl, walks_q cs rv.rhs⟩
    · cases e
  · rename_i ns
    cases e
    obtain ⟨a, rfl, h⟩ := r
    exact ⟨false, a, _, rfl, h.sq, walks_q (kd := false) (fun ρ' H' st => (h.mono st.imm).sq) (ints_rhs ns)⟩
  · rename_i nr ns0
    split at e
    · rename_i xs ex
      cases e
      cases x with
      | hv x =>
        cases x with
        | d d =>
          cases d with
          | tuple es =>
            cases ex
            obtain ⟨a, vs, rfl, h1, h2⟩ := r
            exact ⟨true, a, vs, rfl, h1.sq, walks_q (const_tup h1) h2.rhs⟩
          | list es =>
            cases ex
            obtain ⟨a, vs, rfl, h1, h2⟩ := r
            exact ⟨false, a, vs, rfl, h1.sq, walks_q (const_fz h1) h2.rhs⟩
          | _ => cases ex
        | ref n => exact absurd rfl (nr n)
        | scr ns => exact absurd rfl (ns0 ns)
        | ty _ => cases ex
      | fresh ys =>
        cases ex
        obtain ⟨a, vs, rfl, _, na, ea, rv⟩ := r
        exact ⟨false, a, vs, rfl, .inl (.inl ea), walks_q (const_new ea na) rv⟩
    · cases e
end
/-! ### the rules -/
def tMI (K : PySem.W.Frag) (w : Bool) (m : Env → M Its) : TI := fun σ H R => ∃ ρ hp env its hp', HRel K ρ hp H ∧ ERel K ρ H env σ ∧ m env hp = some (its, hp') ∧ ∀ ρ' H' J, Step ρ H ρ' H' → HRel K ρ' hp' H' → Walks K w its ρ' H' J → R J H'
theorem PI.imp {X : Cx} {tg e : Expr} {t t' : TI} (h : PI X tg e t) (i : ∀ σ H Q, t' σ H Q → t σ H Q) : PI X tg e t' := ⟨fun pins s σ H Q I q => h.run pins s σ H Q I (i σ H Q q)⟩
section
variable {X : Cx} {e e1 e2 e3 tg : Expr} {m ma mb mc : Env → M RV} {ms : Env → M (List RV)} {p pos tpos : Pos} {elts : List Expr} {kk : Nat}
/-- a list, or a tuple, whichever comes -/
theorem pi_any {te : TE} (he : PE X e te) : PI X tg e (fun σ H R => te σ H fun x H1 => ∃ kd a vs, x = .ref a ∧ SqK kd X.K H1 a vs ∧ R (ItQ kd X.K a) H1) := by
  refine ⟨fun pins s σ H R I h => thn (he.run pins s σ H _ I h) fun v s1 ⟨x, H1, I1, r1, kd, a, vs, ex, hq, q⟩ => ?_⟩
  subst ex
  cases r1
  have fp : ∀ b ∈ [s1.heap.objs.size], FpOk X pins H1 b := fun b hb => by
    rw [List.mem_singleton.mp hb]
    exact I1.fpOk (Nat.le_refl _) (I1.hok.fresh (Nat.le_refl _))
  obtain ⟨its, rv, sq⟩ := sqK_at I1 hq
  cases kd with
  | true =>
    have ht : s1.heap.IsTuple a its.toArray := sq
    exact wpAny_pyIter_tuple ht ⟨_, [s1.heap.objs.size], _, _, H1, rfl, I1.kept (t' := s1.toks) fun b o z => Heap.get?_push_of_some _ z, turn_tuple a _, ⟨_, Heap.get?_push_size _ rfl, rfl, rfl⟩, fp, q⟩
  | false =>
    have ht : s1.heap.IsList a its.toArray := sq
    exact wpAny_pyIter_list ht ⟨_, [s1.heap.objs.size], _, _, H1, rfl, I1.kept (t' := s1.toks) fun b o z => Heap.get?_push_of_some _ z, turn_list a _, ⟨_, Heap.get?_push_size _ rfl, rfl, rfl⟩, fp, q⟩
theorem c_iSeq (he : PE X e (tM X.K m)) : PI X tg e (tMI X.K false fun env => bnd (m env) fun x => look fun h => itsOf h x) := PI.imp (pi_any he) fun σ H R q => by
  obtain ⟨ρ, hp, env, its, hp', hr, er, e, q⟩ := q
  obtain ⟨x, hp1, e1, eq0⟩ := bnd_some e
  obtain ⟨e2, rfl⟩ := look_some eq0
  refine ⟨ρ, hp, env, x, _, hr, er, e1, fun ρ1 H1 xv s1 hr1 rx => ?_⟩
  obtain ⟨kd, a, vs, rfl, sq, wk⟩ := src_its hr1 rx e2
  exact ⟨kd, a, vs, rfl, sq, q ρ1 H1 _ s1 hr1 wk⟩
/-- one argument -/
theorem arg1 {σ : L2.St} {H : L2.Hp} {R : List V → L2.Hp → Prop} (h : tM X.K m σ H fun v H1 => R [v] H1) : tMA X.K (fun env => bnd (m env) fun x => bnd (ret []) fun xs => ret (x :: xs)) σ H R := by
  obtain ⟨ρ, hp, env, x, hp', hr, er, e, q⟩ := h
  refine ⟨ρ, hp, env, [x], hp', hr, er, ?_, fun ρ' H' vs st hr' rx => ?_⟩
  · show bnd (m env) _ hp = _
    unfold bnd
    rw [e]
    rfl
  · obtain ⟨v, rfl, r⟩ := rx.one
    exact q ρ' H' v st hr' r
theorem c_iR1 (hg : Gl X "range") (hm : X.mg "range" = none) (hs : noStar e = true) (he : PE X e (tM X.K m)) :
    PI X tg (.Call (.Name "range" p) [e] [] pos) (tMI X.K false fun env => bnd (m env) fun x => bnd (lift (toInt x)) fun n => bnd (chk (decide (-(2 ^ 62) ≤ n ∧ n < 2 ^ 62))) fun _ => ret (.seq (rangeL 0 n.toNat))) :=
  PI.imp (pi_range1 hg hm (c_cons hs he c_nil) (by rw [hst_of hs] <;> rfl)) fun σ H R q => by
    obtain ⟨ρ, hp, env, its, hp', hr, er, e, q⟩ := q
    obtain ⟨x, hp1, e1, eq0⟩ := bnd_some e
    obtain ⟨n, h1, e2, eq1⟩ := bnd_some eq0
    obtain ⟨e3, rfl⟩ := lift_some e2
    obtain ⟨u, h1, e4, eq2⟩ := bnd_some eq1
    obtain ⟨e5, rfl⟩ := chk_some e4
    cases eq2
    obtain ⟨b1, b2⟩ := of_decide_eq_true e5
    refine arg1 ⟨ρ, hp, env, x, _, hr, er, e1, fun ρ1 H1 xv s1 hr1 rx => ?_⟩
    rw [toInt_eq e3] at rx
    cases rx
    exact ⟨n, rfl, b1, b2, q ρ1 H1 _ s1 hr1 (walks_r 0 n.toNat)⟩
/-- two arguments -/
theorem arg2 {σ : L2.St} {H : L2.Hp} {R : List V → L2.Hp → Prop} (h : ∃ ρ hp env x y hp1 hp2, HRel X.K ρ hp H ∧ ERel X.K ρ H env σ ∧ ma env hp = some (x, hp1) ∧ mb env hp1 = some (y, hp2) ∧ ∀ ρ' H' v w, Step ρ H ρ' H' → HRel X.K ρ' hp2 H' → RR X.K H ρ' H' x v → RR X.K H ρ' H' y w → R [v, w] H') :
    tMA X.K (fun env => bnd (ma env) fun x => bnd (bnd (mb env) fun x => bnd (ret []) fun xs => ret (x :: xs)) fun xs => ret (x :: xs)) σ H R := by
  obtain ⟨ρ, hp, env, x, y, hp1, hp2, hr, er, e1, e2, q⟩ := h
  refine ⟨ρ, hp, env, [x, y], hp2, hr, er, ?_, fun ρ' H' vs st hr' rx => ?_⟩
  · show bnd (ma env) _ hp = _
    simp only [bnd, e1, e2, ret]
  · obtain ⟨v, w, rfl, r1, r2⟩ := rx.two
    exact q ρ' H' v w st hr' r1 r2
theorem c_iR2 (hg : Gl X "range") (hm : X.mg "range" = none) (h1 : noStar e1 = true) (h2 : noStar e2 = true) (ha : PE X e1 (tM X.K ma)) (hb : PE X e2 (tM X.K mb)) :
    PI X tg (.Call (.Name "range" p) [e1, e2] [] pos) (tMI X.K false fun env => bnd (ma env) fun x => bnd (mb env) fun y => bnd (lift (toInt x)) fun m => bnd (lift (toInt y)) fun n => bnd (chk (decide ((-(2 ^ 62) ≤ m ∧ m < 2 ^ 62) ∧ (-(2 ^ 62) ≤ n ∧ n < 2 ^ 62)))) fun _ => ret (.seq (rangeL m (n - m).toNat))) :=
  PI.imp (pi_range2 hg hm (c_cons h1 ha (c_cons h2 hb c_nil)) (by rw [hst_of h1, hst_of h2] <;> rfl) (by rw [hst_of h2] <;> rfl)) fun σ H R q => by
    obtain ⟨ρ, hp, env, its, hp', hr, er, e, q⟩ := q
    obtain ⟨x, hp1, f1, eq0⟩ := bnd_some e
    obtain ⟨y, hp2, f2, eq1⟩ := bnd_some eq0
    obtain ⟨lo, h1, f3, eq2⟩ := bnd_some eq1
    obtain ⟨f4, rfl⟩ := lift_some f3
    obtain ⟨hi, h1, f5, eq3⟩ := bnd_some eq2
    obtain ⟨f6, rfl⟩ := lift_some f5
    obtain ⟨u, h1, f7, eq4⟩ := bnd_some eq3
    obtain ⟨f8, rfl⟩ := chk_some f7
    cases eq4
    obtain ⟨⟨b1, b2⟩, b3, b4⟩ := of_decide_eq_true f8
    refine arg2 ⟨ρ, hp, env, x, y, hp1, _, hr, er, f1, f2, fun ρ1 H1 v w s1 hr1 rx ry => ?_⟩
    rw [toInt_eq f4] at rx
    rw [toInt_eq f6] at ry
    cases rx
    cases ry
    exact ⟨lo, hi, rfl, ⟨b1, b2, b3, b4⟩, q ρ1 H1 _ s1 hr1 (walks_r lo _)⟩
theorem c_iE (hg : Gl X "enumerate") (hm : X.mg "enumerate" = none) (hs : noStar e = true) (he : PE X e (tM X.K m)) :
    PI X (.Tuple elts kk tpos) (.Call (.Name "enumerate" p) [e] [] pos) (tMI X.K true fun env => bnd (m env) fun x => bnd (look fun h => seqData h x) fun ds => ret (.seq (enumL 0 ds))) :=
  PI.imp (pi_E hg hm (c_cons hs he c_nil) (by rw [hst_of hs] <;> rfl)) fun σ H R q => by
    obtain ⟨ρ, hp, env, its, hp', hr, er, e, q⟩ := q
    obtain ⟨x, hp1, f1, eq0⟩ := bnd_some e
    obtain ⟨ds, h1, f2, eq1⟩ := bnd_some eq0
    obtain ⟨f3, rfl⟩ := look_some f2
    cases eq1
    refine arg1 ⟨ρ, hp, env, x, _, hr, er, f1, fun ρ1 H1 xv s1 hr1 rx => ?_⟩
    obtain ⟨kd, a, vs, rfl, cs, rd⟩ := src hr1 rx f3
    exact ⟨kd, a, vs, rfl, cs ρ1 H1 Step.refl, q ρ1 H1 _ s1 hr1 (walks_E cs rd)⟩
theorem c_iZ (hg : Gl X "zip") (hm : X.mg "zip" = none) (h1 : noStar e1 = true) (h2 : noStar e2 = true) (ha : PE X e1 (tM X.K ma)) (hb : PE X e2 (tM X.K mb)) :
    PI X (.Tuple elts kk tpos) (.Call (.Name "zip" p) [e1, e2] [] pos) (tMI X.K true fun env => bnd (ma env) fun x => bnd (mb env) fun y => bnd (look fun h => seqData h x) fun ds => bnd (look fun h => seqData h y) fun es => ret (.seq (zipL ds es))) :=
  PI.imp (pi_Z2 hg hm (c_cons h1 ha (c_cons h2 hb c_nil)) (hst_of h1) (starEach_any (by simp [h2]))) fun σ H R q => by
    obtain ⟨ρ, hp, env, its, hp', hr, er, e, q⟩ := q
    obtain ⟨x, hp1, f1, eq0⟩ := bnd_some e
    obtain ⟨y, hp2, f2, eq1⟩ := bnd_some eq0
    obtain ⟨ds, h1, f3, eq2⟩ := bnd_some eq1
    obtain ⟨f4, rfl⟩ := look_some f3
    obtain ⟨es, h1, f5, eq3⟩ := bnd_some eq2
    obtain ⟨f6, rfl⟩ := look_some f5
    cases eq3
    refine arg2 ⟨ρ, hp, env, x, y, hp1, _, hr, er, f1, f2, fun ρ1 H1 v w s1 hr1 rx ry => ?_⟩
    obtain ⟨k1, a1, v1, rfl, c1, r1⟩ := src hr1 rx f4
    obtain ⟨k2, a2, v2, rfl, c2, r2⟩ := src hr1 ry f6
    exact ⟨k1, k2, a1, a2, v1, v2, rfl, ⟨c1 ρ1 H1 Step.refl, c2 ρ1 H1 Step.refl⟩, q ρ1 H1 _ s1 hr1 (walks_Z c1 r1 c2 r2)⟩
theorem RRs.three {K : PySem.W.Frag} {H0 H : L2.Hp} {ρ : List Addr} {x y z : RV} {vs : List V} (h : RRs K H0 ρ H [x, y, z] vs) : ∃ v u w, vs = [v, u, w] ∧ RR K H0 ρ H x v ∧ RR K H0 ρ H y u ∧ RR K H0 ρ H z w := by
  cases h with
  | cons a b =>
    obtain ⟨u, w, rfl, r1, r2⟩ := RRs.two b
    exact ⟨_, u, w, rfl, a, r1, r2⟩
theorem arg3 {σ : L2.St} {H : L2.Hp} {R : List V → L2.Hp → Prop} (h : ∃ ρ hp env x y z hp1 hp2 hp3, HRel X.K ρ hp H ∧ ERel X.K ρ H env σ ∧ ma env hp = some (x, hp1) ∧ mb env hp1 = some (y, hp2) ∧ mc env hp2 = some (z, hp3) ∧ ∀ ρ' H' v w u, Step ρ H ρ' H' → HRel X.K ρ' hp3 H' → RR X.K H ρ' H' x v → RR X.K H ρ' H' y w → RR X.K H ρ' H' z u → R [v, w, u] H') :
    tMA X.K (fun env => bnd (ma env) fun x => bnd (bnd (mb env) fun x => bnd (bnd (mc env) fun x => bnd (ret []) fun xs => ret (x :: xs)) fun xs => ret (x :: xs)) fun xs => ret (x :: xs)) σ H R := by
  obtain ⟨ρ, hp, env, x, y, z, hp1, hp2, hp3, hr, er, e1, e2, e3, q⟩ := h
  refine ⟨ρ, hp, env, [x, y, z], hp3, hr, er, ?_, fun ρ' H' vs st hr' rx => ?_⟩
  · show bnd (ma env) _ hp = _
    simp only [bnd, e1, e2, e3, ret]
  · obtain ⟨v, w, u, rfl, r1, r2, r3⟩ := rx.three
    exact q ρ' H' v w u st hr' r1 r2 r3
theorem c_iZ3 (hg : Gl X "zip") (hm : X.mg "zip" = none) (h1 : noStar e1 = true) (h2 : noStar e2 = true) (h3 : noStar e3 = true) (ha : PE X e1 (tM X.K ma)) (hb : PE X e2 (tM X.K mb)) (hc : PE X e3 (tM X.K mc)) :
    PI X (.Tuple elts kk tpos) (.Call (.Name "zip" p) [e1, e2, e3] [] pos) (tMI X.K true fun env => bnd (ma env) fun x => bnd (mb env) fun y => bnd (mc env) fun z => bnd (look fun h => seqData h x) fun ds => bnd (look fun h => seqData h y) fun es => bnd (look fun h => seqData h z) fun fs => ret (.seq (zip3L ds es fs))) :=
  PI.imp (pi_Z3 hg hm (c_cons h1 ha (c_cons h2 hb (c_cons h3 hc c_nil))) (hst_of h1) (starEach_any (by simp [h2, h3]))) fun σ H R q => by
    obtain ⟨ρ, hp, env, its, hp', hr, er, e, q⟩ := q
    obtain ⟨x, hp1, f1, eq0⟩ := bnd_some e
    obtain ⟨y, hp2, f2, eq1⟩ := bnd_some eq0
    obtain ⟨z, hp3, f3, eq2⟩ := bnd_some eq1
    obtain ⟨ds, h1, f4, eq3⟩ := bnd_some eq2
    obtain ⟨f5, rfl⟩ := look_some f4
    obtain ⟨es, h1, f6, eq4⟩ := bnd_some eq3
    obtain ⟨f7, rfl⟩ := look_some f6
    obtain ⟨fs, h1, f8, eq5⟩ := bnd_some eq4
    obtain ⟨f9, rfl⟩ := look_some f8
    cases eq5
    refine arg3 ⟨ρ, hp, env, x, y, z, hp1, hp2, _, hr, er, f1, f2, f3, fun ρ1 H1 v w u s1 hr1 rx ry rz => ?_⟩
    obtain ⟨k1, a1, v1, rfl, c1, r1⟩ := src hr1 rx f5
    obtain ⟨k2, a2, v2, rfl, c2, r2⟩ := src hr1 ry f7
    obtain ⟨k3, a3, v3, rfl, c3, r3⟩ := src hr1 rz f9
    exact ⟨k1, k2, k3, a1, a2, a3, v1, v2, v3, rfl, ⟨c1 ρ1 H1 Step.refl, c2 ρ1 H1 Step.refl, c3 ρ1 H1 Step.refl⟩, q ρ1 H1 _ s1 hr1 (walks_Z3 c1 r1 c2 r2 c3 r3)⟩
end
end Ev

set_option Elab.async false
set_option linter.all false
set_option maxRecDepth 100000
set_option maxHeartbeats 4000000
/-! Snd11: targets; comprehensions. -/
namespace Ev
open PySem PySem.Spec PyProof.Rows L2
/-- nothing but these slots is changed -/
def Same (l : List Nat) (σ σ' : L2.St) : Prop := σ'.length = σ.length ∧ ∀ j, j ∉ l → σ'[j]? = σ[j]?
theorem Same.trans {l m : List Nat} {σ σ1 σ2 : L2.St} (a : Same l σ σ1) (b : Same m σ1 σ2) : Same (l ++ m) σ σ2 :=
  ⟨b.1.trans a.1, fun j hj => by
    rw [List.mem_append, not_or] at hj
    exact (b.2 j hj.2).trans (a.2 j hj.1)⟩
theorem Same.set {i : Nat} {σ : L2.St} {v : Option V} : Same [i] σ (σ.set i v) := ⟨by simp, fun j hj => by
  rw [List.getElem?_set_ne]
  exact fun z => hj (by rw [z]; simp)⟩
theorem Same.refl {σ : L2.St} : Same [] σ σ := ⟨rfl, fun _ _ => rfl⟩
section
variable {K : PySem.W.Frag} {ρ : List Addr} {H : L2.Hp}
theorem ERel.set {env env' : Env} {σ : L2.St} {i : Nat} {x : HV} {v : V} (er : ERel K ρ H env σ) (e : setAt env i x = some env') (r : RH K ρ H x v) : ERel K ρ H env' (σ.set i (some v)) := by
  unfold setAt at e
  split at e
  · rename_i hi
    cases e
    refine ⟨by simp [er.len], fun j y h => ?_⟩
    by_cases hj : i = j
    · subst hj
      rw [List.getElem?_set_self hi] at h
      cases h
      exact ⟨v, by rw [List.getElem?_set_self (by rw [← er.len]; exact hi)], r⟩
    · rw [List.getElem?_set_ne hj] at h
      obtain ⟨w, h1, h2⟩ := er.at_ j y h
      exact ⟨w, by rw [List.getElem?_set_ne hj]; exact h1, h2⟩
  · cases e
/-! ### targets -/
def tMG (K : PySem.W.Frag) (w : Bool) (t : Tg) : TG := fun v σ H Q => ∃ ρ env x env', ERel K ρ H env σ ∧ ItemR K w ρ H x v ∧ store t x env = some env' ∧ ∀ σ', ERel K ρ H env' σ' → Same t.slots σ σ' → Q σ' H
def tMGs (K : PySem.W.Frag) (ts : List Tg) : TGs := fun vs σ H Q => ∃ ρ env xs env', ERel K ρ H env σ ∧ RHs K ρ H xs vs ∧ storeAll ts xs env = some env' ∧ ∀ σ', ERel K ρ H env' σ' → Same (slotsAll ts) σ σ' → Q σ' H
end
theorem PG.imp {X : Cx} {tg : Expr} {t t' : TG} (h : PG X tg t) (i : ∀ v σ H Q, t' v σ H Q → t v σ H Q) : PG X tg t' := ⟨fun pins s σ H v u Q I r q => h.run pins s σ H v u Q I r (i v σ H Q q)⟩
theorem PGs.imp {X : Cx} {tg : List Expr} {t t' : TGs} (h : PGs X tg t) (i : ∀ v σ H Q, t' v σ H Q → t v σ H Q) : PGs X tg t' := ⟨fun pins s σ H v u Q I r q => h.run pins s σ H v u Q I r (i v σ H Q q)⟩
theorem each_cons {e : Expr} {es : List Expr} {env : PySem.Env} (h : noStar e = true) : assignEach (e :: es) env = (false, assign e env) :: assignEach es env := by
  cases e <;> first | rfl | cases h
theorem each_len {es : List Expr} {env : PySem.Env} (h : es.all noStar = true) : (assignEach es env).length = es.length := by
  induction es with
  | nil => rfl
  | cons e es ih =>
    simp only [List.all_cons, Bool.and_eq_true] at h
    rw [each_cons h.1, List.length_cons, List.length_cons, ih h.2]
theorem each_find {es : List Expr} {env : PySem.Env} (h : es.all noStar = true) : (assignEach es env).findIdx? (·.1) = none := by
  induction es with
  | nil => rfl
  | cons e es ih =>
    simp only [List.all_cons, Bool.and_eq_true] at h
    rw [each_cons h.1, List.findIdx?_cons, if_neg (by simp), ih h.2]
    rfl
section
variable {X : Cx} {e : Expr} {es : List Expr} {pos : Pos} {t : Tg} {ts : List Tg}
theorem c_tgName {i : Nat} {x : Str} (hN : X.N.Nodup) (hi : X.N[i]? = some x) (hx : Loc X.env.scope x) (hf : X.fn x = true ∨ X.env.scope.names.lookup x = some .local) : PG X (.Name x pos) (tMG X.K false (.name i)) :=
  PG.imp (pg_name hN hi hx hf) fun v σ H Q q => by
    obtain ⟨ρ, env, y, env', er, r, e, q⟩ := q
    rcases r with r | ⟨z, _⟩
    · exact q _ (er.set e r) Same.set
    · cases z
theorem c_tgTup {w : Bool} {k : Nat} (hc : X.calm = true) (hs : es.all noStar = true) (hl : es.length = ts.length) (h : PGs X es (tMGs X.K ts)) : PG X (.Tuple es k pos) (tMG X.K w (.tup ts)) :=
  PG.imp (pg_tup hc h (each_len hs) (each_find hs)) fun v σ H Q q => by
    obtain ⟨ρ, env, y, env', er, r, e, q⟩ := q
    have sq : ∃ ds a vs, y = .d (.tuple ds) ∧ v = .ref a ∧ SqT X.K H a vs ∧ RDs X.K H ds vs := by
      rcases r with r | ⟨_, r⟩
      · unfold store at e
        split at e
        · rename_i ds
          obtain ⟨a, vs, rfl, h1, h2⟩ := r
          exact ⟨ds, a, vs, rfl, rfl, h1.sq, h2⟩
        · cases e
      · exact r
    obtain ⟨ds, a, vs, rfl, rfl, h1, h2⟩ := sq
    unfold store at e
    dsimp only at e
    split at e
    · rename_i hd
      exact ⟨a, vs, rfl, h1, by rw [← h2.length, hd, hl], ρ, env, ds.map .d, env', er, h2.rhs, e, fun σ' er' sm => q σ' er' sm⟩
    · cases e
theorem c_tgNil : PGs X [] (tMGs X.K []) := PGs.imp pgs_nil fun v σ H Q q => by
  obtain ⟨ρ, env, xs, env', er, r, e, q⟩ := q
  unfold storeAll at e
  split at e
  · cases e
    cases r
    exact ⟨rfl, q σ er Same.refl⟩
  · rename_i h
    cases h
  · cases e
theorem c_tgCons (hs : noStar e = true) (h1 : PG X e (tMG X.K false t)) (h2 : PGs X es (tMGs X.K ts)) : PGs X (e :: es) (tMGs X.K (t :: ts)) :=
  PGs.imp (pgs_cons h1 h2 (by rw [each_cons hs] <;> rfl)) fun v σ H Q q => by
    obtain ⟨ρ, env, xs, env', er, r, e, q⟩ := q
    cases xs with
    | nil => cases e
    | cons x xs =>
      simp only [storeAll] at e
      cases e1 : store t x env with
      | none => rw [e1] at e; cases e
      | some env1 =>
        rw [e1] at e
        cases r with
        | cons a b =>
          refine ⟨_, _, rfl, ρ, env, x, env1, er, .inl a, e1, fun σ1 er1 s1 => ⟨ρ, env1, xs, env', er1, b, e, fun σ2 er2 s2 => q σ2 er2 (s1.trans s2)⟩⟩
end
/-! ### comprehensions -/
theorem wipe_get (σ : L2.St) (j : Nat) : ∀ vs : List Nat, j ∈ vs → j < σ.length → (L2.wipe σ vs)[j]? = some none
  | [], h, _ => by cases h
  | v :: vs, h, hj => by
    unfold L2.wipe
    by_cases e : v = j
    · subst e
      rw [List.getElem?_set_self (by rw [wipe_length]; exact hj)]
    · rw [List.getElem?_set_ne e]
      rcases List.mem_cons.mp h with h | h
      · exact absurd h.symm e
      · exact wipe_get σ j vs h hj
theorem wipe_ext {σ σ' : L2.St} {vs : List Nat} (hl : σ'.length = σ.length) (h : ∀ j, j ∉ vs → σ'[j]? = σ[j]?) : L2.wipe σ' vs = L2.wipe σ vs := by
  apply List.ext_getElem?
  intro j
  by_cases hj : j ∈ vs
  · by_cases hlt : j < σ.length
    · rw [wipe_get σ j vs hj hlt, wipe_get σ' j vs hj (by omega)]
    · rw [List.getElem?_eq_none (by rw [wipe_length]; omega), List.getElem?_eq_none (by rw [wipe_length]; omega)]
  · rw [wipe_out hj, wipe_out hj, h j hj]
theorem wipe_wipe (σ : L2.St) (vs : List Nat) : L2.wipe (L2.wipe σ vs) vs = L2.wipe σ vs := wipe_ext (wipe_length σ vs) fun j hj => wipe_out hj
theorem ev_wipe_some {env : Env} {i : Nat} {x : HV} : ∀ {vs : List Nat}, (Ev.wipe env vs)[i]? = some (some x) → env[i]? = some (some x) ∧ i ∉ vs
  | [], h => ⟨h, by simp⟩
  | v :: vs, h => by
    unfold Ev.wipe at h
    by_cases hi : v = i
    · subst hi
      by_cases hv : v < (Ev.wipe env vs).length
      · rw [List.getElem?_set_self hv] at h; cases h
      · rw [List.getElem?_eq_none (by rw [List.length_set]; omega)] at h; cases h
    · rw [List.getElem?_set_ne hi] at h
      obtain ⟨h1, h2⟩ := ev_wipe_some h
      exact ⟨h1, fun z => (List.mem_cons.mp z).elim (fun z => hi z.symm) h2⟩
theorem ev_wipe_len (env : Env) : ∀ vs : List Nat, (Ev.wipe env vs).length = env.length
  | [] => rfl
  | v :: vs => by unfold Ev.wipe; rw [List.length_set, ev_wipe_len env vs]
theorem ERel.wipe {K : PySem.W.Frag} {ρ : List Addr} {H : L2.Hp} {env : Env} {σ : L2.St} (er : ERel K ρ H env σ) (vs : List Nat) : ERel K ρ H (Ev.wipe env vs) (L2.wipe σ vs) := by
  refine ⟨by rw [ev_wipe_len, wipe_length, er.len], fun i x h => ?_⟩
  obtain ⟨h1, h2⟩ := ev_wipe_some h
  obtain ⟨v, h3, h4⟩ := er.at_ i x h1
  exact ⟨v, by rw [wipe_out h2]; exact h3, h4⟩
/-- what is left of a comprehension's turns -/
def RestC (turn : HV → M (Option HV)) : Its → Nat → Nat → Hp → List HV × Hp → Prop
  | .seq xs, i, m, hp, r => m = xs.length - i ∧ i ≤ xs.length ∧ compSeq turn (xs.drop i) hp = some r
  | .live n, i, m, hp, r => compLive turn n m i hp = some r
theorem restC_start {turn : HV → M (Option HV)} {its : Its} {hp : Hp} {r : List HV × Hp} (e : compV turn its hp = some r) : ∃ m, RestC turn its 0 m hp r := by
  cases its with
  | seq xs => exact ⟨xs.length, rfl, Nat.zero_le _, e⟩
  | live n => exact ⟨_, e⟩
theorem restC_turn {turn : HV → M (Option HV)} {its : Its} {i m : Nat} {hp : Hp} {r : List HV × Hp} (h : RestC turn its i m hp r) :
    ∃ xs, itsNow its hp = some xs ∧ (i ≤ xs.length ∨ ∃ n, its = .live n) ∧
      ((xs[i]? = none ∧ r = ([], hp)) ∨ ∃ x o hp1 r1, xs[i]? = some x ∧ turn x hp = some (o, hp1) ∧ (∃ m1, m1 < m ∧ RestC turn its (i + 1) m1 hp1 r1) ∧ r = ((match o with | some y => y :: r1.1 | none => r1.1), r1.2)) := by
  cases its with
  | seq xs =>
    obtain ⟨rfl, hi, e⟩ := h
    refine ⟨xs, rfl, .inl hi, ?_⟩
    by_cases hl : i < xs.length
    · rw [List.drop_eq_getElem_cons hl] at e
      obtain ⟨o, hp1, e1, e2⟩ := bnd_some e
      obtain ⟨ys, hp2, e3, e4⟩ := bnd_some e2
      cases e4
      exact .inr ⟨xs[i], o, hp1, (ys, _), List.getElem?_eq_getElem hl, e1, ⟨xs.length - (i + 1), by omega, rfl, hl, e3⟩, rfl⟩
    · rw [List.drop_eq_nil_of_le (by omega)] at e
      cases e
      exact .inl ⟨List.getElem?_eq_none (by omega), rfl⟩
  | live n =>
    cases m with
    | zero => cases h
    | succ m =>
      have h : compLive turn n (m + 1) i hp = some r := h
      unfold compLive at h
      split at h
      · rename_i xs ex
        refine ⟨xs, by simp only [itsNow, ex], .inr ⟨n, rfl⟩, ?_⟩
        split at h
        · rename_i x ex2
          obtain ⟨o, hp1, e1, e2⟩ := bnd_some h
          obtain ⟨ys, hp2, e3, e4⟩ := bnd_some e2
          cases e4
          exact .inr ⟨x, o, hp1, (ys, _), ex2, e1, ⟨m, Nat.lt_succ_self m, e3⟩, rfl⟩
        · rename_i ex2
          cases h
          exact .inl ⟨ex2, rfl⟩
      · cases h
def compTurn (t : Tg) (mt : Env → M Bool) (me : Env → M RV) (own : List Nat) (env : Env) : HV → M (Option HV) := fun x => bnd (lift (store t x (Ev.wipe env own))) fun env1 => bnd (mt env1) fun b =>
      if b then bnd (me env1) fun y => bnd (lift (hvOf y)) fun v => ret (some v) else ret none
def compM (mi : Env → M Its) (t : Tg) (mt : Env → M Bool) (me : Env → M RV) (own : List Nat) : Env → M RV := fun env => bnd (mi env) fun its => bnd (compV (compTurn t mt me own env) its) fun ys => bnd (chk (lenOk ys.length)) fun _ => ret (.fresh ys)
theorem hvOf_rel {K : PySem.W.Frag} {H0 H : L2.Hp} {ρ : List Addr} {y : RV} {x : HV} {v : V} (e : hvOf y = some x) (r : RR K H0 ρ H y v) : RH K ρ H x v := by
  cases y with
  | hv z => cases e; exact r
  | fresh _ => cases e
theorem RH.upd {K : PySem.W.Frag} {ρ : List Addr} {H : L2.Hp} {D : Addr} {l l' : List V} (h : H D = some (.lst l)) {x : HV} {v : V} (r : RH K ρ H x v) : RH K ρ (L2.upd H D (.lst l')) x v := by
  have im : ∀ b o, H b = some o → Imm o → (L2.upd H D (.lst l')) b = some o := fun b o e i => by
    rw [upd_ne fun z => by rw [z, h] at e; cases e; exact i]
    exact e
  cases x with
  | d x => exact RD.mono im x v r
  | ref n => exact r
  | scr ns =>
    obtain ⟨a, h1, h2⟩ := r
    exact ⟨a, h1, h2.mono im⟩
  | ty n => exact r
theorem HRel.upd {K : PySem.W.Frag} {ρ : List Addr} {hp : Hp} {H : L2.Hp} {D : Addr} {l l' : List V} (h : H D = some (.lst l)) (hd : D ∉ ρ) (hr : HRel K ρ hp H) : HRel K ρ hp (L2.upd H D (.lst l')) := by
  refine ⟨hr.len, hr.nd, fun n o a e1 e2 => ?_⟩
  have na : a ≠ D := fun z => hd (by rw [← z]; exact List.mem_of_getElem? e2)
  have ro := hr.ob n o a e1 e2
  have im : ∀ b o, H b = some o → Imm o → (L2.upd H D (.lst l')) b = some o := fun b o e i => by
    rw [upd_ne fun z => by rw [z, h] at e; cases e; exact i]
    exact e
  cases o with
  | lst xs =>
    obtain ⟨vs, e, r⟩ := ro
    exact ⟨vs, by rw [upd_ne na]; exact e, Paired.mapP r fun _ _ q => RH.upd h q⟩
  | frz ds =>
    obtain ⟨o, vs, e, r⟩ := ro
    exact ⟨o, vs, by rw [upd_ne na]; exact e, RDs.mono im _ _ r⟩
  | dic _ => exact ro
theorem ERel.upd {K : PySem.W.Frag} {ρ : List Addr} {H : L2.Hp} {D : Addr} {l l' : List V} (h : H D = some (.lst l)) {env : Env} {σ : L2.St} (er : ERel K ρ H env σ) : ERel K ρ (L2.upd H D (.lst l')) env σ :=
  ⟨er.len, fun i x e => by obtain ⟨v, h1, h2⟩ := er.at_ i x e; exact ⟨v, h1, RH.upd h h2⟩⟩
theorem comp_read {K : PySem.W.Frag} {mi : Env → M Its} {t : Tg} {mt : Env → M Bool} {me : Env → M RV} {own : List Nat} {w : Bool} (hsl : ∀ j ∈ t.slots, j ∈ own) {σ : L2.St} {H : L2.Hp} {Q : VK} (q : tM K (compM mi t mt me own) σ H Q) :
    tLc (tMI K w mi) (tMG K w t) (tMT K mt) (tM K me) own σ H Q := by
  obtain ⟨ρ, hp, env, z, hp', hr, er, e, q⟩ := q
  obtain ⟨its, hp1, e1, eq0⟩ := bnd_some e
  obtain ⟨ys, hp2, e2, eq1⟩ := bnd_some eq0
  obtain ⟨u, h1, e3, eq2⟩ := bnd_some eq1
  obtain ⟨e4, rfl⟩ := chk_some e3
  cases eq2
  refine ⟨ρ, hp, env, its, hp1, hr, er, e1, fun ρ1 H1 J s1 hr1 wk D nD => ?_⟩
  have hle : ys.length ≤ sizeLine := lenOk_le e4
  refine ⟨fun i m G => ∃ ρ2 hpc acc va r, Step ρ1 H1 ρ2 G ∧ HRel K ρ2 hpc G ∧ G D = some (.lst va) ∧ D ∉ ρ2 ∧ RHs K ρ2 G acc va ∧ RestC (compTurn t mt me own env) its i m hpc r ∧ ys = acc ++ r.1 ∧ r.2 = hp', ?_, ?_⟩
  · obtain ⟨m, hm⟩ := restC_start e2
    exact ⟨m, ρ1, hp1, [], [], _, Step.new nD, hr1.new nD, upd_same, hr1.out nD, .nil, hm, rfl, rfl⟩
  · rintro i m G ⟨ρ2, hpc, acc, va, r, st, hrG, eD, dn, rv, rest, ey, er2⟩
    obtain ⟨xs, now, hi, tr⟩ := restC_turn rest
    have wkG := wk ρ2 hpc G i xs st hrG now hi
    have lacc := Paired.length rv
    rcases tr with ⟨en, rfl⟩ | ⟨x, o, hq, r1, ex, et, ⟨m1, hm1, rest1⟩, rfl⟩
    · refine .inl ⟨wkG.2 en, ?_⟩
      cases er2
      rw [List.append_nil] at ey
      subst ey
      refine q ρ2 G _ (s1.trans st) hrG ⟨D, va, rfl, ?_, dn, eD, rv⟩
      cases w0 : H D with
      | none => rfl
      | some ob => exact absurd nD (s1.there D (by rw [w0]; simp))
    · obtain ⟨go, yl⟩ := wkG.1 x ex
      refine .inr ⟨go, fun G' => ∃ m', m' < m ∧ ∃ ρ2 hpc acc va r, Step ρ1 H1 ρ2 G' ∧ HRel K ρ2 hpc G' ∧ G' D = some (.lst va) ∧ D ∉ ρ2 ∧ RHs K ρ2 G' acc va ∧ RestC (compTurn t mt me own env) its (i + 1) m' hpc r ∧ ys = acc ++ r.1 ∧ r.2 = hp', fun G' hG' => hG', fun v G2 y => ?_⟩
      obtain ⟨st2, hr2, it⟩ := yl v G2 y
      obtain ⟨env1, hq1, f1, f2⟩ := bnd_some et
      obtain ⟨f3, rfl⟩ := lift_some f1
      obtain ⟨b, hq2, f4, f5⟩ := bnd_some f2
      have eD2 := st2.keep D _ eD dn
      have st12 := st.trans st2
      have erG : ERel K ρ2 G2 (Ev.wipe env own) (L2.wipe σ own) := (er.mono (s1.trans st12)).wipe own
      refine ⟨ρ2, Ev.wipe env own, x, env1, erG, it, f3, fun σ2 erσ sm => ⟨?_, ?_⟩⟩
      · rw [← wipe_wipe σ own]
        exact wipe_ext sm.1 fun j hj => sm.2 j fun z => hj (hsl j z)
      · refine ⟨ρ2, _, env1, b, hq2, hr2, erσ, f4, fun ρ3 G3 st3 hr3 => ?_⟩
        have eD3 := st3.keep D _ eD2 dn
        have dn3 : D ∉ ρ3 := fun z => by
          obtain ⟨new, rfl, fr⟩ := st3.pre
          rcases List.mem_append.mp z with z | z
          · exact dn z
          · rw [fr D z] at eD2; cases eD2
        have rv3 := (rv.mono st2).mono st3
        have st13 := st12.trans st3
        cases b with
        | false =>
          show ite (false = true) _ _
          rw [if_neg Bool.false_ne_true] at f5 ⊢
          cases f5
          exact ⟨m1, hm1, ρ3, _, acc, va, r1, st13, hr3, eD3, dn3, rv3, rest1, ey, er2⟩
        | true =>
          show ite (true = true) _ _
          rw [if_pos rfl] at f5 ⊢
          obtain ⟨yv, hq3, f6, f7⟩ := bnd_some f5
          obtain ⟨y2, hq4, f8, f9⟩ := bnd_some f7
          obtain ⟨f10, rfl⟩ := lift_some f8
          cases f9
          refine ⟨ρ3, hq2, env1, yv, _, hr3, erσ.mono st3, f6, fun ρ4 G4 v4 st4 hr4 rv4 => ?_⟩
          have eD4 := st4.keep D _ eD3 dn3
          have dn4 : D ∉ ρ4 := fun z => by
            obtain ⟨new, rfl, fr⟩ := st4.pre
            rcases List.mem_append.mp z with z | z
            · exact dn3 z
            · rw [fr D z] at eD3; cases eD3
          have r4 := hvOf_rel f10 rv4
          have st14 := st13.trans st4
          have ey2 : ys = (acc ++ [y2]) ++ r1.1 := by simpa using ey
          refine ⟨va, eD4, ?_, m1, hm1, ρ4, _, acc ++ [y2], va ++ [v4], r1, ⟨st14.pre, fun c ob h hn => ?_, fun c ob h hi => ?_, fun c h => ?_⟩, HRel.upd eD4 dn4 hr4, upd_same, dn4, ?_, rest1, ey2, er2⟩
          · have : ys.length = acc.length + 1 + r1.1.length := by
              have z := congrArg List.length ey2
              rw [z, List.length_append, List.length_append]
              rfl
            omega
          · rw [upd_ne (fun z => by rw [z, nD] at h; cases h)]
            exact st14.keep c ob h hn
          · rw [upd_ne (fun z => by rw [z, nD] at h; cases h)]
            exact st14.imm c ob h hi
          · rw [upd_ne (fun z => h (by rw [z]; exact nD))]
            exact st14.there c h
          · exact Paired.app (Paired.mapP (rv3.mono st4) fun _ _ q => RH.upd eD4 q) (.cons (RH.upd eD4 r4) .nil)
def notSet : Expr → Bool
  | .Set _ _ _ => false
  | _ => true
theorem folded_of {e : Expr} {env : PySem.Env} (h : notSet e = true) : ∀ x, foldedSetIterable e env x = pure x := by
  intro x
  cases e <;> first | rfl | cases h
section
variable {X : Cx} {elt tg iter : Expr} {ifs : List Expr} {scope : Scope} {own : List (Str × Nat)} {pos spos py : Pos} {mi : Env → M Its} {t : Tg} {mt : Env → M Bool} {me : Env → M RV} {w : Bool}
theorem c_comp (hc : X.calm = true) (hN : X.N.Nodup) (hsl : ∀ j ∈ t.slots, j ∈ own.map (·.2)) (hi : PI X tg iter (tMI X.K w mi)) (ok : BlkOk X.N X.env.scope scope own)
    (hg : ∀ (s : Shared) (H : L2.Hp) (C : Addr) (cl : List (Str × Addr)) (fp : List Addr), PG (X.blk s H scope (compEnvC scope cl C X.env) fp) tg (tMG X.K w t)) (ht : ∀ (s : Shared) (H : L2.Hp) (C : Addr) (cl : List (Str × Addr)) (fp : List Addr), PTs (X.blk s H scope (compEnvC scope cl C X.env) fp) ifs (tMT X.K mt))
    (he : ∀ (s : Shared) (H : L2.Hp) (C : Addr) (cl : List (Str × Addr)) (fp : List Addr), PE (X.blk s H scope (compEnvC scope cl C X.env) fp) elt (tM X.K me)) (hs : notSet iter = true) :
    PE X (.ListComp elt [⟨tg, iter, ifs, 0⟩] scope pos) (tM X.K (compM mi t mt me (own.map (·.2)))) :=
  PE.imp (pe_lc hc hN hi ok hg ht he (folded_of hs)) fun σ H Q q => comp_read hsl q
end
end Ev

set_option Elab.async false
set_option linter.all false
set_option maxRecDepth 100000
set_option maxHeartbeats 4000000
/-! Snd12: statements. -/
namespace Ev
open PySem PySem.Spec PyProof.Rows L2
def FlR (K : PySem.W.Frag) (H0 : L2.Hp) (ρ : List Addr) (H : L2.Hp) (f : Fl) (env' : Env) (hp' : Hp) (D : Ends) : Prop := match f with
  | .nx => ∀ ρ' H' σ', Step ρ H ρ' H' → HRel K ρ' hp' H' → ERel K ρ' H' env' σ' → D.nx σ' H'
  | .bk => ∀ ρ' H' σ', Step ρ H ρ' H' → HRel K ρ' hp' H' → ERel K ρ' H' env' σ' → D.bk σ' H'
  | .ct => ∀ ρ' H' σ', Step ρ H ρ' H' → HRel K ρ' hp' H' → ERel K ρ' H' env' σ' → D.ct σ' H'
  | .rt x => ∀ ρ' H' v, Step ρ H ρ' H' → HRel K ρ' hp' H' → RR K H0 ρ' H' x v → D.rt v H'
def tMS (K : PySem.W.Frag) (H0 : L2.Hp) (m : Env → M (Fl × Env)) : TS := fun D σ H => ∃ ρ hp env f env' hp', Le H0 H ∧ HRel K ρ hp H ∧ ERel K ρ H env σ ∧ m env hp = some ((f, env'), hp') ∧ FlR K H0 ρ H f env' hp' D
theorem FlR.mono {K : PySem.W.Frag} {H0 H H1 : L2.Hp} {ρ ρ1 : List Addr} {f : Fl} {env' : Env} {hp' : Hp} {D : Ends} (st : Step ρ H ρ1 H1) (h : FlR K H0 ρ H f env' hp' D) : FlR K H0 ρ1 H1 f env' hp' D := by
  cases f with
  | nx => exact fun ρ' H' σ' s hr er => h ρ' H' σ' (st.trans s) hr er
  | bk => exact fun ρ' H' σ' s hr er => h ρ' H' σ' (st.trans s) hr er
  | ct => exact fun ρ' H' σ' s hr er => h ρ' H' σ' (st.trans s) hr er
  | rt x => exact fun ρ' H' v s hr r => h ρ' H' v (st.trans s) hr r
theorem PS.imp {X : Cx} {e : Stmt} {t t' : TS} (h : PS X e t) (i : ∀ D σ H, t' D σ H → t D σ H) : PS X e t' := ⟨fun pins s σ H D I q => h.run pins s σ H D I (i D σ H q)⟩
theorem PSs.imp {X : Cx} {e : List Stmt} {t t' : TS} (h : PSs X e t) (i : ∀ D σ H, t' D σ H → t D σ H) : PSs X e t' := ⟨fun pins s σ H D I q => h.run pins s σ H D I (i D σ H q)⟩
section
variable {X : Cx} {H0 : L2.Hp} {e o i : Expr} {es : List Expr} {st : Stmt} {rest : List Stmt} {m mo mi : Env → M RV} {ms : Env → M (List RV)} {pos spos : Pos} {ma mb : Env → M (Fl × Env)}
def seqM (ma mb : Env → M (Fl × Env)) : Env → M (Fl × Env) := fun env => bnd (ma env) fun p => match p.1 with
    | .nx => mb p.2
    | .rt v => ret (.rt v, p.2)
    | .bk => ret (.bk, p.2)
    | .ct => ret (.ct, p.2)
theorem c_stNil : PSs X [] (tMS X.K H0 fun env => ret (.nx, env)) := PSs.imp pss_nil fun D σ H q => by
  obtain ⟨ρ, hp, env, f, env', hp', le, hr, er, e, q⟩ := q
  cases e
  exact q ρ H σ Step.refl hr er
theorem c_stCons (h1 : PS X st (tMS X.K H0 ma)) (h2 : PSs X rest (tMS X.K H0 mb)) : PSs X (st :: rest) (tMS X.K H0 (seqM ma mb)) := PSs.imp (pss_cons h1 h2) fun D σ H q => by
  obtain ⟨ρ, hp, env, f, env', hp', le, hr, er, e, q⟩ := q
  obtain ⟨⟨f1, env1⟩, hp1, e1, e2⟩ := bnd_some e
  refine ⟨ρ, hp, env, f1, env1, hp1, le, hr, er, e1, ?_⟩
  cases f1 with
  | nx => exact fun ρ1 H1 σ1 s1 hr1 er1 => ⟨ρ1, hp1, env1, f, env', hp', le.step s1, hr1, er1, e2, q.mono s1⟩
  | rt v => cases e2; exact q
  | bk => cases e2; exact q
  | ct => cases e2; exact q
theorem c_brk : PS X (.Break pos) (tMS X.K H0 fun env => ret (.bk, env)) := PS.imp ps_break fun D σ H q => by
  obtain ⟨ρ, hp, env, f, env', hp', le, hr, er, e, q⟩ := q
  cases e
  exact q ρ H σ Step.refl hr er
theorem c_cont : PS X (.Continue pos) (tMS X.K H0 fun env => ret (.ct, env)) := PS.imp ps_continue fun D σ H q => by
  obtain ⟨ρ, hp, env, f, env', hp', le, hr, er, e, q⟩ := q
  cases e
  exact q ρ H σ Step.refl hr er
theorem c_pass : PS X (.Pass pos) (tMS X.K H0 fun env => ret (.nx, env)) := PS.imp ps_pass fun D σ H q => by
  obtain ⟨ρ, hp, env, f, env', hp', le, hr, er, e, q⟩ := q
  cases e
  exact q ρ H σ Step.refl hr er
theorem c_never : PS X st (tMS X.K H0 fun _ => stuck) := PS.imp ps_never fun D σ H q => by
  obtain ⟨ρ, hp, env, f, env', hp', le, hr, er, e, q⟩ := q
  cases e
def notComp : Expr → Bool
  | .ListComp _ _ _ _ => false
  | .SetComp _ _ _ _ => false
  | .DictComp _ _ _ _ _ => false
  | _ => true
theorem sw_no {e : Expr} {t : Option Expr} {l : Nat} {env : PySem.Env} (h : notComp e = true) : swapsWith e t l env = pure false := by
  cases e <;> first | rfl | cases h
theorem c_expr (hs : notComp e = true) (he : PE X e (tM X.K m)) : PS X (.Expr e pos) (tMS X.K H0 fun env => bnd (m env) fun _ => ret (.nx, env)) := PS.imp (ps_expr he (sw_no hs)) fun D σ H q => by
  obtain ⟨ρ, hp, env, f, env', hp', le, hr, er, e, q⟩ := q
  obtain ⟨x, hp1, e1, e2⟩ := bnd_some e
  cases e2
  exact ⟨ρ, hp, env, x, _, hr, er, e1, fun ρ1 H1 v s1 hr1 _ => q ρ1 H1 σ s1 hr1 (er.mono s1)⟩
theorem c_ret (he : PE X e (tM X.K m)) : PS X (.Return (some e) pos) (tMS X.K H0 fun env => bnd (m env) fun x => ret (.rt x, env)) := PS.imp (ps_ret he) fun D σ H q => by
  obtain ⟨ρ, hp, env, f, env', hp', le, hr, er, e, q⟩ := q
  obtain ⟨x, hp1, e1, e2⟩ := bnd_some e
  cases e2
  exact ⟨ρ, hp, env, x, _, hr, er, e1, fun ρ1 H1 v s1 hr1 rv => q ρ1 H1 v s1 hr1 (RR.base le rv)⟩
theorem c_if {c : Expr} {a b : List Stmt} {mt : Env → M Bool} (hc : PT X c (tMT X.K mt)) (ha : PSs X a (tMS X.K H0 ma)) (hb : PSs X b (tMS X.K H0 mb)) : PS X (.If c a b pos) (tMS X.K H0 fun env => bnd (mt env) fun r => if r then ma env else mb env) := PS.imp (ps_if hc ha hb) fun D σ H q => by
  obtain ⟨ρ, hp, env, f, env', hp', le, hr, er, e, q⟩ := q
  obtain ⟨r, hp1, e1, e2⟩ := bnd_some e
  refine ⟨ρ, hp, env, r, hp1, hr, er, e1, fun ρ1 H1 s1 hr1 => ?_⟩
  cases r with
  | true => exact ⟨ρ1, hp1, env, f, env', hp', le.step s1, hr1, er.mono s1, e2, q.mono s1⟩
  | false => exact ⟨ρ1, hp1, env, f, env', hp', le.step s1, hr1, er.mono s1, e2, q.mono s1⟩
/-! ### assignments -/
def tMAt (K : PySem.W.Frag) (m : HV → Env → M Env) : TG := fun v σ H Q => ∃ ρ hp env x env' hp', HRel K ρ hp H ∧ ERel K ρ H env σ ∧ RH K ρ H x v ∧ m x env hp = some (env', hp') ∧ ∀ ρ' H' σ', Step ρ H ρ' H' → HRel K ρ' hp' H' → ERel K ρ' H' env' σ' → Q σ' H'
def tMAts (K : PySem.W.Frag) (m : List HV → Env → M Env) : TGs := fun vs σ H Q => ∃ ρ hp env xs env' hp', HRel K ρ hp H ∧ ERel K ρ H env σ ∧ RHs K ρ H xs vs ∧ m xs env hp = some (env', hp') ∧ ∀ ρ' H' σ', Step ρ H ρ' H' → HRel K ρ' hp' H' → ERel K ρ' H' env' σ' → Q σ' H'
theorem c_atName {i : Nat} {x : Str} (hN : X.N.Nodup) (hi : X.N[i]? = some x) (hx : Loc X.env.scope x) (hf : X.fn x = true ∨ X.env.scope.names.lookup x = some .local) : PG X (.Name x pos) (tMAt X.K fun v env => lift (setAt env i v)) :=
  PG.imp (pg_name hN hi hx hf) fun v σ H Q q => by
    obtain ⟨ρ, hp, env, y, env', hp', hr, er, r, e, q⟩ := q
    obtain ⟨e1, rfl⟩ := lift_some e
    exact q ρ H _ Step.refl hr (er.set e1 r)
def subM (mo mi : Env → M RV) : HV → Env → M Env := fun v env => bnd (mo env) fun x => bnd (mi env) fun y => bnd (lift (toInt y)) fun j => bnd (setIx x j v) fun _ => ret env
theorem Paired.rev {α β : Type} {F : α → β → Prop} : ∀ {l : List α} {m : List β}, Paired F l m → Paired F l.reverse m.reverse
  | _, _, .nil => .nil
  | _, _, .cons a b => by
    rw [List.reverse_cons, List.reverse_cons]
    exact Paired.app (Paired.rev b) (.cons a .nil)
theorem Paired.set' {α β : Type} {F : α → β → Prop} {x : α} {y : β} (f : F x y) : ∀ {l : List α} {m : List β} (n : Nat), Paired F l m → Paired F (l.set n x) (m.set n y)
  | _, _, _, .nil => .nil
  | _, _, 0, .cons a b => .cons f b
  | _, _, n + 1, .cons a b => .cons a (Paired.set' f n b)
def notSlice : Expr → Bool
  | .Slice _ _ _ _ => false
  | .Tuple _ _ _ => false
  | .Starred _ _ => false
  | _ => true
theorem sub_assign {v : Value} (hi : notSlice i = true) : assign (.Subscript o i pos) X.env v = (do
      let ov ← holding [v] (eval o X.env)
      let iv ← holding [v, ov] (eval i X.env)
      standAt pos
      holding [v, ov, iv] (setItem ov iv v)
      release [v, ov, iv] []) := by
  cases i <;> first | rfl | cases hi
theorem c_atSub (hpi : notSlice i = true) (ho : PE X o (tM X.K mo)) (hi : PE X i (tM X.K mi)) : PG X (.Subscript o i pos) (tMAt X.K (subM mo mi)) :=
  PG.imp (pg_sub ho hi set_list fun v => sub_assign hpi) fun v σ H Q q => by
    obtain ⟨ρ, hp, env, y, env', hp', hr, er, r, e, q⟩ := q
    obtain ⟨x, hp1, e1, eq0⟩ := bnd_some e
    obtain ⟨z, hp2, e2, eq1⟩ := bnd_some eq0
    obtain ⟨j, h1, e3, eq2⟩ := bnd_some eq1
    obtain ⟨e4, rfl⟩ := lift_some e3
    obtain ⟨u, hp3, e5, eq3⟩ := bnd_some eq2
    cases eq3
    refine ⟨ρ, hp, env, x, hp1, hr, er, e1, fun ρ1 H1 ov s1 hr1 rx => ⟨ρ1, hp1, env, z, _, hr1, er.mono s1, e2, fun ρ2 H2 iv s2 hr2 rz => ?_⟩⟩
    unfold setIx at e5
    split at e5
    · rename_i n
      split at e5
      · rename_i xs ex
        split at e5
        · rename_i k ek
          cases e5
          obtain ⟨a, ha, rfl⟩ := rx.mono s2
          obtain ⟨ws, ea, ra⟩ := hr2.ob n _ a ex ha
          have hl : xs.length = ws.length := Paired.length ra
          rw [toInt_eq e4] at rz
          cases rz
          have s12 := s1.trans s2
          obtain ⟨st, hr3⟩ := wr hr2 ex ha ea (Paired.set' (r.mono s12) k ra)
          rw [place_eq, hl] at ek
          exact ⟨a, ws, j, k, rfl, rfl, ea, ek, q ρ2 _ σ (s12.trans st) hr3 (er.mono (s12.trans st))⟩
        · cases e5
      · cases e5
    · cases e5
theorem c_atNil : PGs X [] (tMAts X.K fun xs env => if xs.isEmpty then ret env else stuck) := PGs.imp pgs_nil fun v σ H Q q => by
  obtain ⟨ρ, hp, env, xs, env', hp', hr, er, r, e, q⟩ := q
  cases r with
  | nil =>
    cases e
    exact ⟨rfl, q ρ H σ Step.refl hr er⟩
  | cons _ _ => cases e
def atCons (ma : HV → Env → M Env) (mb : List HV → Env → M Env) : List HV → Env → M Env := fun xs env => match xs with
  | [] => stuck
  | x :: xs => bnd (ma x env) fun env1 => mb xs env1
theorem c_atCons {m1 : HV → Env → M Env} {m2 : List HV → Env → M Env} (hs : noStar e = true) (h1 : PG X e (tMAt X.K m1)) (h2 : PGs X es (tMAts X.K m2)) : PGs X (e :: es) (tMAts X.K (atCons m1 m2)) :=
  PGs.imp (pgs_cons h1 h2 (by rw [each_cons hs] <;> rfl)) fun v σ H Q q => by
    obtain ⟨ρ, hp, env, xs, env', hp', hr, er, r, e, q⟩ := q
    cases r with
    | nil => cases e
    | cons a b =>
      rename_i x v xs vs
      obtain ⟨env1, hp1, e1, e2⟩ := bnd_some (show bnd (m1 x env) (fun env1 => m2 xs env1) hp = _ from e)
      exact ⟨_, _, rfl, ρ, hp, env, x, env1, hp1, hr, er, a, e1, fun ρ1 H1 σ1 s1 hr1 er1 => ⟨ρ1, hp1, env1, xs, env', hp', hr1, er1, RHs.mono s1 b, e2, fun ρ' H' σ' s2 hr' er' => q ρ' H' σ' (s1.trans s2) hr' er'⟩⟩
/-- a tuple's items to targets -/
theorem c_atTup {k n : Nat} {m2 : List HV → Env → M Env} (hc : X.calm = true) (hs : es.all noStar = true) (hl : es.length = n) (h : PGs X es (tMAts X.K m2)) : PG X (.Tuple es k pos) (tMAt X.K fun v env => bnd (lift (tupOf n v)) fun vs => m2 vs env) :=
  PG.imp (pg_tup hc h (each_len hs) (each_find hs)) fun v σ H Q q => by
    obtain ⟨ρ, hp, env, y, env', hp', hr, er, r, e, q⟩ := q
    obtain ⟨xs, h1, e1, e2⟩ := bnd_some e
    obtain ⟨e3, rfl⟩ := lift_some e1
    unfold tupOf at e3
    split at e3
    · rename_i ds
      split at e3
      · rename_i hd
        cases e3
        obtain ⟨a, vs, rfl, h1, h2⟩ := r
        exact ⟨a, vs, rfl, h1.sq, by rw [← h2.length, hd, hl], ρ, _, env, _, env', hp', hr, er, h2.rhs, e2, q⟩
      · cases e3
    · cases e3
def notTup : Expr → Bool
  | .Tuple _ _ _ => false
  | .List _ _ => false
  | _ => true
def asgM (m : Env → M RV) (g : HV → Env → M Env) : Env → M (Fl × Env) := fun env => bnd (m env) fun x => bnd (lift (hvOf x)) fun v => bnd (g v env) fun env1 => ret (.nx, env1)
theorem asg_read {g : HV → Env → M Env} {D : Ends} {σ : L2.St} {H : L2.Hp} (q : tMS X.K H0 (asgM m g) D σ H) : tAsg (tM X.K m) (tMAt X.K g) D σ H := by
  obtain ⟨ρ, hp, env, f, env', hp', le, hr, er, e, q⟩ := q
  obtain ⟨x, hp1, e1, eq0⟩ := bnd_some e
  obtain ⟨v, h1, e2, eq1⟩ := bnd_some eq0
  obtain ⟨e3, rfl⟩ := lift_some e2
  obtain ⟨env1, hp2, e4, eq2⟩ := bnd_some eq1
  cases eq2
  exact ⟨ρ, hp, env, x, _, hr, er, e1, fun ρ1 H1 xv s1 hr1 rx => ⟨ρ1, _, env, v, _, _, hr1, er.mono s1, hvOf_rel e3 rx, e4, fun ρ' H' σ' s2 hr' er' => q ρ' H' σ' (s1.trans s2) hr' er'⟩⟩
theorem sws_no {tg : Expr} {l : Nat} (h : notComp e = true) : swapsWithSole [tg] e l X.env = pure false := sw_no h
theorem sto_no {tg : Expr} (h : (notTup tg || notTup e) = true) : swappedStores [tg] e X.env = pure none := by
  cases tg <;> first
    | rfl
    | (cases e <;> first | rfl | cases h)
theorem one_each {tg : Expr} (h : noStar tg = true) : (assignEach [tg] X.env).map (·.2) = [assign tg X.env] := by rw [each_cons h] <;> rfl
theorem sws_sub {o i : Expr} {p : Pos} {l : Nat} : swapsWithSole [.Subscript o i p] e l X.env = pure false := by cases e <;> rfl
theorem c_asg {tg : Expr} {g : HV → Env → M Env} (hs : swapsWithSole [tg] e spos.line X.env = pure false) (ht : (notTup tg || notTup e) = true) (h1 : noStar tg = true) (he : PE X e (tM X.K m)) (hg : PG X tg (tMAt X.K g)) : PS X (.Assign [tg] e spos) (tMS X.K H0 (asgM m g)) :=
  PS.imp (ps_asg he hg hs (sto_no ht) (one_each h1)) fun D σ H q => asg_read q
/-- name = [.. for ..] in a def -/
def swB (env : PySem.Env) (scope : Scope) (y : Str) (py pos : Pos) : Bool := env.blockKind == .function && env.kindOf y == some .local && py.line == pos.line && !(scope.names.any fun (n, k) => n == y && (k == .local || k == .cell))
theorem c_asgLc {elt : Expr} {gs : List Comprehension} {scope : Scope} {i : Nat} {y : Str} {py : Pos} (hsw : swB X.env scope y py pos = false) (he : PE X (.ListComp elt gs scope pos) (tM X.K m)) (hN : X.N.Nodup) (hi : X.N[i]? = some y) (hx : Loc X.env.scope y) (hf : X.fn y = true ∨ X.env.scope.names.lookup y = some .local) :
    PS X (.Assign [.Name y py] (.ListComp elt gs scope pos) spos) (tMS X.K H0 (asgM m fun v env => lift (setAt env i v))) :=
  PS.imp (ps_asg he (c_atName hN hi hx hf) (show pure (swB X.env scope y py pos) = pure false by rw [hsw]) (sto_no rfl) (one_each rfl)) fun D σ H q => asg_read q
variable {elt tg iter : Expr} {ifs : List Expr} {scope : Scope} {own : List (Str × Nat)} {py : Pos} {mI : Env → M Its} {t : Tg} {mt : Env → M Bool} {me : Env → M RV} {w : Bool}
/-- the swapped form: the list is stored before its block's frame goes -/
theorem ps_swp {ix : Nat} {y : Str} (hsw : swB X.env scope y py pos = true) (hc : X.calm = true) (hN : X.N.Nodup) (hy : X.N[ix]? = some y) (hyl : X.env.scope.names.lookup y = some .local) (hsl : ∀ j ∈ t.slots, j ∈ own.map (·.2)) (hi : PI X tg iter (tMI X.K w mI)) (ok : BlkOk X.N X.env.scope scope own)
    (hg : ∀ (s : Shared) (H : L2.Hp) (C : Addr) (cl : List (Str × Addr)) (fp : List Addr), PG (X.blk s H scope (compEnvC scope cl C X.env) fp) tg (tMG X.K w t)) (ht : ∀ (s : Shared) (H : L2.Hp) (C : Addr) (cl : List (Str × Addr)) (fp : List Addr), PTs (X.blk s H scope (compEnvC scope cl C X.env) fp) ifs (tMT X.K mt))
    (he : ∀ (s : Shared) (H : L2.Hp) (C : Addr) (cl : List (Str × Addr)) (fp : List Addr), PE (X.blk s H scope (compEnvC scope cl C X.env) fp) elt (tM X.K me)) (hs : notSet iter = true) :
    PS X (.Assign [.Name y py] (.ListComp elt [⟨tg, iter, ifs, 0⟩] scope pos) spos) (tAsg (tM X.K (compM mI t mt me (own.map (·.2)))) (gName ix)) :=
  PS.imp (ps_setLc hc hN hy hyl (show pure (swB X.env scope y py pos) = pure true by rw [hsw]) hi ok hg ht he (folded_of hs)) fun D σ H q => comp_read hsl q
/-- what is known behind an assignment may be told of the value -/
theorem asg_ghost {ix : Nat} {te te' : TE} (h : PS X st (tAsg te (gName ix))) (k : ∀ σ H Q, te' σ H Q → te σ H fun x H1 => Ghost X H1 fun H2 => Q x H2) : PS X st (tAsg te' (gName ix)) := by
  refine ⟨fun pins s σ H D I q => ?_⟩
  have q1 : te' σ H fun x H1 => D.nx (σ.set ix (some x)) H1 := q
  have q2 := k σ H _ q1
  refine thn (h.run pins s σ H { D with nx := fun σ' H' => Ghost X H' fun H2 => D.nx σ' H2 } I q2) fun f s' hq => ?_
  cases f with
  | next =>
    obtain ⟨σ', H', I', g⟩ := hq
    obtain ⟨H2, I2, q3⟩ := g pins σ' s' I'
    exact ⟨σ', H2, I2, q3⟩
  | ret v => exact hq
  | brk => exact hq
  | cont => exact hq
theorem asg_frz {ix : Nat} (h : PS X st (tAsg (tM X.K m) (gName ix))) : PS X st (tAsg (tM X.K fun env => bnd (m env) frzV) (gName ix)) := asg_ghost h fun σ H Q q => frz_read q
theorem asg_new {ix : Nat} (h : PS X st (tAsg (tM X.K m) (gName ix))) : PS X st (tAsg (tM X.K fun env => bnd (m env) newV) (gName ix)) := PS.imp h fun D σ H q => new_read q
theorem asg_end {ix : Nat} (h : PS X st (tAsg (tM X.K m) (gName ix))) : PS X st (tMS X.K H0 (asgM m fun v env => lift (setAt env ix v))) := PS.imp h fun D σ H q => by
  obtain ⟨ρ, hp, env, x, hp1, hr, er, e, q⟩ := asg_read q
  refine ⟨ρ, hp, env, x, hp1, hr, er, e, fun ρ1 H1 xv s1 hr1 rx => ?_⟩
  obtain ⟨ρ2, hp2, env2, y, env', hp', hr2, er2, r2, e2, q2⟩ := q ρ1 H1 xv s1 hr1 rx
  obtain ⟨e3, rfl⟩ := lift_some e2
  exact q2 ρ2 H1 _ Step.refl hr2 (er2.set e3 r2)
/-! ### a, b = x, y -/
def parM (ms : Env → M (List RV)) (n : Nat) (g : List HV → Env → M Env) : Env → M (Fl × Env) := fun env => bnd (ms env) fun xs => bnd (lift (hvs? xs)) fun vs => bnd (chk (lenOk vs.length && decide (vs.length = n))) fun _ => bnd (g vs env) fun env1 => ret (.nx, env1)
theorem par_read {n : Nat} {g : List HV → Env → M Env} {D : Ends} {σ : L2.St} {H : L2.Hp} (q : tMS X.K H0 (parM ms n g) D σ H) : tMA X.K ms σ H fun vs H1 => vs.length ≤ sizeLine ∧ vs.length = n ∧ tMAts X.K g vs σ H1 D.nx := by
  obtain ⟨ρ, hp, env, f, env', hp', le, hr, er, e, q⟩ := q
  obtain ⟨xs, hp1, e1, eq0⟩ := bnd_some e
  obtain ⟨vs, h1, e2, eq1⟩ := bnd_some eq0
  obtain ⟨e3, rfl⟩ := lift_some e2
  obtain ⟨u, h1, e4, eq2⟩ := bnd_some eq1
  obtain ⟨e5, rfl⟩ := chk_some e4
  obtain ⟨env1, hp2, e6, eq3⟩ := bnd_some eq2
  cases eq3
  obtain ⟨c1, c2⟩ := Bool.and_eq_true_iff.mp e5
  refine ⟨ρ, hp, env, xs, _, hr, er, e1, fun ρ1 H1 ws s1 hr1 rx => ?_⟩
  have rh := hvs_rel e3 rx
  have hl : vs.length = ws.length := Paired.length rh
  exact ⟨by rw [← hl]; exact lenOk_le c1, by rw [← hl]; exact of_decide_eq_true c2, ρ1, _, env, vs, _, _, hr1, er.mono s1, rh, e6, fun ρ' H' σ' s2 hr' er' => q ρ' H' σ' (s1.trans s2) hr' er'⟩
/-- the tuple is made, then taken apart -/
theorem c_par {ts : List Expr} {k k2 : Nat} {p2 p3 : Pos} {g : List HV → Env → M Env} (hc : X.calm = true) (hw : swappedStores [.Tuple ts k p2] (.Tuple es k2 p3) X.env = pure none) (hs : ts.all noStar = true) (he : PA X es (tMA X.K ms)) (hg : PGs X ts (tMAts X.K g)) :
    PS X (.Assign [.Tuple ts k p2] (.Tuple es k2 p3) spos) (tMS X.K H0 (parM ms ts.length g)) :=
  PS.imp (ps_asg (pe_tupX he) (pg_tup hc hg (each_len hs) (each_find hs)) rfl hw rfl) fun D σ H q => by
    obtain ⟨ρ, hp, env, xs, hp1, hr, er, e, q⟩ := par_read q
    refine ⟨ρ, hp, env, xs, hp1, hr, er, e, fun ρ1 H1 vs s1 hr1 rx => ?_⟩
    obtain ⟨z, hl, ρ2, hp2, env2, ys, env', hp', hr2, er2, r2, e2, q2⟩ := q ρ1 H1 vs s1 hr1 rx
    refine ⟨z, fun p o np d => ?_⟩
    have st : Step ρ2 H1 ρ2 (upd H1 p (.frz o (.tup vs))) := Step.new np
    exact ⟨p, vs, rfl, .inl (.inr ⟨o, upd_same⟩), hl, ρ2, hp2, env2, ys, env', hp', hr2.new np, er2.mono st, RHs.mono st r2, e2, fun ρ' H' σ' s2 hr' er' => q2 ρ' H' σ' (st.trans s2) hr' er'⟩
/-- plain local names, from the right -/
def namesOf : List Expr → Option (List Str)
  | [] => some []
  | .Name x _ :: r => match namesOf r with
    | some xs => some (x :: xs)
    | none => none
  | _ => none
structure PNs (X : Cx) (ns : List Str) (t : TGs) : Prop where
  run : ∀ (pins : List (Addr × Obj)) (s : Shared) (σ : L2.St) (H : L2.Hp) (vs : List V) (us : List Value) (Q : L2.St → L2.Hp → Prop), L2.Inv X pins σ H s → Vals vs us → t vs σ H Q →
    wpAny (model X.prog X.w) X.A (assignInOrder (ns.map fun n => bindName X.env n) us) (fun _ s' => ∃ σ' H', L2.Inv X pins σ' H' s' ∧ Q σ' H') X.xe s
theorem c_nsNil : PNs X [] (tMAts X.K fun xs env => if xs.isEmpty then ret env else stuck) := ⟨fun pins s σ H vs us Q I r q => by
  obtain ⟨ρ, hp, env, xs, env', hp', hr, er, rr, e, q⟩ := q
  cases rr with
  | nil =>
    cases e
    cases r
    exact assignInOrder_nil ⟨σ, H, I, q ρ H σ Step.refl hr er⟩
  | cons _ _ => cases e⟩
theorem c_nsCons {i : Nat} {x : Str} {ns : List Str} {m2 : List HV → Env → M Env} (hN : X.N.Nodup) (hi : X.N[i]? = some x) (hx : Loc X.env.scope x) (hf : X.fn x = true ∨ X.env.scope.names.lookup x = some .local) (h2 : PNs X ns (tMAts X.K m2)) : PNs X (x :: ns) (tMAts X.K (atCons (fun v env => lift (setAt env i v)) m2)) := ⟨fun pins s σ H vs us Q I r q => by
  obtain ⟨ρ, hp, env, xs, env', hp', hr, er, rr, e, q⟩ := q
  cases rr with
  | nil => cases e
  | cons a b =>
    rename_i y v xs vs
    obtain ⟨env1, hp1, e1, e2⟩ := bnd_some (show bnd (lift (setAt env i y)) (fun env1 => m2 xs env1) hp = _ from e)
    obtain ⟨e3, rfl⟩ := lift_some e1
    cases r with
    | cons rv rt =>
      refine assignInOrder_cons (wpAny_bindName (store_ok I hN hi hx rv (fun s2 I2 => ?_) hf))
      exact h2.run pins s2 _ H _ _ Q I2 rt ⟨ρ, _, env1, xs, env', hp', hr, er.set e3 a, b, e2, q⟩⟩
theorem c_parSwp {ts : List Expr} {ns : List Str} {k k2 : Nat} {p2 p3 : Pos} {g : List HV → Env → M Env} (hc : X.calm = true) (hw : swappedStores [.Tuple ts k p2] (.Tuple es k2 p3) X.env = pure (some ns)) (hl : ns.length = ts.length) (he : PA X es (tMA X.K ms)) (hg : PNs X ns.reverse (tMAts X.K g)) :
    PS X (.Assign [.Tuple ts k p2] (.Tuple es k2 p3) spos) (tMS X.K H0 (parM ms ts.length fun vs env => g vs.reverse env)) := by
  refine ⟨fun pins s σ H D I h => ?_⟩
  rw [exec_Assign_arm]
  refine wpAny_bind (wpAny_standAt ?_)
  rw [show swapsWithSole [.Tuple ts k p2] (.Tuple es k2 p3) spos.line X.env = pure false from rfl]
  refine wpAny_bind (wpAny_pure ?_)
  rw [if_neg Bool.false_ne_true]
  refine wpAny_bind (wpAny_Tuple_spliced (thn (he.run _ pins s σ H _ I (par_read h)) fun us t ⟨vs, H1, I1, r1, z, lv, q⟩ => ?_))
  have n1 := r1.length
  refine ⟨by omega, ?_⟩
  have I2 : L2.Inv X pins σ H1 { t with heap := t.heap.push { cls := .type "tuple", data := .seq us.toArray } } := I1.kept (t' := t.toks) fun b o y => Heap.get?_push_of_some _ y
  rw [hw]
  refine wpAny_bind (wpAny_pure ?_)
  show wpAny (model X.prog X.w) X.A (do rule "assign.swapped-stores"; let items ← unpackItems (.ref t.heap.objs.size) ns.length none; assignInOrder (ns.reverse.map fun n => bindName X.env n) items.reverse; pure Flow.next) _ _ _
  have hn : ns.length = us.toArray.size := by rw [List.size_toArray]; omega
  rw [hn]
  refine wpAny_bind (wpAny_rule (wpAny_bind (unpackItems_tuple (items := us.toArray) (I.ok.hd hc) (IsTup.new t.heap _) fun h' hx => ?_)))
  have I3 := I2.kept (h' := h') (t' := t.toks) fun b o y => hx b o (Nat.ne_of_lt (Heap.lt_size y)) y
  obtain ⟨ρ2, hp2, env2, ys, env', hp', hr2, er2, r2, e2, q2⟩ := q
  refine wpAny_bind (thn (hg.run pins _ σ H1 vs.reverse us.reverse D.nx I3 (Paired.rev r1) ⟨ρ2, hp2, env2, ys.reverse, env', hp', hr2, er2, Paired.rev r2, e2, q2⟩) fun _ s' ⟨σ', H', I', q'⟩ => wpAny_pure ⟨σ', H', I', q'⟩)
end
end Ev

set_option Elab.async false
set_option linter.all false
set_option maxRecDepth 100000
set_option maxHeartbeats 4000000
/-! Snd13: op=, for, while. -/
namespace Ev
open PySem PySem.Spec PyProof.Rows L2
section
variable {X : Cx} {H0 : L2.Hp} {e : Expr} {st : Stmt} {body : List Stmt} {m : Env → M RV} {pos p2 : Pos} {mb : Env → M (Fl × Env)}
def augM (i : Nat) (op : BOp) (m : Env → M RV) : Env → M (Fl × Env) := fun env => bnd (lift (getVar env i)) fun v => bnd (m env) fun y => bnd (lift (augV op v y)) fun w => bnd (lift (setAt env i w)) fun env1 => ret (.nx, env1)
theorem aug_int {op : BOp} {v w : HV} {y : RV} (h : augV op v y = some w) : ∃ a b, v = .d (.int a) ∧ y = .hv (.d (.int b)) ∧ ((op = .add ∧ w = .d (.int (a + b))) ∨ (op = .sub ∧ w = .d (.int (a - b)))) := by
  unfold augV at h
  split at h
  · split at h
    · cases h; exact ⟨_, _, rfl, rfl, .inl ⟨rfl, rfl⟩⟩
    · cases h; exact ⟨_, _, rfl, rfl, .inr ⟨rfl, rfl⟩⟩
    · cases h
  · cases h
theorem c_aug {i : Nat} {x : Str} (op : BOp) (hN : X.N.Nodup) (hi : X.N[i]? = some x) (hx : Loc X.env.scope x) (hf : X.fn x = true ∨ X.env.scope.names.lookup x = some .local) (hop : op = .add ∨ op = .sub) (he : PE X e (tM X.K m)) :
    PS X (.AugAssign (.Name x p2) op.tr e pos) (tMS X.K H0 (augM i op m)) := by
  have key : ∀ {f : Int → Int → Int}, (∀ a b w y v, augV op v y = some w → v = .d (.int a) → y = .hv (.d (.int b)) → w = .d (.int (f a b))) → PIp X op.tr (ipI f) → PS X (.AugAssign (.Name x p2) op.tr e pos) (tMS X.K H0 (augM i op m)) := fun {f} hw hp => PS.imp (ps_aug hN hi hx he hp hf) fun D σ H q => by
    obtain ⟨ρ, hp, env, fl, env', hp', le, hr, er, e, q⟩ := q
    obtain ⟨v, h1, e1, eq0⟩ := bnd_some e
    obtain ⟨e2, rfl⟩ := lift_some e1
    obtain ⟨y, hp1, e3, eq1⟩ := bnd_some eq0
    obtain ⟨w, h1, e4, eq2⟩ := bnd_some eq1
    obtain ⟨e5, rfl⟩ := lift_some e4
    obtain ⟨env1, h1, e6, eq3⟩ := bnd_some eq2
    obtain ⟨e7, rfl⟩ := lift_some e6
    cases eq3
    obtain ⟨a, b, ev, ey, _⟩ := aug_int e5
    have ew := hw a b w y v e5 ev ey
    subst ev ey ew
    have gv : env[i]? = some (some (.d (.int a))) := by
      unfold getVar at e2
      split at e2
      · rename_i h; cases e2; exact h
      · cases e2
    obtain ⟨xv, g1, g2⟩ := er.at_ i _ gv
    cases g2
    refine ⟨_, g1, ρ, _, env, _, _, hr, er, e3, fun ρ1 H1 yv s1 hr1 ry => ?_⟩
    cases ry
    exact ⟨a, b, rfl, rfl, q ρ1 H1 _ s1 hr1 ((er.mono s1).set e7 rfl)⟩
  rcases hop with rfl | rfl
  · exact key (f := fun i j => i + j) (fun a b w y v h h1 h2 => by subst h1 h2; cases h; rfl) ip_add
  · exact key (f := fun i j => i - j) (fun a b w y v h h1 h2 => by subst h1 h2; cases h; rfl) ip_sub
/-! ### for -/
def RestF (turn : HV → Env → M (Fl × Env)) : Its → Nat → Nat → Env → Hp → (Fl × Env) × Hp → Prop
  | .seq xs, i, m, env, hp, r => m = xs.length - i ∧ i ≤ xs.length ∧ forSeq turn (xs.drop i) env hp = some r
  | .live n, i, m, env, hp, r => forLive turn n m i env hp = some r
theorem restF_start {turn : HV → Env → M (Fl × Env)} {its : Its} {env : Env} {hp : Hp} {r : (Fl × Env) × Hp} (e : forV turn its env hp = some r) : ∃ m, RestF turn its 0 m env hp r := by
  cases its with
  | seq xs => exact ⟨xs.length, rfl, Nat.zero_le _, e⟩
  | live n => exact ⟨_, e⟩
/-- how a turn ends -/
def TurnEnd (turn : HV → Env → M (Fl × Env)) (its : Its) (i m : Nat) (f : Fl) (env1 : Env) (hp1 : Hp) (r : (Fl × Env) × Hp) : Prop := match f with
  | .nx => ∃ m1, m1 < m ∧ RestF turn its (i + 1) m1 env1 hp1 r
  | .ct => ∃ m1, m1 < m ∧ RestF turn its (i + 1) m1 env1 hp1 r
  | .bk => r = ((.nx, env1), hp1)
  | .rt v => r = ((.rt v, env1), hp1)
theorem restF_turn {turn : HV → Env → M (Fl × Env)} {its : Its} {i m : Nat} {env : Env} {hp : Hp} {r : (Fl × Env) × Hp} (h : RestF turn its i m env hp r) :
    ∃ xs, itsNow its hp = some xs ∧ (i ≤ xs.length ∨ ∃ n, its = .live n) ∧ ((xs[i]? = none ∧ r = ((.nx, env), hp)) ∨ ∃ x f env1 hp1, xs[i]? = some x ∧ turn x env hp = some ((f, env1), hp1) ∧ TurnEnd turn its i m f env1 hp1 r) := by
  cases its with
  | seq xs =>
    obtain ⟨rfl, hi, e⟩ := h
    refine ⟨xs, rfl, .inl hi, ?_⟩
    by_cases hl : i < xs.length
    · rw [List.drop_eq_getElem_cons hl] at e
      obtain ⟨⟨f, env1⟩, hp1, e1, e2⟩ := bnd_some e
      refine .inr ⟨xs[i], f, env1, hp1, List.getElem?_eq_getElem hl, e1, ?_⟩
      cases f with
      | nx => exact ⟨xs.length - (i + 1), by omega, rfl, hl, e2⟩
      | ct => exact ⟨xs.length - (i + 1), by omega, rfl, hl, e2⟩
      | bk => cases e2; rfl
      | rt v => cases e2; rfl
    · rw [List.drop_eq_nil_of_le (by omega)] at e
      cases e
      exact .inl ⟨List.getElem?_eq_none (by omega), rfl⟩
  | live n =>
    cases m with
    | zero => cases h
    | succ m =>
      have h : forLive turn n (m + 1) i env hp = some r := h
      unfold forLive at h
      split at h
      · rename_i xs ex
        refine ⟨xs, by simp only [itsNow, ex], .inr ⟨n, rfl⟩, ?_⟩
        split at h
        · rename_i x ex2
          obtain ⟨⟨f, env1⟩, hp1, e1, e2⟩ := bnd_some h
          refine .inr ⟨x, f, env1, hp1, ex2, e1, ?_⟩
          cases f with
          | nx => exact ⟨m, Nat.lt_succ_self m, e2⟩
          | ct => exact ⟨m, Nat.lt_succ_self m, e2⟩
          | bk => cases e2; rfl
          | rt v => cases e2; rfl
        · rename_i ex2
          cases h
          exact .inl ⟨ex2, rfl⟩
      · cases h
def forM (mi : Env → M Its) (t : Tg) (mb : Env → M (Fl × Env)) : Env → M (Fl × Env) := fun env => bnd (mi env) fun its => forV (fun x env => bnd (lift (store t x env)) fun env1 => mb env1) its env
theorem for_read {mi : Env → M Its} {t : Tg} {w : Bool} {D : Ends} {σ : L2.St} {H : L2.Hp} (q : tMS X.K H0 (forM mi t mb) D σ H) : tFor (tMI X.K w mi) (tMG X.K w t) (tMS X.K H0 mb) D σ H := by
  obtain ⟨ρ, hp, env, fl, env', hp', le, hr, er, e, q⟩ := q
  obtain ⟨its, hp1, e1, e2⟩ := bnd_some e
  refine ⟨ρ, hp, env, its, hp1, hr, er, e1, fun ρ1 H1 J s1 hr1 wk => ?_⟩
  refine ⟨fun i m σ2 G => ∃ ρ2 hpc env2, Step ρ1 H1 ρ2 G ∧ HRel X.K ρ2 hpc G ∧ ERel X.K ρ2 G env2 σ2 ∧ RestF (fun x env => bnd (lift (store t x env)) fun env1 => mb env1) its i m env2 hpc ((fl, env'), hp'), ?_, ?_⟩
  · obtain ⟨m, hm⟩ := restF_start e2
    exact ⟨m, ρ1, hp1, env, Step.refl, hr1, er.mono s1, hm⟩
  · rintro i m σ2 G ⟨ρ2, hpc, env2, stG, hrG, erG, rest⟩
    obtain ⟨xs, now, hi, tr⟩ := restF_turn rest
    have wkG := wk ρ2 hpc G i xs stG hrG now hi
    rcases tr with ⟨en, er2⟩ | ⟨x, f, env3, hp3, ex, et, te⟩
    · cases er2
      exact .inl ⟨wkG.2 en, q ρ2 G σ2 (s1.trans stG) hrG erG⟩
    · obtain ⟨go, yl⟩ := wkG.1 x ex
      refine .inr ⟨go, fun σ' H' => ∃ m', m' < m ∧ ∃ ρ2 hpc env2, Step ρ1 H1 ρ2 H' ∧ HRel X.K ρ2 hpc H' ∧ ERel X.K ρ2 H' env2 σ' ∧ RestF (fun x env => bnd (lift (store t x env)) fun env1 => mb env1) its (i + 1) m' env2 hpc ((fl, env'), hp'), fun σ' H' z => z, fun v G2 y => ?_⟩
      obtain ⟨st2, hr2, it⟩ := yl v G2 y
      obtain ⟨env1, h1, f1, f2⟩ := bnd_some et
      obtain ⟨f3, rfl⟩ := lift_some f1
      have st12 := stG.trans st2
      refine ⟨ρ2, env2, x, env1, erG.mono st2, it, f3, fun σ3 er3 _ => ?_⟩
      refine ⟨ρ2, _, env1, f, env3, hp3, (le.step s1).step st12, hr2, er3, f2, ?_⟩
      cases f with
      | nx =>
        obtain ⟨m1, hm1, rest1⟩ := te
        exact fun ρ4 H4 σ4 s4 hr4 er4 => ⟨m1, hm1, ρ4, hp3, env3, st12.trans s4, hr4, er4, rest1⟩
      | ct =>
        obtain ⟨m1, hm1, rest1⟩ := te
        exact fun ρ4 H4 σ4 s4 hr4 er4 => ⟨m1, hm1, ρ4, hp3, env3, st12.trans s4, hr4, er4, rest1⟩
      | bk =>
        cases te
        exact fun ρ4 H4 σ4 s4 hr4 er4 => q ρ4 H4 σ4 (s1.trans (st12.trans s4)) hr4 er4
      | rt v =>
        cases te
        exact fun ρ4 H4 z s4 hr4 r4 => q ρ4 H4 z (s1.trans (st12.trans s4)) hr4 r4
theorem c_for {tg iter : Expr} {mi : Env → M Its} {t : Tg} {w : Bool} (hx : X.xe = fun _ _ => False) (hc : X.calm = true) (hs : notSet iter = true) (hi : PI X tg iter (tMI X.K w mi)) (hg : PG X tg (tMG X.K w t)) (hb : PSs X body (tMS X.K H0 mb)) :
    PS X (.For tg iter body [] pos) (tMS X.K H0 (forM mi t mb)) :=
  PS.imp (ps_for (by rw [hx]; exact PassesOwn.never) hc hi hg hb (folded_of hs)) fun D σ H q => for_read q
/-! ### while -/
def whileM (fuel : Nat) (mt : Env → M Bool) (mb : Env → M (Fl × Env)) : Env → M (Fl × Env) := whileV mt mb fuel
theorem while_read {fuel : Nat} {mt : Env → M Bool} {D : Ends} {σ : L2.St} {H : L2.Hp} (q : tMS X.K H0 (whileM fuel mt mb) D σ H) : tWhile (tMT X.K mt) (tMS X.K H0 mb) D σ H := by
  obtain ⟨ρ, hp, env, fl, env', hp', le, hr, er, e, q⟩ := q
  refine ⟨fun m σ2 G => ∃ ρ2 hpc env2, Step ρ H ρ2 G ∧ HRel X.K ρ2 hpc G ∧ ERel X.K ρ2 G env2 σ2 ∧ whileV mt mb m env2 hpc = some ((fl, env'), hp'), ⟨fuel, ρ, hp, env, Step.refl, hr, er, e⟩, ?_⟩
  rintro m σ2 G ⟨ρ2, hpc, env2, stG, hrG, erG, rest⟩
  cases m with
  | zero => cases rest
  | succ m =>
    unfold whileV at rest
    obtain ⟨b, hp3, e1, e2⟩ := bnd_some rest
    refine ⟨ρ2, hpc, env2, b, hp3, hrG, erG, e1, fun ρ3 H3 s3 hr3 => ?_⟩
    have st3 := stG.trans s3
    cases b with
    | false =>
      cases e2
      exact q ρ3 H3 σ2 st3 hr3 (erG.mono s3)
    | true =>
      obtain ⟨⟨f, env4⟩, hp4, e3, e4⟩ := bnd_some e2
      refine ⟨fun σ' H' => ∃ m', m' < m + 1 ∧ ∃ ρ2 hpc env2, Step ρ H ρ2 H' ∧ HRel X.K ρ2 hpc H' ∧ ERel X.K ρ2 H' env2 σ' ∧ whileV mt mb m' env2 hpc = some ((fl, env'), hp'), fun σ' H' z => z, ?_⟩
      refine ⟨ρ3, hp3, env2, f, env4, hp4, le.step st3, hr3, erG.mono s3, e3, ?_⟩
      cases f with
      | nx => exact fun ρ4 H4 σ4 s4 hr4 er4 => ⟨m, Nat.lt_succ_self m, ρ4, hp4, env4, st3.trans s4, hr4, er4, e4⟩
      | ct => exact fun ρ4 H4 σ4 s4 hr4 er4 => ⟨m, Nat.lt_succ_self m, ρ4, hp4, env4, st3.trans s4, hr4, er4, e4⟩
      | bk =>
        cases e4
        exact fun ρ4 H4 σ4 s4 hr4 er4 => q ρ4 H4 σ4 (st3.trans s4) hr4 er4
      | rt v =>
        cases e4
        exact fun ρ4 H4 z s4 hr4 r4 => q ρ4 H4 z (st3.trans s4) hr4 r4
theorem c_while {c : Expr} {fuel : Nat} {mt : Env → M Bool} (hx : X.xe = fun _ _ => False) (hc : PT X c (tMT X.K mt)) (hb : PSs X body (tMS X.K H0 mb)) : PS X (.While c body [] pos) (tMS X.K H0 (whileM fuel mt mb)) :=
  PS.imp (ps_while (by rw [hx]; exact PassesOwn.never) hc hb) fun D σ H q => while_read q
end
end Ev

set_option Elab.async false
set_option linter.all false
set_option maxRecDepth 100000
set_option maxHeartbeats 4000000
/-! Snd14: the check that a term of the evaluator stands for a tree of the program. -/
namespace Ev
open PySem PySem.Spec PyProof.Rows L2
mutual
def pdEq : PyData → PyData → Bool
  | .none, .none => true
  | .bool a, .bool b => a == b
  | .int a, .int b => decide (a = b)
  | .str a, .str b => decide (a = b)
  | .list a, .list b => pdEqs a b
  | .tuple a, .tuple b => pdEqs a b
  | _, _ => false
def pdEqs : List PyData → List PyData → Bool
  | [], [] => true
  | a :: as, b :: bs => pdEq a b && pdEqs as bs
  | _, _ => false
end
mutual
theorem pdEq_ok : ∀ {a b : PyData}, pdEq a b = true → a = b
  | .none, b, h => by cases b <;> first | rfl | cases h
  | .bool x, b, h => by cases b <;> first | (rw [eq_of_beq (show (x == _) = true from h)]) | cases h
  | .int x, b, h => by cases b <;> first | (rw [of_decide_eq_true (show decide (x = _) = true from h)]) | cases h
  | .str x, b, h => by cases b <;> first | (rw [of_decide_eq_true (show decide (x = _) = true from h)]) | cases h
  | .list x, b, h => by cases b <;> first | (rw [pdEqs_ok (show pdEqs x _ = true from h)]) | cases h
  | .tuple x, b, h => by cases b <;> first | (rw [pdEqs_ok (show pdEqs x _ = true from h)]) | cases h
  | .dict x, b, h => by cases b <;> cases h
theorem pdEqs_ok : ∀ {a b : List PyData}, pdEqs a b = true → a = b
  | [], b, h => by cases b <;> first | rfl | cases h
  | x :: xs, b, h => by
    cases b with
    | nil => cases h
    | cons y ys =>
      obtain ⟨h1, h2⟩ := Bool.and_eq_true_iff.mp (show (pdEq x y && pdEqs xs ys) = true from h)
      rw [pdEq_ok h1, pdEqs_ok h2]
end
/-- what is known of the module -/
structure Pg where
  T : List Fn
  free : List Str
  bf : List (Str × String)
  sh : List (Str × Nat × List Str × List Nat)
  cs : List (Str × PyData)
/-- where code stands: its scope, its slots, what may be stored -/
structure Ck where
  sc : Scope
  N : List Str
  st : Str → Bool
def glB (c : Ck) (x : Str) : Bool := decide (c.sc.names.lookup x = some .globalImplicit) && !(x == ("__debug__" : Str)) && !(x == ("__name__" : Str))
def visB (sc : Scope) (x : Str) : Bool := decide (sc.names.lookup x = some .local) || decide (sc.names.lookup x = some .cell) || decide (sc.names.lookup x = some .free)
def freeB (P : Pg) (c : Ck) (x : Str) : Bool := glB c x && P.free.contains x
def Bi.nm : Bi → Str
  | .len => "len"
  | .all => "all"
  | .any => "any"
  | .sum => "sum"
  | .min1 => "min"
  | .max1 => "max"
  | .min2 => "min"
  | .max2 => "max"
  | .sorted => "sorted"
  | .tuple => "tuple"
  | .list => "list"
  | .int => "int"
  | .abs => "abs"
  | .repr => "repr"
  | .divmod => "divmod"
  | .gcd => "gcd"
  | .lcm => "lcm"
  | .lenSet => "len"
  | .bool => "bool"
/-- where a built-in comes from -/
def Bi.imp : Bi → Option String
  | .gcd => some "math.gcd"
  | .lcm => some "math.lcm"
  | _ => none
def litB : PyData → Const → Bool
  | .none, .none => true
  | .bool b, .bool c => b == c
  | .int i, .int j => decide (i = j)
  | .str x, .str y => decide (x = y)
  | _, _ => false
def ownP (N : List Str) : List Nat → List (Str × Nat)
  | [] => []
  | i :: r => match N[i]? with
    | some x => (x, i) :: ownP N r
    | none => ownP N r
/-- a comprehension's block -/
def Ck.blk (c : Ck) (scope : Scope) : Ck := ⟨relS scope c.sc, c.N, fun x => decide (scope.names.lookup x = some .local) || decide (scope.names.lookup x = some .cell)⟩
def tyExpr : String → Expr → Bool
  | t, .Name x _ => decide (x = Str.ofString t)
  | _, _ => false
def tysB (P : Pg) (c : Ck) : List String → List Expr → Bool
  | [], [] => true
  | t :: ts, e :: es => isiTys.contains t && tyExpr t e && freeB P c (Str.ofString t) && tysB P c ts es
  | _, _ => false
def okIx : Expr → Bool
  | .Slice _ _ none _ => false
  | _ => true
def isIfExp : Expr → Bool
  | .IfExp _ _ _ _ => true
  | _ => false
def isNotE : Expr → Bool
  | .UnaryOp .Not _ _ => true
  | _ => false
def itW : I → Bool
  | .seq _ => false
  | .range1 _ => false
  | .range2 _ _ => false
  | _ => true
def isTupE : Expr → Bool
  | .Tuple _ _ _ => true
  | _ => false
/-! targets -/
mutual
def chkG (c : Ck) : Nat → Bool → Tg → Expr → Bool
  | 0, _, _, _ => false
  | n + 1, w, t, e => match t, e with
    | .name i, .Name x _ => !w && decide (c.N[i]? = some x) && c.st x
    | .tup ts, .Tuple es _ _ => es.all noStar && decide (es.length = ts.length) && chkGs c n ts es
    | _, _ => false
def chkGs (c : Ck) : Nat → List Tg → List Expr → Bool
  | 0, _, _ => false
  | n + 1, ts, es => match ts, es with
    | [], [] => true
    | t :: ts, e :: es => noStar e && chkG c n false t e && chkGs c n ts es
    | _, _ => false
end
mutual
def chkE (P : Pg) : Nat → Ck → E → Expr → Bool
  | 0, _, _, _ => false
  | n + 1, c, e, x => match e, x with
    | .frz e, x => chkE P n c e x
    | .new e, x => chkE P n c e x
    | .var i, .Name y _ => decide (c.N[i]? = some y) && visB c.sc y && !(y == ("__debug__" : Str)) && !(y == ("__classdict__" : Str))
    | .lit d, .Constant k _ _ => litB d k
    | .glob g d, .Name y _ => g == y && glB c y && P.cs.any fun p => p.1 == y && pdEq p.2 d
    | .bin op a b, .BinOp l o r _ => decide (o = op.tr) && chkE P n c a l && chkE P n c b r
    | .neg a, .UnaryOp .USub l _ => chkE P n c a l
    | .cmp op a b, .Compare l [o] [r] _ => decide (o = op.tr) && !behindInMarks op.tr r && chkE P n c a l && chkE P n c b r
    | .chain op op' a b d, .Compare l [o, o'] [r, s] _ => decide (o = op.tr) && decide (o' = op'.tr) && !lastMarks [op.tr, op'.tr] [r, s] && chkE P n c a l && chkE P n c b r && chkE P n c d s
    | .not a, .UnaryOp .Not l _ => chkE P n c a l
    | .and a b, .BoolOp .And (l :: r) _ => chkE P n c a l && chkV P n true c b r
    | .or a b, .BoolOp .Or (l :: r) _ => chkE P n c a l && chkV P n false c b r
    | .ite d a b, .IfExp t l r _ => chkT P n c d t && chkE P n c a l && chkE P n c b r
    | .tup es, .Tuple xs _ _ => chkA P n c es xs
    | .lst es, .List xs _ => chkA P n c es xs
    | .ix a i, .Subscript l j _ => okIx j && chkE P n c a l && chkE P n c i j
    | .sl a lo hi, .Subscript l (.Slice x y none _) _ => chkE P n c a l && chkO P n c lo x && chkO P n c hi y
    | .bi b es, .Call (.Name y _) xs [] _ => match b, es, xs with
      | .lenSet, [a], [.Call (.Name z _) [l] [] _] => y == ("len" : Str) && z == ("set" : Str) && freeB P c "len" && freeB P c "set" && noStar l && chkE P n c a l
      | .lenSet, _, _ => false
      | b, es, l :: xs => y == b.nm && noStar l && xs.all noStar && chkA P n c es (l :: xs) && (match b.imp with
        | some id => glB c y && P.bf.any fun p => p.1 == y && decide (p.2 = id)
        | none => freeB P c y && decide (b ≠ .bool))
      | _, _, _ => false
    | .isi a ts tupled, .Call (.Name y _) [l, r] [] _ => y == ("isinstance" : Str) && freeB P c "isinstance" && noStar l && chkE P n c a l && (match tupled, ts, r with
      | false, [t], r => tysB P c [t] [r]
      | true, ts, .Tuple es _ _ => tysB P c ts es && decide (ts.length ≤ 100)
      | _, _, _ => false)
    | .comp elt tg it test own, 
      .ListComp l [⟨tx, ix, ifs, ia⟩] scope _ => decide (ia = 0) && blkC c.N c.sc scope (ownP c.N own) && decide ((ownP c.N own).map (·.2) = own) && (tg.slots.all fun j => own.contains j) && notSet ix && chkI P n c it tx ix &&
        chkG (c.blk scope) n (itW it) tg tx && (match test, ifs with
        | none, [] => true
        | some t, [x] => chkT P n (c.blk scope) t x
        | _, _ => false) && chkE P n (c.blk scope) elt l
    | .listRange tup a, .Call (.Name y _) [.Call (.Name z _) [l] [] _] [] _ => y == (if tup then ("tuple" : Str) else "list") && z == ("range" : Str) && freeB P c (if tup then "tuple" else "list") && freeB P c "range" && noStar l && chkE P n c a l
    | .call f _ order es, .Call (.Name y _) xs kws _ => f == y && glB c y && P.sh.any (fun p => decide (p = (y, xs.length, kwNames kws, order))) && xs.all noStar && kws.all kwOk && decide (es.length = xs.length + kws.length) && chkA P n c (es.take xs.length) xs && chkK P n c (es.drop xs.length) kws
    | .mth m o es, .Call (.Attribute l nm ap) xs [] p => decide (m ≠ .remove) && nm == m.nm && okBase l && (ap.endLine == p.line) && xs.all noStar && decide (xs.length < 30) && chkE P n c o l && chkA P n c es xs
    | _, _ => false
/-- the rest of an and | or as values -/
def chkV (P : Pg) : Nat → Bool → Ck → E → List Expr → Bool
  | 0, _, _, _, _ => false
  | n + 1, k, c, e, xs => match xs with
    | [x] => chkE P n c e x
    | x :: y :: r => match k, e with
      | true, .and a b => chkE P n c a x && chkV P n true c b (y :: r)
      | false, .or a b => chkE P n c a x && chkV P n false c b (y :: r)
      | _, _ => false
    | [] => false
/-- .. as tests -/
def chkW (P : Pg) : Nat → Bool → Ck → E → List Expr → Bool
  | 0, _, _, _, _ => false
  | n + 1, k, c, e, xs => match xs with
    | [x] => chkT P n c e x
    | x :: y :: r => match k, e with
      | true, .and a b => chkT P n c a x && chkW P n true c b (y :: r)
      | false, .or a b => chkT P n c a x && chkW P n false c b (y :: r)
      | _, _ => false
    | [] => false
def chkT (P : Pg) : Nat → Ck → E → Expr → Bool
  | 0, _, _, _ => false
  | n + 1, c, e, x => match e, x with
    | .cmp op a b, .Compare l [o] [r] _ => decide (o = op.tr) && !behindInMarks op.tr r && chkE P n c a l && chkE P n c b r
    | .chain op op' a b d, .Compare l [o, o'] [r, s] _ => decide (o = op.tr) && decide (o' = op'.tr) && !lastMarks [op.tr, op'.tr] [r, s] && chkE P n c a l && chkE P n c b r && chkE P n c d s
    | .not a, .UnaryOp .Not l _ => chkT P n c a l
    | .and a b, .BoolOp .And (l :: r) _ => chkT P n c a l && chkW P n true c b r
    | .or a b, .BoolOp .Or (l :: r) _ => chkT P n c a l && chkW P n false c b r
    | e, x => plainT x && chkE P n c e x
def chkA (P : Pg) : Nat → Ck → List E → List Expr → Bool
  | 0, _, _, _ => false
  | n + 1, c, es, xs => match es, xs with
    | [], [] => true
    | e :: es, x :: xs => noStar x && chkE P n c e x && chkA P n c es xs
    | _, _ => false
def chkK (P : Pg) : Nat → Ck → List E → List Keyword → Bool
  | 0, _, _, _ => false
  | n + 1, c, es, ks => match es, ks with
    | [], [] => true
    | e :: es, ⟨_, x, _⟩ :: ks => chkE P n c e x && chkK P n c es ks
    | _, _ => false
def chkO (P : Pg) : Nat → Ck → Option E → Option Expr → Bool
  | 0, _, _, _ => false
  | n + 1, c, o, x => match o, x with
    | none, none => true
    | some e, some x => chkE P n c e x
    | _, _ => false
def chkI (P : Pg) : Nat → Ck → I → Expr → Expr → Bool
  | 0, _, _, _, _ => false
  | n + 1, c, it, tx, x => match it, x with
    | .seq e, x => chkE P n c e x
    | .range1 a, .Call (.Name y _) [l] [] _ => y == ("range" : Str) && freeB P c "range" && noStar l && chkE P n c a l
    | .range2 a b, .Call (.Name y _) [l, r] [] _ => y == ("range" : Str) && freeB P c "range" && noStar l && noStar r && chkE P n c a l && chkE P n c b r
    | .enum a, .Call (.Name y _) [l] [] _ => y == ("enumerate" : Str) && freeB P c "enumerate" && isTupE tx && noStar l && chkE P n c a l
    | .zip a b, .Call (.Name y _) [l, r] [] _ => y == ("zip" : Str) && freeB P c "zip" && isTupE tx && noStar l && noStar r && chkE P n c a l && chkE P n c b r
    | .zip3 a b d, .Call (.Name y _) [l, r, s] [] _ => y == ("zip" : Str) && freeB P c "zip" && isTupE tx && noStar l && noStar r && noStar s && chkE P n c a l && chkE P n c b r && chkE P n c d s
    | _, _ => false
end
/-! statements -/
def docB : Stmt → Bool
  | .Expr (.Constant (.str _) _ _) _ => true
  | _ => false
/-- the value of an assignment that swaps -/
def chkC (P : Pg) : Nat → Ck → E → Expr → Bool
  | 0, _, _, _ => false
  | n + 1, c, e, x => match e with
    | .frz e => chkC P n c e x
    | .new e => chkC P n c e x
    | .comp _ _ _ _ _ => chkE P n c e x
    | _ => false
def isLc : Expr → Option (Scope × Pos)
  | .ListComp _ _ s p => some (s, p)
  | _ => none
def swC (c : Ck) (scope : Scope) (y : Str) (py pos : Pos) : Bool := decide (c.sc.names.lookup y = some .local) && py.line == pos.line && !(scope.names.any fun (n, k) => n == y && (k == .local || k == .cell))
def chkAt (P : Pg) (n : Nat) (c : Ck) : At → Expr → Bool
  | .name i, .Name x _ => decide (c.N[i]? = some x) && c.st x
  | .sub o i, .Subscript l j _ => notSlice j && chkE P n c o l && chkE P n c i j
  | _, _ => false
def chkAts (P : Pg) (n : Nat) (c : Ck) : List At → List Expr → Bool
  | [], [] => true
  | t :: ts, e :: es => noStar e && chkAt P n c t e && chkAts P n c ts es
  | _, _ => false
def namesAt : List At → Option (List Nat)
  | [] => some []
  | .name i :: r => match namesAt r with
    | some is => some (i :: is)
    | none => none
  | _ => none
def nmOf (c : Ck) (line : Nat) : Expr → Option Str
  | .Name id pos => if c.sc.names.lookup id == some .local && pos.line == line then some id else none
  | _ => none
def nmsOf (c : Ck) (ts : List Expr) : List Str := ts.filterMap (nmOf c ((ts.head?.map (·.pos.line)).getD 0))
def starB : Expr → Bool
  | .Starred _ _ => true
  | _ => false
/-- how a, b = x, y is stored: none: not known; some false: as a tuple; some true: from the right -/
def swpB (c : Ck) (ts vs : List Expr) : Option Bool :=
  if (!(ts.length == 2 || ts.length == 3) || vs.length != ts.length) = true then some false
  else if vs.any starB = true then some false
  else if ((nmsOf c ts).length != ts.length || (nmsOf c ts).eraseDups.length != (nmsOf c ts).length) = true then some false
  else if vs.all (foldedForSure 8) = true then some false
  else if vs.all (constantsAlone 8) = true then none
  else some true
mutual
def chkS (P : Pg) : Nat → Ck → S → Stmt → Bool
  | 0, _, _, _ => false
  | n + 1, c, s, x => match s, x with
    | .asg (.name i) e, .Assign [.Name y py] v _ => decide (c.N[i]? = some y) && c.st y && (match isLc v with
      | none => notComp v && chkE P n c e v
      | some (scope, pos) => if swC c scope y py pos then chkC P n c e v else chkE P n c e v)
    | .asg (.sub o i) e, .Assign [.Subscript l j _] v _ => notSlice j && chkE P n c o l && chkE P n c i j && chkE P n c e v
    | .asg (.tup ts) e, .Assign [.Tuple es _ _] v _ => notComp v && notTup v && es.all noStar && decide (es.length = ts.length) && chkAts P n c ts es && chkE P n c e v
    | .par sw ts es, .Assign [.Tuple xs _ _] (.Tuple vs _ _) _ => decide (swpB c xs vs = some sw) && xs.all noStar && decide (xs.length = ts.length) && chkAts P n c ts xs && chkA P n c es vs
    | .aug i op e, .AugAssign (.Name y _) o v _ => decide (c.N[i]? = some y) && c.st y && decide (o = op.tr) && (decide (op = .add) || decide (op = .sub)) && chkE P n c e v
    | .expr e, .Expr v _ => notComp v && chkE P n c e v
    | .ret e, .Return (some v) _ => chkE P n c e v
    | .ite d a b, .If t u v _ => chkT P n c d t && chkSs P n c a u && chkSs P n c b v
    | .for_ tg it body, .For tx ix b [] _ => notSet ix && chkI P n c it tx ix && chkG c n (itW it) tg tx && chkSs P n c body b
    | .while_ _ d body, .While t b [] _ => chkT P n c d t && chkSs P n c body b
    | .brk, .Break _ => true
    | .cont, .Continue _ => true
    | .never, _ => true
    | _, _ => false
def chkSs (P : Pg) : Nat → Ck → List S → List Stmt → Bool
  | 0, _, _, _ => false
  | n + 1, c, ss, xs => match ss, xs with
    | [], [] => true
    | ss, x :: xs => if docB x then chkSs P n c ss xs else match ss with
      | s :: ss => chkS P n c s x && chkSs P n c ss xs
      | [] => false
    | _, _ => false
end
end Ev

set_option Elab.async false
set_option linter.all false
set_option maxRecDepth 100000
set_option maxHeartbeats 8000000
/-! Snd15: the check is sound, expressions. -/
namespace Ev
open PySem PySem.Spec PyProof.Rows L2
structure Gd (P : Pg) (n : Nat) (c : Ck) (X : Cx) : Prop where
  sc : X.env.scope = c.sc
  N : X.N = c.N
  nd : c.N.Nodup
  calm : X.calm = true
  xe : X.xe = fun _ _ => False
  hu : X.A.units + 200 < cLine
  hg : X.A.guards = some []
  kind : c.sc.kind = .function
  st : ∀ x, c.st x = true → Loc c.sc x ∧ (X.fn x = true ∨ c.sc.names.lookup x = some .local)
  free : ∀ x ∈ P.free, X.mg x = none
  bf : ∀ p ∈ P.bf, X.mg p.1 = some (.builtin p.2)
  cs : ∀ p ∈ P.cs, ∃ u v, X.mg p.1 = some u ∧ RelV v u ∧ ∀ H, RD X.K H p.2 v
  sh : ∃ k, Room k X.A ∧ ∀ x m ks order, (x, m, ks, order) ∈ P.sh → ∃ f fd ps, X.mg x = some (.ref f) ∧ PySem.W.keepIn X.K (.ref f) = true ∧ Shape fd ps ks m order ∧ FnG X.prog X.w X.K X.mg X.base k f fd ps (spN X.K P.T n x)
section
variable {P : Pg} {n : Nat} {c : Ck} {X : Cx}
theorem Gd.blk (g : Gd P n c X) {scope : Scope} (hk : scope.kind = .function) (s : Shared) (H : L2.Hp) (C : Addr) (cl : List (Str × Addr)) (fp : List Addr) : Gd P n (c.blk scope) (X.blk s H scope (compEnvC scope cl C X.env) fp) := by
  refine ⟨?_, g.N, g.nd, g.calm, rfl, g.hu, g.hg, hk, fun x hx => ?_, g.free, g.bf, g.cs, g.sh⟩
  · show relS scope X.env.scope = relS scope c.sc
    rw [g.sc]
  · rcases Bool.or_eq_true_iff.mp hx with h | h
    · have h1 := lookup_relS_keep (sc := c.sc) (k := .local) (by decide) (of_decide_eq_true h)
      exact ⟨.inl h1, .inr h1⟩
    · have h0 := of_decide_eq_true h
      have h1 := lookup_relS_keep (sc := c.sc) (k := .cell) (by decide) h0
      refine ⟨.inr h1, .inl ?_⟩
      show (scope.names.lookup x == some .cell) = true
      rw [h0]
      rfl
theorem Gd.gl (g : Gd P n c X) {x : Str} (h : glB c x = true) : Gl X x ∧ (x == ("__debug__" : Str)) = false ∧ x ≠ "__name__" := by
  unfold glB at h
  simp only [Bool.and_eq_true, decide_eq_true_eq, Bool.not_eq_true'] at h
  obtain ⟨⟨h1, h2⟩, h3⟩ := h
  refine ⟨?_, h2, fun e => ?_⟩
  · show X.env.scope.names.lookup x = some .globalImplicit
    rw [g.sc]
    exact h1
  · rw [e] at h3
    exact absurd h3 (by decide)
theorem Gd.fr (g : Gd P n c X) {x : Str} (h : freeB P c x = true) : Gl X x ∧ X.mg x = none ∧ (x == ("__debug__" : Str)) = false ∧ x ≠ "__name__" := by
  obtain ⟨h1, h2⟩ := Bool.and_eq_true_iff.mp h
  obtain ⟨h3, h4, h5⟩ := g.gl h1
  exact ⟨h3, g.free x (by simpa using h2), h4, h5⟩
theorem Gd.store (g : Gd P n c X) {x : Str} (h : c.st x = true) : Loc X.env.scope x ∧ (X.fn x = true ∨ X.env.scope.names.lookup x = some .local) := by
  obtain ⟨h1, h2⟩ := g.st x h
  rw [g.sc]
  exact ⟨h1, h2⟩
theorem Gd.slot (g : Gd P n c X) {i : Nat} {x : Str} (h : c.N[i]? = some x) : X.N[i]? = some x := by rw [g.N]; exact h
theorem Gd.ndX (g : Gd P n c X) : X.N.Nodup := by rw [g.N]; exact g.nd
theorem bi_boot : ∀ b : Bi, b.imp = none → b ≠ .bool → b ≠ .lenSet → bootBuiltins b.nm = some b.id.v := by
  intro b h1 h2 h3
  cases b <;> first
    | (cases h1; done)
    | exact absurd rfl h2
    | exact absurd rfl h3
    | decide +kernel
theorem ty_boot : ∀ t ∈ isiTys, bootBuiltins (Str.ofString t) = some (.type t) := by decide +kernel
theorem okIx_of {e : Expr} (h : okIx e = true) : PlainIx e := by
  intro o i
  cases e <;> first
    | rfl
    | (rename_i a b s p
       cases s <;> first | rfl | cases h)
theorem Many.evs (C : CallT) : ∀ es : List E, Many (Ev.evs C es) es.length
  | [], env, h, xs, h', e => by cases e; rfl
  | e :: es, env, h, xs, h', q => by
    obtain ⟨x, h1, e1, e2⟩ := bnd_some (show bnd (ev C e env) (fun x => bnd (Ev.evs C es env) fun xs => ret (x :: xs)) h = _ from q)
    obtain ⟨ys, h2, e3, e4⟩ := bnd_some e2
    cases e4
    exact congrArg Nat.succ (Many.evs C es env h1 ys _ e3)
theorem evs_app (C : CallT) (env : Env) (bs : List E) : ∀ as : List E, Ev.evs C (as ++ bs) env = bnd (Ev.evs C as env) fun xs => bnd (Ev.evs C bs env) fun ys => ret (xs ++ ys)
  | [] => by
    funext h
    show Ev.evs C bs env h = bnd (Ev.evs C bs env) (fun ys => ret ys) h
    unfold bnd ret
    cases Ev.evs C bs env h <;> rfl
  | a :: as => by
    have ih := evs_app C env bs as
    funext h
    show bnd (ev C a env) (fun x => bnd (Ev.evs C (as ++ bs) env) fun xs => ret (x :: xs)) h = bnd (bnd (ev C a env) fun x => bnd (Ev.evs C as env) fun xs => ret (x :: xs)) (fun xs => bnd (Ev.evs C bs env) fun ys => ret (xs ++ ys)) h
    rw [ih]
    unfold bnd ret
    cases ev C a env h with
    | none => rfl
    | some p =>
      dsimp only
      cases Ev.evs C as env p.2 with
      | none => rfl
      | some q =>
        dsimp only
        cases Ev.evs C bs env q.2 <;> rfl
/-! ### what is to be shown at a depth -/
def OkE (P : Pg) (n k : Nat) : Prop := ∀ (c : Ck) (e : E) (x : Expr) (X : Cx), Gd P n c X → chkE P k c e x = true → PE X x (tM X.K (ev (callN P.T n) e))
def OkT (P : Pg) (n k : Nat) : Prop := ∀ (c : Ck) (e : E) (x : Expr) (X : Cx), Gd P n c X → chkT P k c e x = true → PT X x (tMT X.K (tb (ev (callN P.T n) e)))
def opOf (b : Bool) : BoolOp := if b then .And else .Or
def OkV (P : Pg) (n k : Nat) : Prop := ∀ (b : Bool) (c : Ck) (e : E) (xs : List Expr) (X : Cx) (pos : Pos), Gd P n c X → chkV P k b c e xs = true → PE X (.BoolOp (opOf b) xs pos) (tM X.K (ev (callN P.T n) e)) ∧ xs ≠ []
def OkW (P : Pg) (n k : Nat) : Prop := ∀ (b : Bool) (c : Ck) (e : E) (xs : List Expr) (X : Cx) (pos : Pos), Gd P n c X → chkW P k b c e xs = true → PW X (.BoolOp (opOf b) xs pos) (tMT X.K (tb (ev (callN P.T n) e))) ∧ xs ≠ []
def OkA (P : Pg) (n k : Nat) : Prop := ∀ (c : Ck) (es : List E) (xs : List Expr) (X : Cx), Gd P n c X → chkA P k c es xs = true → PA X xs (tMA X.K (Ev.evs (callN P.T n) es)) ∧ es.length = xs.length
def OkK (P : Pg) (n k : Nat) : Prop := ∀ (c : Ck) (es : List E) (xs : List Keyword) (X : Cx), Gd P n c X → chkK P k c es xs = true → PK X xs (tMA X.K (Ev.evs (callN P.T n) es)) ∧ es.length = xs.length
def OkO (P : Pg) (n k : Nat) : Prop := ∀ (c : Ck) (o : Option E) (x : Option Expr) (X : Cx), Gd P n c X → chkO P k c o x = true → PO X x (tMO X.K (evO (callN P.T n) o))
def OkI (P : Pg) (n k : Nat) : Prop := ∀ (c : Ck) (it : I) (tx x : Expr) (X : Cx), Gd P n c X → chkI P k c it tx x = true → PI X tx x (tMI X.K (itW it) (evI (callN P.T n) it))
def OkG (k : Nat) : Prop := ∀ (c : Ck) (w : Bool) (t : Tg) (x : Expr) (X : Cx) (P : Pg) (n : Nat), Gd P n c X → chkG c k w t x = true → PG X x (tMG X.K w t)
def OkGs (k : Nat) : Prop := ∀ (c : Ck) (ts : List Tg) (xs : List Expr) (X : Cx) (P : Pg) (n : Nat), Gd P n c X → chkGs c k ts xs = true → PGs X xs (tMGs X.K ts)
theorem ok_tg : ∀ k, OkG k ∧ OkGs k
  | 0 => ⟨fun _ _ _ _ _ _ _ _ h => (by cases h), fun _ _ _ _ _ _ _ h => (by cases h)⟩
  | k + 1 => by
    obtain ⟨hG, hGs⟩ := ok_tg k
    refine ⟨fun c w t x X P n g h => ?_, fun c ts xs X P n g h => ?_⟩
    · unfold chkG at h
      split at h
      · rename_i i y p
        simp only [Bool.and_eq_true, Bool.not_eq_true', decide_eq_true_eq] at h
        obtain ⟨⟨h1, h2⟩, h3⟩ := h
        subst h1
        obtain ⟨s1, s2⟩ := g.store h3
        exact c_tgName g.ndX (g.slot h2) s1 s2
      · rename_i ts es kk p
        simp only [Bool.and_eq_true, decide_eq_true_eq] at h
        obtain ⟨⟨h1, h2⟩, h3⟩ := h
        exact c_tgTup g.calm h1 h2 (hGs c ts es X P n g h3)
      · cases h
    · unfold chkGs at h
      split at h
      · exact c_tgNil
      · rename_i t ts e es
        simp only [Bool.and_eq_true] at h
        obtain ⟨⟨h1, h2⟩, h3⟩ := h
        exact c_tgCons h1 (hG c false t e X P n g h2) (hGs c ts es X P n g h3)
      · cases h
theorem ok_A {k : Nat} (hE : OkE P n k) (hA : OkA P n k) : OkA P n (k + 1) := fun c es xs X g h => by
  unfold chkA at h
  split at h
  · exact ⟨c_nil, rfl⟩
  · simp only [Bool.and_eq_true] at h
    obtain ⟨⟨h1, h2⟩, h3⟩ := h
    obtain ⟨a1, a2⟩ := hA c _ _ X g h3
    exact ⟨c_cons h1 (hE c _ _ X g h2) a1, congrArg Nat.succ a2⟩
  · cases h
theorem ok_K {k : Nat} (hE : OkE P n k) (hA : OkK P n k) : OkK P n (k + 1) := fun c es xs X g h => by
  unfold chkK at h
  split at h
  · exact ⟨c_pk0, rfl⟩
  · simp only [Bool.and_eq_true] at h
    obtain ⟨h2, h3⟩ := h
    obtain ⟨a1, a2⟩ := hA c _ _ X g h3
    exact ⟨c_pk1 (hE c _ _ X g h2) a1, congrArg Nat.succ a2⟩
  · cases h
theorem ok_O {k : Nat} (hE : OkE P n k) : OkO P n (k + 1) := fun c o x X g h => by
  unfold chkO at h
  split at h
  · exact c_po0
  · exact c_po1 (hE c _ _ X g h)
  · cases h
theorem str_eq {x y : Str} (h : (x == y) = true) : x = y := eq_of_beq h
theorem isTupE_of {e : Expr} (h : isTupE e = true) : ∃ es k p, e = .Tuple es k p := by
  cases e <;> first | exact ⟨_, _, _, rfl⟩ | cases h
theorem ok_I {k : Nat} (hE : OkE P n k) : OkI P n (k + 1) := fun c it tx x X g h => by
  unfold chkI at h
  split at h
  · exact c_iSeq (hE c _ _ X g h)
  · simp only [Bool.and_eq_true] at h
    obtain ⟨⟨⟨h1, h2⟩, h3⟩, h4⟩ := h
    obtain ⟨f1, f2, _⟩ := g.fr h2
    rw [str_eq h1]
    exact c_iR1 f1 f2 h3 (hE c _ _ X g h4)
  · simp only [Bool.and_eq_true] at h
    obtain ⟨⟨⟨⟨⟨h1, h2⟩, h3⟩, h4⟩, h5⟩, h6⟩ := h
    obtain ⟨f1, f2, _⟩ := g.fr h2
    rw [str_eq h1]
    exact c_iR2 f1 f2 h3 h4 (hE c _ _ X g h5) (hE c _ _ X g h6)
  · simp only [Bool.and_eq_true] at h
    obtain ⟨⟨⟨⟨h1, h2⟩, h0⟩, h3⟩, h4⟩ := h
    obtain ⟨f1, f2, _⟩ := g.fr h2
    obtain ⟨ls, kk, tp, rfl⟩ := isTupE_of h0
    rw [str_eq h1]
    exact c_iE f1 f2 h3 (hE c _ _ X g h4)
  · simp only [Bool.and_eq_true] at h
    obtain ⟨⟨⟨⟨⟨⟨h1, h2⟩, h0⟩, h3⟩, h4⟩, h5⟩, h6⟩ := h
    obtain ⟨f1, f2, _⟩ := g.fr h2
    obtain ⟨ls, kk, tp, rfl⟩ := isTupE_of h0
    rw [str_eq h1]
    exact c_iZ f1 f2 h3 h4 (hE c _ _ X g h5) (hE c _ _ X g h6)
  · simp only [Bool.and_eq_true] at h
    obtain ⟨⟨⟨⟨⟨⟨⟨⟨h1, h2⟩, h0⟩, h3⟩, h4⟩, h5⟩, h6⟩, h7⟩, h8⟩ := h
    obtain ⟨f1, f2, _⟩ := g.fr h2
    obtain ⟨ls, kk, tp, rfl⟩ := isTupE_of h0
    rw [str_eq h1]
    exact c_iZ3 f1 f2 h3 h4 h5 (hE c _ _ X g h6) (hE c _ _ X g h7) (hE c _ _ X g h8)
  · cases h
theorem ok_V {k : Nat} (hE : OkE P n k) (hV : OkV P n k) : OkV P n (k + 1) := fun b c e xs X pos g h => by
  unfold chkV at h
  split at h
  · exact ⟨pe_one (hE c _ _ X g h), by simp⟩
  · split at h
    · simp only [Bool.and_eq_true] at h
      exact ⟨c_and (hE c _ _ X g h.1) (hV true c _ _ X pos g h.2).1, by simp⟩
    · simp only [Bool.and_eq_true] at h
      exact ⟨c_or (hE c _ _ X g h.1) (hV false c _ _ X pos g h.2).1, by simp⟩
    · cases h
  · cases h
theorem ok_W {k : Nat} (hT : OkT P n k) (hW : OkW P n k) : OkW P n (k + 1) := fun b c e xs X pos g h => by
  unfold chkW at h
  split at h
  · cases b with
    | true => exact ⟨pw_and1 (hT c _ _ X g h), by simp⟩
    | false => exact ⟨pw_or1 (hT c _ _ X g h), by simp⟩
  · split at h
    · simp only [Bool.and_eq_true] at h
      exact ⟨c_testAnd (hT c _ _ X g h.1) (hW true c _ _ X pos g h.2).1, by simp⟩
    · simp only [Bool.and_eq_true] at h
      exact ⟨c_testOr (hT c _ _ X g h.1) (hW false c _ _ X pos g h.2).1, by simp⟩
    · cases h
  · cases h
theorem ok_T {k : Nat} (hE : OkE P n k) (hT : OkT P n k) (hW : OkW P n k) : OkT P n (k + 1) := fun c e x X g h => by
  unfold chkT at h
  split at h
  · simp only [Bool.and_eq_true, decide_eq_true_eq, Bool.not_eq_true'] at h
    obtain ⟨⟨⟨rfl, h2⟩, h3⟩, h4⟩ := h
    exact c_testCmp g.hu _ (hE c _ _ X g h3) (hE c _ _ X g h4) h2
  · simp only [Bool.and_eq_true, decide_eq_true_eq, Bool.not_eq_true'] at h
    obtain ⟨⟨⟨⟨⟨rfl, rfl⟩, h2⟩, h3⟩, h4⟩, h5⟩ := h
    exact c_testChain g.hu _ _ (hE c _ _ X g h3) (hE c _ _ X g h4) (hE c _ _ X g h5) h2
  · exact c_testNot (hT c _ _ X g h)
  · rename_i a b l r p
    simp only [Bool.and_eq_true] at h
    obtain ⟨w1, w2⟩ := hW true c b r X p g h.2
    cases r with
    | nil => exact absurd rfl w2
    | cons y r => exact (c_testAnd (hT c _ _ X g h.1) w1).pt
  · rename_i a b l r p
    simp only [Bool.and_eq_true] at h
    obtain ⟨w1, w2⟩ := hW false c b r X p g h.2
    cases r with
    | nil => exact absurd rfl w2
    | cons y r => exact (c_testOr (hT c _ _ X g h.1) w1).pt
  · simp only [Bool.and_eq_true] at h
    exact c_test (hE c _ _ X g h.2) h.1
end
end Ev

set_option Elab.async false
set_option linter.all false
set_option maxRecDepth 100000
set_option maxHeartbeats 8000000
/-! Snd16: the check is sound, expressions, the main step. -/
namespace Ev
open PySem PySem.Spec PyProof.Rows L2
section
variable {P : Pg} {n : Nat} {c : Ck} {X : Cx}
theorem ok_lit {d : PyData} {k : PySem.Const} {j : Nat} {p : Pos} (h : litB d k = true) : PE X (.Constant k j p) (tM X.K fun _ => ret (rD d)) := by
  cases d with
  | none => cases k <;> first | exact c_const pe_non (fun _ => rfl) | cases h
  | bool b =>
    cases k with
    | bool b' =>
      have e : b = b' := eq_of_beq h
      subst e
      exact c_const pe_bl (fun _ => rfl)
    | _ => cases h
  | int i =>
    cases k with
    | int i' =>
      have e : i = i' := of_decide_eq_true h
      subst e
      exact c_const pe_int (fun _ => rfl)
    | _ => cases h
  | str x =>
    cases k with
    | str y =>
      have e : x = y := of_decide_eq_true h
      subst e
      exact c_const pe_str (fun _ => rfl)
    | _ => cases h
  | _ => cases k <;> cases h
theorem ok_bi (g : Gd P n c X) (b : Bi) (hb : b ≠ .lenSet) {l : Expr} {xs : List Expr} {ms : Env → M (List RV)} {p pos : Pos} (h1 : noStar l = true) (h2 : xs.all noStar = true) (ha : PA X (l :: xs) (tMA X.K ms))
    (h : (match b.imp with
        | some id => glB c b.nm && P.bf.any fun p => p.1 == b.nm && decide (p.2 = id)
        | none => freeB P c b.nm && decide (b ≠ .bool)) = true) : PE X (.Call (.Name b.nm p) (l :: xs) [] pos) (tM X.K fun env => bnd (ms env) fun vs => look fun h => biV h b vs) := by
  have cr := cr_biV g.calm g.hu g.hg b hb
  cases hi : b.imp with
  | some id =>
    rw [hi] at h
    obtain ⟨h3, h4⟩ := Bool.and_eq_true_iff.mp h
    obtain ⟨f1, f2, _⟩ := g.gl h3
    obtain ⟨q, hq, e⟩ := List.any_eq_true.mp h4
    obtain ⟨e1, e2⟩ := Bool.and_eq_true_iff.mp e
    have hm := g.bf q hq
    rw [str_eq e1, of_decide_eq_true e2] at hm
    have eid : b.id.v = .builtin id := by cases b <;> first | (cases hi; rfl) | cases hi
    rw [eid] at cr
    exact c_big cr f1 hm f2 h1 h2 ha
  | none =>
    rw [hi] at h
    obtain ⟨h3, h4⟩ := Bool.and_eq_true_iff.mp h
    obtain ⟨f1, f2, f3, f4⟩ := g.fr h3
    have hbt := bi_boot b hi (of_decide_eq_true h4) hb
    cases hid : b.id with
    | f id =>
      rw [hid] at cr hbt
      exact c_bif cr f1 f2 hbt f4 f3 h1 h2 ha
    | t id =>
      rw [hid] at cr hbt
      exact c_bit cr f1 f2 hbt f4 f3 h1 h2 ha
theorem ok_tys (g : Gd P n c X) : ∀ {ts : List String} {es : List Expr}, tysB P c ts es = true → isiNames X ts es ∧ ∀ t ∈ ts, t ∈ isiTys
  | [], [], _ => ⟨True.intro, fun _ h => by cases h⟩
  | [], _ :: _, h => by cases h
  | _ :: _, [], h => by cases h
  | t :: ts, e :: es, h => by
    unfold tysB at h
    simp only [Bool.and_eq_true] at h
    obtain ⟨⟨⟨h1, h2⟩, h3⟩, h4⟩ := h
    obtain ⟨i1, i2⟩ := ok_tys g h4
    have ht : t ∈ isiTys := by simpa using h1
    obtain ⟨f1, f2, f3, f4⟩ := g.fr h3
    cases e with
    | Name x p =>
      have e2 : x = Str.ofString t := of_decide_eq_true h2
      subst e2
      exact ⟨⟨⟨f1, f2, ty_boot t ht, f4, f3⟩, i1⟩, fun y hy => (List.mem_cons.mp hy).elim (fun z => by rw [z]; exact ht) (i2 y)⟩
    | _ => cases h2
theorem ok_call {k : Nat} (hA : OkA P n k) (hK : OkK P n k) (g : Gd P n c X) {f : Str} {pr : Bool} {order : List Nat} {es : List E} {y : Str} {xs : List Expr} {kws : List Keyword} {p pos : Pos}
    (h : (f == y && glB c y && P.sh.any (fun p => decide (p = (y, xs.length, kwNames kws, order))) && xs.all noStar && kws.all kwOk && decide (es.length = xs.length + kws.length) && chkA P k c (es.take xs.length) xs && chkK P k c (es.drop xs.length) kws) = true) :
    PE X (.Call (.Name y p) xs kws pos) (tM X.K (ev (callN P.T n) (.call f pr order es))) := by
  simp only [Bool.and_eq_true, decide_eq_true_eq] at h
  obtain ⟨⟨⟨⟨⟨⟨⟨h1, h2⟩, h3⟩, h4⟩, h5⟩, h6⟩, h7⟩, h8⟩ := h
  have ef := str_eq h1
  subst ef
  obtain ⟨f1, f2, _⟩ := g.gl h2
  obtain ⟨q, hq, eq⟩ := List.any_eq_true.mp h3
  have eq' := of_decide_eq_true eq
  subst eq'
  obtain ⟨d, hr, hs⟩ := g.sh
  obtain ⟨fa, fd, ps, m1, m2, m3, m4⟩ := hs _ _ _ _ hq
  obtain ⟨a1, a2⟩ := hA c _ _ X g h7
  obtain ⟨b1, b2⟩ := hK c _ _ X g h8
  have many1 : Many (Ev.evs (callN P.T n) (es.take xs.length)) xs.length := by
    have := Many.evs (callN P.T n) (es.take xs.length)
    rw [a2] at this
    exact this
  have many2 : Many (Ev.evs (callN P.T n) (es.drop xs.length)) kws.length := by
    have := Many.evs (callN P.T n) (es.drop xs.length)
    rw [b2] at this
    exact this
  cases xs with
  | nil =>
    cases kws with
    | nil =>
      have he : es = [] := List.eq_nil_of_length_eq_zero h6
      subst he
      exact c_call0 m4 hr g.hg f1 m1 m2 m3 f2
    | cons kw kws => exact c_callK0 m4 hr g.hg f1 m1 m2 m3 f2 h5 many2 b1
  | cons x xs =>
    simp only [List.all_cons, Bool.and_eq_true] at h4
    cases kws with
    | nil =>
      have he : es.take (x :: xs).length = es := List.take_of_length_le (by rw [h6]; simp)
      rw [he] at a1 many1
      exact c_call m4 hr g.hg f1 m1 m2 m3 f2 h4.1 h4.2 many1 a1
    | cons kw kws =>
      have split : (fun env => Ev.evs (callN P.T n) es env) = fun env => bnd (Ev.evs (callN P.T n) (es.take (x :: xs).length) env) fun us => bnd (Ev.evs (callN P.T n) (es.drop (x :: xs).length) env) fun ys => ret (us ++ ys) := by
        funext env
        rw [← evs_app, List.take_append_drop]
      have fin := c_callK (pure := pr) (pos := pos) (p := p) m4 hr g.hg f1 m1 m2 m3 f2 h4.1 h4.2 h5 many1 many2 a1 b1
      rw [← split] at fin
      exact fin
theorem ok_isi {k : Nat} (hE : OkE P n k) (g : Gd P n c X) {a : E} {ts : List String} {tupled : Bool} {l r : Expr} {p pos : Pos} (h0 : freeB P c "isinstance" = true) (h1 : noStar l = true) (h2 : chkE P k c a l = true)
    (h : (match tupled, ts, r with
      | false, [t], r => tysB P c [t] [r]
      | true, ts, .Tuple es _ _ => tysB P c ts es && decide (ts.length ≤ 100)
      | _, _, _ => false) = true) : PE X (.Call (.Name "isinstance" p) [l, r] [] pos) (tM X.K (ev (callN P.T n) (.isi a ts tupled))) := by
  obtain ⟨f1, f2, _⟩ := g.fr h0
  split at h
  · obtain ⟨i1, i2⟩ := ok_tys g h
    rename_i t
    cases r with
    | Name x px =>
      obtain ⟨⟨g1, g2, g3, g4, g5⟩, _⟩ := i1
      exact c_isi1 f1 f2 g1 g2 g3 g4 g5 (i2 t (by simp)) h1 (hE c _ _ X g h2)
    | _ => exact i1.elim
  · obtain ⟨h3, h4⟩ := Bool.and_eq_true_iff.mp h
    obtain ⟨i1, i2⟩ := ok_tys g h3
    exact c_isiT f1 f2 i1 i2 (of_decide_eq_true h4) h1 (hE c _ _ X g h2)
  · cases h
theorem ok_comp {k : Nat} (hE : OkE P n k) (hT : OkT P n k) (hI : OkI P n k) (g : Gd P n c X) {elt : E} {tg : Tg} {it : I} {test : Option E} {own : List Nat} {l tx ix : Expr} {ifs : List Expr} {scope : Scope} {ia : Int}
    (h : (decide (ia = 0) && blkC c.N c.sc scope (ownP c.N own) && decide ((ownP c.N own).map (·.2) = own) && (tg.slots.all fun j => own.contains j) && notSet ix && chkI P k c it tx ix &&
        chkG (c.blk scope) k (itW it) tg tx && (match test, ifs with
        | none, [] => true
        | some t, [x] => chkT P k (c.blk scope) t x
        | _, _ => false) && chkE P k (c.blk scope) elt l) = true) :
    ia = 0 ∧ BlkOk X.N X.env.scope scope (ownP c.N own) ∧ (ownP c.N own).map (·.2) = own ∧ (∀ j ∈ tg.slots, j ∈ (ownP c.N own).map (·.2)) ∧ notSet ix = true ∧ PI X tx ix (tMI X.K (itW it) (evI (callN P.T n) it)) ∧
    (∀ (s : Shared) (H : L2.Hp) (C : Addr) (cl : List (Str × Addr)) (fp : List Addr), PG (X.blk s H scope (compEnvC scope cl C X.env) fp) tx (tMG X.K (itW it) tg)) ∧
    (∀ (s : Shared) (H : L2.Hp) (C : Addr) (cl : List (Str × Addr)) (fp : List Addr), PTs (X.blk s H scope (compEnvC scope cl C X.env) fp) ifs (tMT X.K (evO' (callN P.T n) test))) ∧
    (∀ (s : Shared) (H : L2.Hp) (C : Addr) (cl : List (Str × Addr)) (fp : List Addr), PE (X.blk s H scope (compEnvC scope cl C X.env) fp) l (tM X.K (ev (callN P.T n) elt))) := by
  simp only [Bool.and_eq_true, decide_eq_true_eq] at h
  obtain ⟨⟨⟨⟨⟨⟨⟨⟨h0, h1⟩, h2⟩, h3⟩, h4⟩, h5⟩, h6⟩, h7⟩, h8⟩ := h
  have ok : BlkOk X.N X.env.scope scope (ownP c.N own) := by
    rw [g.N, g.sc]
    exact blkOk_by h1
  refine ⟨h0, ok, h2, fun j hj => ?_, h4, hI c it tx ix X g h5, fun s H C cl fp => ?_, fun s H C cl fp => ?_, fun s H C cl fp => ?_⟩
  · rw [h2]
    simpa using List.all_eq_true.mp h3 j hj
  · exact (ok_tg k).1 _ _ _ _ _ P n (g.blk ok.kind s H C cl fp) h6
  · have gb := g.blk ok.kind s H C cl fp
    split at h7
    · refine ⟨fun pins s' σ H' Q I q => pts_nil.run pins s' σ H' Q I ?_⟩
      obtain ⟨ρ, hp, env, x, hp', hr, er, e, q⟩ := q
      cases e
      exact q ρ H' Step.refl hr
    · exact pts_one (hT _ _ _ _ gb h7)
    · cases h7
  · exact hE _ _ _ _ (g.blk ok.kind s H C cl fp) h8
theorem ok_E {k : Nat} (hE : OkE P n k) (hT : OkT P n k) (hV : OkV P n k) (hA : OkA P n k) (hK : OkK P n k) (hO : OkO P n k) (hI : OkI P n k) : OkE P n (k + 1) := fun c e x X g h => by
  unfold chkE at h
  split at h
  · exact c_frz (hE c _ _ X g h)
  · exact c_new (hE c _ _ X g h)
  · rename_i i y p
    simp only [Bool.and_eq_true, decide_eq_true_eq, Bool.not_eq_true'] at h
    obtain ⟨⟨⟨h1, h2⟩, h3⟩, h4⟩ := h
    refine c_var (pe_var (g.slot h1) ?_ h3 h4)
    rw [g.sc]
    rcases Bool.or_eq_true_iff.mp h2 with h2 | h2
    · rcases Bool.or_eq_true_iff.mp h2 with h2 | h2
      · exact .inl (of_decide_eq_true h2)
      · exact .inr (.inl (of_decide_eq_true h2))
    · exact .inr (.inr (of_decide_eq_true h2))
  · exact ok_lit h
  · rename_i gn d y p
    simp only [Bool.and_eq_true] at h
    obtain ⟨⟨h1, h2⟩, h3⟩ := h
    obtain ⟨f1, f2, _⟩ := g.gl h2
    obtain ⟨q, hq, e⟩ := List.any_eq_true.mp h3
    obtain ⟨e1, e2⟩ := Bool.and_eq_true_iff.mp e
    obtain ⟨u, v, m1, m2, m3⟩ := g.cs q hq
    rw [str_eq e1] at m1
    rw [pdEq_ok e2] at m3
    exact c_const (pe_glob f1 m1 m2 f2) m3
  · simp only [Bool.and_eq_true, decide_eq_true_eq] at h
    obtain ⟨⟨rfl, h2⟩, h3⟩ := h
    exact c_bin _ (hE c _ _ X g h2) (hE c _ _ X g h3)
  · exact c_neg (hE c _ _ X g h)
  · simp only [Bool.and_eq_true, decide_eq_true_eq, Bool.not_eq_true'] at h
    obtain ⟨⟨⟨rfl, h2⟩, h3⟩, h4⟩ := h
    exact c_cmp g.hu _ (hE c _ _ X g h3) (hE c _ _ X g h4) h2
  · simp only [Bool.and_eq_true, decide_eq_true_eq, Bool.not_eq_true'] at h
    obtain ⟨⟨⟨⟨⟨rfl, rfl⟩, h2⟩, h3⟩, h4⟩, h5⟩ := h
    exact c_chain g.hu _ _ (hE c _ _ X g h3) (hE c _ _ X g h4) (hE c _ _ X g h5) h2
  · exact c_not (hE c _ _ X g h)
  · rename_i a b l r p
    simp only [Bool.and_eq_true] at h
    obtain ⟨w1, w2⟩ := hV true c b r X p g h.2
    cases r with
    | nil => exact absurd rfl w2
    | cons y r => exact c_and (hE c _ _ X g h.1) w1
  · rename_i a b l r p
    simp only [Bool.and_eq_true] at h
    obtain ⟨w1, w2⟩ := hV false c b r X p g h.2
    cases r with
    | nil => exact absurd rfl w2
    | cons y r => exact c_or (hE c _ _ X g h.1) w1
  · simp only [Bool.and_eq_true] at h
    obtain ⟨⟨h1, h2⟩, h3⟩ := h
    exact c_ite (hT c _ _ X g h1) (hE c _ _ X g h2) (hE c _ _ X g h3)
  · exact c_tup (hA c _ _ X g h).1
  · exact c_lst (hA c _ _ X g h).1
  · simp only [Bool.and_eq_true] at h
    obtain ⟨⟨h1, h2⟩, h3⟩ := h
    exact c_ix (hE c _ _ X g h2) (hE c _ _ X g h3) (okIx_of h1)
  · simp only [Bool.and_eq_true] at h
    obtain ⟨⟨h1, h2⟩, h3⟩ := h
    exact c_sl (hE c _ _ X g h1) (hO c _ _ X g h2) (hO c _ _ X g h3)
  · split at h
    · simp only [Bool.and_eq_true] at h
      obtain ⟨⟨⟨⟨⟨h1, h2⟩, h3⟩, h4⟩, h5⟩, h6⟩ := h
      obtain ⟨f1, f2, _⟩ := g.fr h3
      obtain ⟨f3, f4, _⟩ := g.fr h4
      rw [str_eq h1, str_eq h2]
      exact c_lenSet g.calm f1 f2 f3 f4 h5 (hE c _ _ X g h6)
    · cases h
    · rename_i b' es' l xs _ _ hb _
      simp only [Bool.and_eq_true] at h
      obtain ⟨⟨⟨⟨h1, h2⟩, h3⟩, h4⟩, h5⟩ := h
      have ey := str_eq h1
      subst ey
      exact ok_bi g _ (by intro z; subst z; first | exact hb rfl | exact hb _ _ rfl rfl) h2 h3 (hA c _ _ X g h4).1 h5
    · cases h
  · simp only [Bool.and_eq_true] at h
    obtain ⟨⟨⟨⟨h1, h2⟩, h3⟩, h4⟩, h5⟩ := h
    rw [str_eq h1]
    exact ok_isi hE g h2 h3 h4 h5
  · rename_i pos
    obtain ⟨rfl, a1, a2, a3, a4, a5, a6, a7, a8⟩ := ok_comp hE hT hI g h
    have fin := c_comp (pos := pos) g.calm g.ndX a3 a5 a1 a6 a7 a8 a4
    rw [a2] at fin
    exact fin
  · simp only [Bool.and_eq_true] at h
    obtain ⟨⟨⟨⟨⟨h1, h2⟩, h3⟩, h4⟩, h5⟩, h6⟩ := h
    obtain ⟨f1, f2, _⟩ := g.fr h3
    obtain ⟨f3, f4, _⟩ := g.fr h4
    rw [str_eq h1, str_eq h2]
    exact c_listRange (pos2 := ⟨0, 0, 0, 0⟩) g.calm f1 f2 f3 f4 h5 (hE c _ _ X g h6)
  · exact ok_call hA hK g h
  · rename_i m o es l nm ap xs p
    simp only [Bool.and_eq_true, decide_eq_true_eq] at h
    obtain ⟨⟨⟨⟨⟨⟨⟨h1, h2⟩, h3⟩, h4⟩, h5⟩, h6⟩, h7⟩, h8⟩ := h
    have en := str_eq h2
    subst en
    obtain ⟨a1, a2⟩ := hA c _ _ X g h8
    cases xs with
    | nil =>
      have he : es = [] := List.eq_nil_of_length_eq_zero a2
      subst he
      exact c_mth0 g.hu m h1 h3 h4 (hE c _ _ X g h7)
    | cons x xs =>
      simp only [List.all_cons, Bool.and_eq_true] at h5
      exact c_mth g.hu m h1 h3 h4 h5.1 h5.2 h6 (hE c _ _ X g h7) a1
  · cases h
theorem ok_all (P : Pg) (n : Nat) : ∀ k, OkE P n k ∧ OkT P n k ∧ OkV P n k ∧ OkW P n k ∧ OkA P n k ∧ OkK P n k ∧ OkO P n k ∧ OkI P n k
  | 0 => ⟨fun _ _ _ _ _ h => (by cases h), fun _ _ _ _ _ h => (by cases h), fun _ _ _ _ _ _ _ h => (by cases h), fun _ _ _ _ _ _ _ h => (by cases h), fun _ _ _ _ _ h => (by cases h), fun _ _ _ _ _ h => (by cases h), fun _ _ _ _ _ h => (by cases h), fun _ _ _ _ _ _ h => (by cases h)⟩
  | k + 1 => by
    obtain ⟨hE, hT, hV, hW, hA, hK, hO, hI⟩ := ok_all P n k
    exact ⟨ok_E hE hT hV hA hK hO hI, ok_T hE hT hW, ok_V hE hV, ok_W hT hW, ok_A hE hA, ok_K hE hK, ok_O hE, ok_I hE⟩
end
end Ev

set_option Elab.async false
set_option linter.all false
set_option maxRecDepth 100000
set_option maxHeartbeats 8000000
/-! Snd17: the check is sound, statements. -/
namespace Ev
open PySem PySem.Spec PyProof.Rows L2
section
variable {P : Pg} {n : Nat} {c : Ck} {X : Cx} {H0 : L2.Hp}
def OkS (P : Pg) (n k : Nat) : Prop := ∀ (c : Ck) (s : S) (x : Stmt) (X : Cx) (H0 : L2.Hp), Gd P n c X → chkS P k c s x = true → PS X x (tMS X.K H0 (ex (callN P.T n) s))
def OkSs (P : Pg) (n k : Nat) : Prop := ∀ (c : Ck) (ss : List S) (xs : List Stmt) (X : Cx) (H0 : L2.Hp), Gd P n c X → chkSs P k c ss xs = true → PSs X xs (tMS X.K H0 (exs (callN P.T n) ss))
theorem Gd.blkF (g : Gd P n c X) : X.env.blockKind = .function := by
  unfold Env.blockKind
  rw [g.sc, g.kind]
  rfl
theorem swB_of (g : Gd P n c X) {scope : Scope} {y : Str} {py pos : Pos} : swB X.env scope y py pos = swC c scope y py pos := by
  unfold swB swC
  have h2 : (X.env.kindOf y == some .local) = decide (c.sc.names.lookup y = some .local) := by
    show (X.env.scope.names.lookup y == some NameKind.local) = _
    rw [g.sc]
    rw [Bool.beq_eq_decide_eq]
  rw [g.blkF, h2]
  rfl
theorem ok_C (g : Gd P n c X) {scope : Scope} {y : Str} {py pos spos : Pos} {elt : Expr} {gs : List Comprehension} {i : Nat} (hsw : swC c scope y py pos = true) (hy : c.N[i]? = some y) : ∀ (k : Nat) (e : E), chkC P k c e (.ListComp elt gs scope pos) = true →
    PS X (.Assign [.Name y py] (.ListComp elt gs scope pos) spos) (tAsg (tM X.K (ev (callN P.T n) e)) (gName i))
  | 0, _, h => by cases h
  | k + 1, e, h => by
    unfold chkC at h
    split at h
    · exact asg_frz (ok_C g hsw hy k _ h)
    · exact asg_new (ok_C g hsw hy k _ h)
    · rename_i t ctg it test own
      cases k with
      | zero => cases h
      | succ k =>
        obtain ⟨hE, hT, hV, hW, hA, hK, hO, hI⟩ := ok_all P n k
        rcases gs with _ | ⟨⟨tx, ix, ifs, ia⟩, _ | ⟨_, _⟩⟩
        · cases h
        · obtain ⟨rfl, a1, a2, a3, a4, a5, a6, a7, a8⟩ := ok_comp hE hT hI g h
          have hl : X.env.scope.names.lookup y = some .local := by
            rw [g.sc]
            have := hsw
            unfold swC at this
            simp only [Bool.and_eq_true, decide_eq_true_eq] at this
            exact this.1.1
          have fin := ps_swp (spos := spos) (by rw [swB_of g]; exact hsw) g.calm g.ndX (g.slot hy) hl a3 a5 a1 a6 a7 a8 a4
          rw [a2] at fin
          exact fin
        · cases h
    · cases h
theorem at_nil (C : CallT) : (fun (xs : List HV) (env : Env) => if xs.isEmpty then ret env else (stuck : M Env)) = storeAts C [] := by
  funext xs env
  cases xs <;> rfl
theorem at_cons (C : CallT) (t : At) (ts : List At) : atCons (storeAt C t) (storeAts C ts) = storeAts C (t :: ts) := by
  funext xs env
  cases xs <;> rfl
theorem ok_At {k : Nat} (g : Gd P n c X) {t : At} {x : Expr} (h : chkAt P k c t x = true) : PG X x (tMAt X.K (storeAt (callN P.T n) t)) := by
  obtain ⟨hE, _⟩ := ok_all P n k
  unfold chkAt at h
  split at h
  · simp only [Bool.and_eq_true, decide_eq_true_eq] at h
    obtain ⟨s1, s2⟩ := g.store h.2
    exact c_atName g.ndX (g.slot h.1) s1 s2
  · simp only [Bool.and_eq_true] at h
    obtain ⟨⟨h1, h2⟩, h3⟩ := h
    exact c_atSub h1 (hE c _ _ X g h2) (hE c _ _ X g h3)
  · cases h
theorem ok_Ats {k : Nat} (g : Gd P n c X) : ∀ {ts : List At} {xs : List Expr}, chkAts P k c ts xs = true → PGs X xs (tMAts X.K (storeAts (callN P.T n) ts)) ∧ xs.all noStar = true
  | [], [], _ => ⟨by rw [← at_nil]; exact c_atNil, rfl⟩
  | [], _ :: _, h => by cases h
  | _ :: _, [], h => by cases h
  | t :: ts, x :: xs, h => by
    unfold chkAts at h
    simp only [Bool.and_eq_true] at h
    obtain ⟨⟨h1, h2⟩, h3⟩ := h
    obtain ⟨a1, a2⟩ := ok_Ats g h3
    refine ⟨?_, by simp only [List.all_cons, h1, a2, Bool.and_self]⟩
    rw [← at_cons]
    exact c_atCons h1 (ok_At g h2) a1
/-! ### a, b = x, y -/
theorem swp_ok (g : Gd P n c X) {ts vs : List Expr} {k k2 : Nat} {p p2 : Pos} {sw : Bool} (h : swpB c ts vs = some sw) :
    swappedStores [.Tuple ts k p] (.Tuple vs k2 p2) X.env = pure (if sw then some (nmsOf c ts) else none) ∧ (sw = true → (nmsOf c ts).length = ts.length) := by
  have hb := g.blkF
  have hn : ∀ l : Nat, ts.filterMap (fun
      | .Name id pos => if X.env.kindOf id == some .local && pos.line == l then some id else none
      | _ => none) = ts.filterMap (nmOf c l) := fun l => by
    congr 1
    funext e
    cases e <;> first | rfl | skip
    show (if X.env.scope.names.lookup _ == some .local && _ then _ else _) = _
    rw [g.sc]
    rfl
  have whole : swappedStores [.Tuple ts k p] (.Tuple vs k2 p2) X.env = (if (!(ts.length == 2 || ts.length == 3) || vs.length != ts.length || X.env.blockKind != .function) = true then pure none else
      if vs.any starB = true then pure none else
      if ((nmsOf c ts).length != ts.length || (nmsOf c ts).eraseDups.length != (nmsOf c ts).length) = true then pure none else
      if vs.all (foldedForSure 8) = true then pure none else
      if vs.all (constantsAlone 8) = true then (do let _ ← (unsupported "assign.tuple-of-constant-expressions:order-of-the-stores" : Sem PUnit); return some (nmsOf c ts)) else pure (some (nmsOf c ts))) := by
    unfold nmsOf
    rw [← hn]
    rfl
  rw [whole]
  have e1 : (!(ts.length == 2 || ts.length == 3) || vs.length != ts.length || X.env.blockKind != .function) = (!(ts.length == 2 || ts.length == 3) || vs.length != ts.length) := by
    rw [hb]
    simp
  rw [e1]
  unfold swpB at h
  split at h
  · rename_i h1
    cases h
    exact ⟨by rw [if_pos h1]; rfl, fun z => by cases z⟩
  · rename_i h1
    rw [if_neg h1]
    split at h
    · rename_i h2
      cases h
      exact ⟨by rw [if_pos h2]; rfl, fun z => by cases z⟩
    · rename_i h2
      rw [if_neg h2]
      split at h
      · rename_i h3
        cases h
        exact ⟨by rw [if_pos h3]; rfl, fun z => by cases z⟩
      · rename_i h3
        split at h
        · rename_i h4
          cases h
          exact ⟨by rw [if_neg h3, if_pos h4]; rfl, fun z => by cases z⟩
        · rename_i h4
          split at h
          · cases h
          · rename_i h5
            cases h
            refine ⟨by rw [if_neg h3, if_neg h4, if_neg h5]; rfl, fun _ => ?_⟩
            simp only [Bool.or_eq_true, bne_iff_ne, ne_eq, not_or, Decidable.not_not] at h3
            exact h3.1
end
end Ev

set_option Elab.async false
set_option linter.all false
set_option maxRecDepth 100000
set_option maxHeartbeats 8000000
/-! Snd18: the check is sound, statements whole; defs. -/
namespace Ev
open PySem PySem.Spec PyProof.Rows L2
section
variable {P : Pg} {n : Nat} {c : Ck} {X : Cx} {H0 : L2.Hp}
theorem ok_ns (C : CallT) (g : Gd P n c X) : ∀ {ts : List At} {ns : List Str}, Paired (fun t y => ∃ i, t = At.name i ∧ c.N[i]? = some y ∧ c.st y = true) ts ns → PNs X ns (tMAts X.K (storeAts C ts))
  | _, _, .nil => by rw [← at_nil]; exact c_nsNil
  | _, _, .cons ⟨i, rfl, h1, h2⟩ b => by
    obtain ⟨s1, s2⟩ := g.store h2
    rw [← at_cons]
    exact c_nsCons g.ndX (g.slot h1) s1 s2 (ok_ns C g b)
theorem ns_pair {P : Pg} {k l : Nat} : ∀ {ts : List At} {xs : List Expr}, chkAts P k c ts xs = true → (xs.filterMap (nmOf c l)).length = xs.length → Paired (fun t y => ∃ i, t = At.name i ∧ c.N[i]? = some y ∧ c.st y = true) ts (xs.filterMap (nmOf c l))
  | [], [], _, _ => .nil
  | [], _ :: _, h, _ => by cases h
  | _ :: _, [], h, _ => by cases h
  | t :: ts, x :: xs, h, hl => by
    unfold chkAts at h
    simp only [Bool.and_eq_true] at h
    obtain ⟨⟨h1, h2⟩, h3⟩ := h
    have hle : (xs.filterMap (nmOf c l)).length ≤ xs.length := List.length_filterMap_le ..
    cases e : nmOf c l x with
    | none =>
      rw [List.filterMap_cons_none e, List.length_cons] at hl
      omega
    | some y =>
      rw [List.filterMap_cons_some e, List.length_cons, List.length_cons] at hl
      rw [List.filterMap_cons_some e]
      refine .cons ?_ (ns_pair h3 (by omega))
      unfold nmOf at e
      split at e
      · rename_i id pos
        split at e
        · cases e
          unfold chkAt at h2
          split at h2
          · rename_i i y p hy
            simp only [Bool.and_eq_true, decide_eq_true_eq] at h2
            cases hy
            exact ⟨i, rfl, h2⟩
          · rename_i heq
            cases heq
          · cases h2
        · cases e
      · cases e
theorem isLc_some {e : Expr} {s : Scope} {p : Pos} (h : isLc e = some (s, p)) : ∃ elt gs, e = .ListComp elt gs s p := by
  cases e <;> first | (cases h; exact ⟨_, _, rfl⟩) | cases h
theorem asg_eq (C : CallT) (t : At) (e : E) : ex C (.asg t e) = asgM (ev C e) (storeTop C t) := rfl
theorem ok_S {k : Nat} (hSs : OkSs P n k) : OkS P n (k + 1) := fun c s x X H0 g h => by
  obtain ⟨hE, hT, hV, hW, hA, hK, hO, hI⟩ := ok_all P n k
  unfold chkS at h
  split at h
  · rename_i i e y py v sp
    simp only [Bool.and_eq_true, decide_eq_true_eq] at h
    obtain ⟨⟨h1, h2⟩, h3⟩ := h
    obtain ⟨s1, s2⟩ := g.store h2
    split at h3
    · simp only [Bool.and_eq_true] at h3
      exact c_asg (sws_no h3.1) rfl rfl (hE c _ _ X g h3.2) (c_atName g.ndX (g.slot h1) s1 s2)
    · rename_i scope pos hl
      obtain ⟨elt, gs, rfl⟩ := isLc_some hl
      split at h3
      · rename_i hsw
        exact asg_end (ok_C g hsw h1 k e h3)
      · rename_i hsw
        exact c_asgLc (by rw [swB_of g]; simpa using hsw) (hE c _ _ X g h3) g.ndX (g.slot h1) s1 s2
  · rename_i o i e l j p v sp
    simp only [Bool.and_eq_true] at h
    obtain ⟨⟨⟨h1, h3⟩, h4⟩, h5⟩ := h
    exact c_asg sws_sub rfl rfl (hE c _ _ X g h5) (c_atSub h1 (hE c _ _ X g h3) (hE c _ _ X g h4))
  · rename_i ts e es kk p v sp
    simp only [Bool.and_eq_true, decide_eq_true_eq] at h
    obtain ⟨⟨⟨⟨⟨h1, h2⟩, h3⟩, h4⟩, h5⟩, h6⟩ := h
    exact c_asg (sws_no h1) (by rw [h2]; rfl) rfl (hE c _ _ X g h6) (c_atTup g.calm h3 h4 (ok_Ats g h5).1)
  · rename_i sw ts es xs k2 p2 vs k3 p3 sp
    simp only [Bool.and_eq_true, decide_eq_true_eq] at h
    obtain ⟨⟨⟨⟨h1, h2⟩, h3⟩, h4⟩, h5⟩ := h
    obtain ⟨w1, w2⟩ := swp_ok (k := k2) (k2 := k3) (p := p2) (p2 := p3) g h1
    obtain ⟨a1, a2⟩ := hA c _ _ X g h5
    cases sw with
    | false =>
      have fin := c_par (H0 := H0) (spos := sp) g.calm w1 h2 a1 (ok_Ats g h4).1
      rw [h3] at fin
      exact fin
    | true =>
      have hl := w2 rfl
      have pr := Paired.rev (ns_pair h4 hl)
      have fin := c_parSwp (H0 := H0) (spos := sp) g.calm w1 hl a1 (ok_ns (callN P.T n) g pr)
      rw [h3] at fin
      exact fin
  · rename_i i op e y p o v sp
    simp only [Bool.and_eq_true, decide_eq_true_eq] at h
    obtain ⟨⟨⟨⟨h1, h2⟩, rfl⟩, h4⟩, h5⟩ := h
    obtain ⟨s1, s2⟩ := g.store h2
    refine c_aug op g.ndX (g.slot h1) s1 s2 ?_ (hE c _ _ X g h5)
    rcases Bool.or_eq_true_iff.mp h4 with h | h
    · exact .inl (of_decide_eq_true h)
    · exact .inr (of_decide_eq_true h)
  · simp only [Bool.and_eq_true] at h
    exact c_expr h.1 (hE c _ _ X g h.2)
  · exact c_ret (hE c _ _ X g h)
  · rename_i d a b t u v p
    simp only [Bool.and_eq_true] at h
    obtain ⟨⟨h1, h2⟩, h3⟩ := h
    refine PS.imp (c_if (H0 := H0) (hT c _ _ X g h1) (hSs c _ _ X H0 g h2) (hSs c _ _ X H0 g h3)) fun D σ H q => ?_
    obtain ⟨ρ, hp, env, f, env', hp', le, hr, er, e, q⟩ := q
    refine ⟨ρ, hp, env, f, env', hp', le, hr, er, ?_, q⟩
    rw [← e]
    show bnd (bnd (ev (callN P.T n) d env) fun x => lift (toBool x)) (fun r => if r then exs (callN P.T n) a env else exs (callN P.T n) b env) hp = bnd (ev (callN P.T n) d env) (fun x => bnd (lift (toBool x)) fun r => if r then exs (callN P.T n) a env else exs (callN P.T n) b env) hp
    unfold bnd
    cases ev (callN P.T n) d env hp with
    | none => rfl
    | some z => cases hz : lift (toBool z.1) z.2 <;> simp only [hz]
  · rename_i tg it body tx ix b p
    simp only [Bool.and_eq_true] at h
    obtain ⟨⟨⟨h1, h2⟩, h3⟩, h4⟩ := h
    exact c_for g.xe g.calm h1 (hI c _ _ _ X g h2) ((ok_tg k).1 c _ _ _ X P n g h3) (hSs c _ _ X H0 g h4)
  · rename_i fuel d body t b p
    simp only [Bool.and_eq_true] at h
    exact c_while g.xe (hT c _ _ X g h.1) (hSs c _ _ X H0 g h.2)
  · exact c_brk
  · exact c_cont
  · exact c_never
  · cases h
theorem docB_ok {x : Stmt} (h : docB x = true) : PS X x tNext := by
  unfold docB at h
  split at h
  · exact ps_doc
  · cases h
theorem ok_Ss {k : Nat} (hS : OkS P n k) (hSs : OkSs P n k) : OkSs P n (k + 1) := fun c ss xs X H0 g h => by
  unfold chkSs at h
  split at h
  · exact c_stNil
  · rename_i x xs _
    split at h
    · rename_i hd
      exact PSs.imp (pss_cons (docB_ok hd) (hSs c _ _ X H0 g h)) fun D σ H q => q
    · split at h
      · simp only [Bool.and_eq_true] at h
        exact c_stCons (hS c _ _ X H0 g h.1) (hSs c _ _ X H0 g h.2)
      · cases h
  · cases h
theorem ok_sts (P : Pg) (n : Nat) : ∀ k, OkS P n k ∧ OkSs P n k
  | 0 => ⟨fun _ _ _ _ _ _ h => (by cases h), fun _ _ _ _ _ _ h => (by cases h)⟩
  | k + 1 => by
    obtain ⟨h1, h2⟩ := ok_sts P n k
    exact ⟨ok_S h2, ok_Ss h1 h2⟩
end
end Ev

set_option Elab.async false
set_option linter.all false
set_option maxRecDepth 100000
set_option maxHeartbeats 8000000
/-! Snd19: defs keep the promise by the evaluator; a law. -/
namespace Ev
open PySem PySem.Spec PyProof.Rows L2
structure DefT where
  fn : Fn
  ps : List Str
  N : List Str
  sc : Scope
  body : List Stmt
def defCk (sc : Scope) (N : List Str) : Ck := ⟨sc, N, fun x => decide (sc.names.lookup x = some .local) || decide (sc.names.lookup x = some .cell)⟩
def DefT.ok (P : Pg) (k : Nat) (d : DefT) : Bool := C8.scC d.N d.ps d.sc && decide (d.fn.np = d.ps.length) && decide (d.fn.ns = d.N.length) && chkSs P k (defCk d.sc d.N) d.fn.body d.body
section
variable {P : Pg} {pr : Program} {w : World} {K : PySem.W.Frag} {mg : Str → Option Value} {base : Heap}
/-- what is known of the module's names -/
structure Md (P : Pg) (K : PySem.W.Frag) (mg : Str → Option Value) : Prop where
  free : ∀ x ∈ P.free, mg x = none
  bf : ∀ p ∈ P.bf, mg p.1 = some (.builtin p.2)
  cs : ∀ p ∈ P.cs, ∃ u v, mg p.1 = some u ∧ RelV v u ∧ ∀ H, RD K H p.2 v
def ShAt (P : Pg) (pr : Program) (w : World) (K : PySem.W.Frag) (mg : Str → Option Value) (base : Heap) (n : Nat) : Prop := ∀ x m ks order, (x, m, ks, order) ∈ P.sh → ∃ f fd ps, mg x = some (.ref f) ∧ PySem.W.keepIn K (.ref f) = true ∧ Shape fd ps ks m order ∧ FnG pr w K mg base n f fd ps (spN K P.T n x)
theorem start_rel {ρ : List Addr} {H : L2.Hp} {as : List HV} {vs : List V} {N : List Str} {np ns : Nat} (r : RHs K ρ H as vs) (h1 : as.length = np) (h2 : ns = N.length) (hle : np ≤ N.length) : ERel K ρ H (as.map some ++ List.replicate (ns - np) none) (L2.start N vs) := by
  have hl : as.length = vs.length := Paired.length r
  unfold L2.start
  refine ⟨by simp only [List.length_append, List.length_map, List.length_replicate]; omega, fun i x e => ?_⟩
  by_cases hi : i < as.length
  · rw [List.getElem?_append_left (by simpa using hi), List.getElem?_map] at e
    cases ea : as[i]? with
    | none => rw [ea] at e; cases e
    | some y =>
      rw [ea] at e
      cases e
      obtain ⟨v, ev, rv⟩ := Paired.get' r ea
      exact ⟨v, by rw [List.getElem?_append_left (by simp; omega), List.getElem?_map, ev]; rfl, rv⟩
  · rw [List.getElem?_append_right (by simpa using hi), List.getElem?_replicate] at e
    split at e <;> cases e
theorem def_step {x : Str} {n k : Nat} {d : DefT} {nm qual : Str} {params : Arguments} {dvs : List V} {kws : List (Str × V)} {f : Addr} {fd : FuncData} (M : Md P K mg) (F : FunD K nm qual params d.body d.sc dvs kws f fd) (hd : d.ok P k = true) (hl : lookF x P.T = some d.fn)
    (sh : ShAt P pr w K mg base n) : FnG pr w K mg base (n + 1) f fd d.ps (spN K P.T (n + 1) x) := by
  unfold DefT.ok at hd
  simp only [Bool.and_eq_true, decide_eq_true_eq] at hd
  obtain ⟨⟨⟨h1, h2⟩, h3⟩, h4⟩ := hd
  have S := C8.fnScope_by h1
  have hpl : d.ps.length ≤ d.N.length := by
    have := congrArg List.length S.pre
    rw [List.length_take] at this
    omega
  have run : ∀ {as : List HV} {hp : Hp} {r : RV} {hp' : Hp}, callN P.T (n + 1) x as hp = some (r, hp') → as.length = d.fn.np ∧ ∃ fl env', exs (callN P.T n) d.fn.body (as.map some ++ List.replicate (d.fn.ns - d.fn.np) none) hp = some ((fl, env'), hp') ∧ (fl = .rt r ∨ (fl = .nx ∧ r = rD .none)) := fun {as hp r hp'} e => by
    unfold callN at e
    rw [hl] at e
    dsimp only at e
    unfold runFn at e
    split at e
    · rename_i hc
      refine ⟨eq_of_beq hc, ?_⟩
      split at e
      · rename_i v env' h1 ex
        cases e
        exact ⟨_, env', ex, .inl rfl⟩
      · rename_i env' h1 ex
        cases e
        exact ⟨_, env', ex, .inr ⟨rfl, rfl⟩⟩
      · cases e
    · cases e
  refine fng_of F S (fun vs H Q q => ?_) fun cdv A outer s H vs Q hr hg q => ?_
  · obtain ⟨ρ, hp, as, r, hp', hrel, rv, e, _⟩ := q
    rw [← Paired.length rv, ← h2]
    exact (run e).1
  · obtain ⟨ρ, hp, as, r, hp', hrel, rv, e, q⟩ := q
    obtain ⟨ha, fl, env', ex, hfl⟩ := run e
    have g : Gd P n (defCk d.sc d.N) (cxOf noX pr w K mg base d.N qual d.sc f cdv A outer s H noE).nox := by
      refine ⟨rfl, rfl, S.nd, rfl, rfl, ?_, hg, S.kind, fun y hy => ⟨?_, .inl rfl⟩, M.free, M.bf, M.cs, n, hr, sh⟩
      · have := hr.un
        show (A.deeper _).units + 200 < cLine
        omega
      · rcases Bool.or_eq_true_iff.mp hy with h | h
        · exact .inl (of_decide_eq_true h)
        · exact .inr (of_decide_eq_true h)
    refine ⟨_, (ok_sts P n k).2 _ _ _ _ H g h4, ρ, hp, _, fl, env', hp', Le.refl, hrel, start_rel rv ha h3 (by rw [h2]; exact hpl), ex, ?_⟩
    rcases hfl with rfl | ⟨rfl, rfl⟩
    · exact fun ρ' H' v st hr' rr => q ρ' H' v st hr' rr
    · exact fun ρ' H' σ' st hr' _ => q ρ' H' .non st hr' rfl
theorem fng_zero {x : Str} {j : Nat} {f : Addr} {fd : FuncData} {ps : List Str} : FnG pr w K mg base j f fd ps (spN K P.T 0 x) :=
  ⟨fun vs H Q q => (by obtain ⟨_, _, _, _, _, _, _, e, _⟩ := q; cases e), fun A outer s H as us vs Q _ _ _ _ _ q => (by obtain ⟨_, _, _, _, _, _, _, e, _⟩ := q; cases e)⟩
/-- the table of what is called: how each is written, what it is -/
def ShOk (P : Pg) (K : PySem.W.Frag) (mg : Str → Option Value) (k : Nat) : Prop := ∀ x m ks order, (x, m, ks, order) ∈ P.sh → ∃ (f : Addr) (fd : FuncData) (d : DefT) (nm qual : Str) (params : Arguments) (dvs : List V) (kws : List (Str × V)), mg x = some (.ref f) ∧ PySem.W.keepIn K (.ref f) = true ∧ Shape fd d.ps ks m order ∧
  FunD K nm qual params d.body d.sc dvs kws f fd ∧ d.ok P k = true ∧ lookF x P.T = some d.fn
theorem sh_all {k : Nat} (M : Md P K mg) (S : ShOk P K mg k) : ∀ n, ShAt P pr w K mg base n
  | 0 => fun x m ks order h => by
    obtain ⟨f, fd, d, nm, qual, params, dvs, kws, h1, h2, h3, h4, h5, h6⟩ := S x m ks order h
    exact ⟨f, fd, d.ps, h1, h2, h3, fng_zero⟩
  | n + 1 => fun x m ks order h => by
    obtain ⟨f, fd, d, nm, qual, params, dvs, kws, h1, h2, h3, h4, h5, h6⟩ := S x m ks order h
    exact ⟨f, fd, d.ps, h1, h2, h3, def_step M h4 h5 h6 (sh_all M S n)⟩
end
/-! ### a law -/
/-- the script is handed in; the law says True -/
theorem callG {P : Program} {w : World} {K : PySem.W.Frag} {mg mb : Str → Option Value} {k : Nat} {fa a : Addr} {fd : FuncData} {x : Str} {sp : SpG} {z : Shared} {us : List Value} {ns : List Int}
    (kin : K.In z.heap) (gl : z.heap.Ns mainGlobals mg) (bl : z.heap.Ns builtinsNs mb) (bb : ∀ y : Str, y ≠ "__name__" → mb y = bootBuiltins y) (nl : z.heap.NoLimit) (gn : z.gens = #[])
    (at_ : z.heap.get? a = some { cls := .type "list", data := .seq us.toArray }) (are : IntsAre us ns) (le : ns.length ≤ sizeLine) (room : Room k callerA)
    (F : ∀ base : Heap, K.In base → base.Ns mainGlobals mg → FnG P w K mg base k fa fd [x] sp) (bind : ∀ (s : Shared) (u : Value), BindsTo s fd ⟨[u], []⟩ [(x, u)])
    (ok : ∀ H : L2.Hp, ScrX K H a (ns.map V.int) → sp [.ref a] H fun v _ => v = .bl true) :
    codeAny (model P w) callerA (.call (.ref fa) ⟨[.ref a], []⟩) (fun r t => r = .ok (.ret (.bool true)) ∧ OldK z.heap t.heap ∧ t.os = z.os ∧ AllBare t.gens) z := by
  have vi := vals_ints are
  have li := are.length
  -- H: nothing is tracked but the script, if it is not one of the module's own
  have go : ∀ H : L2.Hp, (∀ b o, H b = some o → b = a ∧ o = .frz { cls := .type "list", data := .seq us.toArray } (.lst (ns.map V.int))) → (H a ≠ none → K.lookup a = none) → ScrX K H a (ns.map V.int) →
      codeAny (model P w) callerA (.call (.ref fa) ⟨[.ref a], []⟩) (fun r t => r = .ok (.ret (.bool true)) ∧ OldK z.heap t.heap ∧ t.os = z.os ∧ AllBare t.gens) z := fun H only out scr => by
    have held : HOk P w H z.heap := fun b o e => by
      obtain ⟨rfl, rfl⟩ := only b o e
      exact ⟨at_, by rw [List.length_map]; exact le, us, 0, vi, at_⟩
    have unt : ∀ {b : Addr} {o : Obj}, z.heap.get? b = some o → (∀ xs n, o.data ≠ .seq xs n) → H b = none := fun {b o} e nd => by
      cases q : H b with
      | none => rfl
      | some u =>
        obtain ⟨rfl, _⟩ := only b u q
        rw [at_] at e
        cases e
        exact absurd rfl (nd us.toArray 0)
    have ns_ : ∀ {b : Addr} {m : Str → Option Value}, z.heap.Ns b m → (hidT z.heap H).Ns b m := fun {b m} ⟨o, es, ep, e, d, r⟩ =>
      ⟨o, es, ep, hidT_get e (unt e fun xs n y => by rw [d] at y; cases y), d, r⟩
    have kb : K.In (hidT z.heap H) := fun b o e => by
      refine hidT_get (kin b o e) ?_
      cases q : H b with
      | none => rfl
      | some u =>
        obtain ⟨rfl, _⟩ := only b u q
        rw [out (by rw [q]; simp)] at e
        cases e
    have md : Mod K mg (hidT z.heap H) := ⟨kb, ns_ gl, ⟨mb, ns_ bl, bb⟩, by obtain ⟨mc, m1, m2⟩ := nl; exact ⟨mc, ns_ m1, m2⟩⟩
    have en : Env0 P w K mg (hidT z.heap H) callerA [] z H := ⟨rfl, md, fun b o e => of_hidT e, Nat.le_of_eq (hidT_size _ _), trivial, fun b hb => (by cases hb), held, .of_eq gn⟩
    refine codeAny_mono ((F _ kb (ns_ gl)).run callerA [] z H ⟨[.ref a], []⟩ [.ref a] [.ref a] _ room rfl en (bind z (.ref a)) (.cons rfl .nil) (ok H scr)) fun r t h => ?_
    cases r with
    | error _ => exact False.elim h
    | ok fl =>
      cases fl with
      | ret u =>
        obtain ⟨v, H', hos, bare, un, held', rv, q⟩ := h
        have q2 : v = .bl true := q
        subst q2
        cases rv
        refine ⟨rfl, OldK.of_keep fun b o e => ?_, hos, bare⟩
        cases q3 : H b with
        | none => exact un.keep b o e q3 (fun y => by cases y) (fun y => by cases y)
        | some u =>
          obtain ⟨rfl, rfl⟩ := only b u q3
          obtain ⟨e2, _⟩ := held' b _ (un.frzs b _ _ q3)
          rw [at_] at e
          cases e
          exact e2
      | _ => exact False.elim h
  cases hk : K.lookup a with
  | some o =>
    have e := kin a o hk
    rw [at_] at e
    cases e
    exact go (fun _ => none) (fun b o e => by cases e) (fun y => absurd rfl y) (.inr ⟨_, us.toArray, _, hk, rfl, rfl, rfl, by rw [List.size_toArray, li]; exact le, by simpa using vi⟩)
  | none =>
    refine go (fun b => if b = a then some (.frz { cls := .type "list", data := .seq us.toArray } (.lst (ns.map V.int))) else none) (fun b o e => ?_) (fun _ => hk) (.inl ⟨_, if_pos rfl⟩)
    split at e
    · cases e
      exact ⟨by assumption, rfl⟩
    · cases e
theorem walkG {l : PySem.W.OpenLaw} {n k : Nat} {q : Program} {loose : List Str} {XP : (Str → Option Value) → Heap → Prop} {YP : World → Heap → Prop} {d : DefRec} {x : Str}
    (hn : l.most = some n) (hz : n ≤ sizeLine) (hdf : d.params.defaults = []) (room : Room k callerA)
    (F : ∀ (w : World) (mg : Str → Option Value) (fa : Addr) (h : Heap), YP w h → h.Ns mainGlobals mg → mg d.name = some (.ref fa) →
      ∃ (K : PySem.W.Frag) (fd : FuncData) (sp : SpG), K.In h ∧ (∀ (s : Shared) (u : Value), BindsTo s fd ⟨[u], []⟩ [(x, u)]) ∧ (∀ (H : L2.Hp) (a : Addr) (ns : List Int), ns.length ≤ n → ScrX K H a (ns.map V.int) → sp [.ref a] H fun v _ => v = .bl true) ∧
        ∀ base : Heap, K.In base → base.Ns mainGlobals mg → FnG l.prog w K mg base k fa fd [x] sp) :
    PySem.W.WalkO q loose XP YP l.row.toRowW d [] (fun f vs => PySem.call f vs) :=
  Att.attach_call hn hdf fun w s0 z mg mb fa o pm cd doc a us ns G Y _ _ _ hmg hobj are hlen gn => by
    obtain ⟨K, fd, sp, kin, bind, ok, FF⟩ := F w mg fa _ Y G.T.g hmg
    exact callG kin G.T.g G.T.b G.T.builtins G.T.nolimit gn hobj are (Nat.le_trans hlen hz) room FF bind fun H scr => ok H a ns hlen scr
/-- the law's promise from the evaluator's run -/
theorem law_sp {P : Pg} {K : PySem.W.Frag} {n : Nat} {x : Str} {H : L2.Hp} {a : Addr} {ns : List Int} (scr : ScrX K H a (ns.map V.int)) (e : ∃ hp', callN P.T n x [.scr ns] [] = some (rD (.bool true), hp')) : spN K P.T n x [.ref a] H fun v _ => v = .bl true := by
  obtain ⟨hp', e⟩ := e
  exact ⟨[], [], [.scr ns], _, hp', HRel.nil, .cons ⟨a, rfl, scr⟩ .nil, e, fun ρ' H' v _ _ r => r⟩
end Ev

set_option Elab.async false
set_option linter.all false
set_option maxRecDepth 100000
set_option maxHeartbeats 4000000
/-! Cst: the module's constants, tuples too, by one look. -/
namespace Ev
open PySem PySem.Spec PyProof.Rows L2
mutual
def datB (K : PySem.W.Frag) : PyData → Value → Bool
  | .none, u => match u with
    | .none => true
    | _ => false
  | .bool b, u => match u with
    | .bool c => b == c
    | _ => false
  | .int i, u => match u with
    | .int j _ => decide (i = j)
    | _ => false
  | .str x, u => match u with
    | .str y _ => decide (x = y)
    | _ => false
  | .tuple ds, u => match u with
    | .ref a => match K.lookup a with
      | some ⟨.type c, none, .seq its _, _⟩ => decide (c = "tuple") && (decide (its.size ≤ sizeLine) && datsB K ds its.toList)
      | _ => false
    | _ => false
  | .list _, _ => false
  | .dict _, _ => false
def datsB (K : PySem.W.Frag) : List PyData → List Value → Bool
  | [], us => us.isEmpty
  | d :: ds, us => match us with
    | u :: us => datB K d u && datsB K ds us
    | [] => false
end
mutual
theorem datB_ok {K : PySem.W.Frag} : ∀ (d : PyData) (u : Value), datB K d u = true → ∃ v, RelV v u ∧ ∀ H, RD K H d v
  | .none, u, h => by
    cases u with
    | none => exact ⟨.non, rfl, fun _ => rfl⟩
    | _ => cases h
  | .bool b, u, h => by
    cases u with
    | bool c =>
      have e : b = c := beq_iff_eq.mp h
      exact ⟨.bl b, by rw [e]; rfl, fun _ => rfl⟩
    | _ => cases h
  | .int i, u, h => by
    cases u with
    | int j t =>
      have e : i = j := of_decide_eq_true h
      exact ⟨.int i, ⟨t, by rw [e]⟩, fun _ => rfl⟩
    | _ => cases h
  | .str x, u, h => by
    cases u with
    | str y t =>
      have e : x = y := of_decide_eq_true h
      exact ⟨.str x, ⟨t, by rw [e]⟩, fun _ => rfl⟩
    | _ => cases h
  | .tuple ds, u, h => by
    cases u with
    | ref a =>
      have h2 : (match K.lookup a with
        | some ⟨.type c, none, .seq its _, _⟩ => decide (c = "tuple") && (decide (its.size ≤ sizeLine) && datsB K ds its.toList)
        | _ => false) = true := h
      split at h2
      · rename_i c its n sl e
        obtain ⟨h3, h4⟩ := Bool.and_eq_true_iff.mp h2
        obtain ⟨h5, h6⟩ := Bool.and_eq_true_iff.mp h4
        obtain ⟨vs, hv, hr⟩ := datsB_ok ds its.toList h6
        exact ⟨.ref a, rfl, fun H => ⟨a, vs, rfl, .inr ⟨_, its, n, e, congrArg Value.type (of_decide_eq_true h3), rfl, rfl, of_decide_eq_true h5, hv⟩, hr H⟩⟩
      · cases h2
    | _ => cases h
  | .list _, _, h => by cases h
  | .dict _, _, h => by cases h
theorem datsB_ok {K : PySem.W.Frag} : ∀ (ds : List PyData) (us : List Value), datsB K ds us = true → ∃ vs, Vals vs us ∧ ∀ H, RDs K H ds vs
  | [], us, h => by
    have e : us = [] := List.isEmpty_iff.mp h
    subst e
    exact ⟨[], .nil, fun _ => rfl⟩
  | d :: ds, us, h => by
    cases us with
    | nil => cases h
    | cons u us =>
      obtain ⟨h1, h2⟩ := Bool.and_eq_true_iff.mp (show (datB K d u && datsB K ds us) = true from h)
      obtain ⟨v, r1, r2⟩ := datB_ok d u h1
      obtain ⟨vs, r3, r4⟩ := datsB_ok ds us h2
      exact ⟨v :: vs, .cons r1 r3, fun H => ⟨v, vs, rfl, r2 H, r4 H⟩⟩
end
/-- a constant by its name -/
def cstB (K : PySem.W.Frag) (p : Str × PyData) : Bool := match PySem.W.nsIn K mainGlobals p.1 with
  | some (some u) => datB K p.2 u
  | _ => false
theorem cstB_ok {K : PySem.W.Frag} {mg : Str → Option Value} {h : Heap} (X : K.In h) (G : h.Ns mainGlobals mg) {p : Str × PyData} (c : cstB K p = true) : ∃ u v, mg p.1 = some u ∧ RelV v u ∧ ∀ H, RD K H p.2 v := by
  unfold cstB at c
  split at c
  · rename_i u e
    obtain ⟨v, r1, r2⟩ := datB_ok p.2 u c
    exact ⟨u, v, PySem.W.mg_of X G e, r1, r2⟩
  · cases c
end Ev

set_option Elab.async false
set_option linter.all false
set_option maxRecDepth 100000
set_option maxHeartbeats 0
namespace Hd
open PySem PySem.Spec PyProof.Rows L2
def top (i : Nat) : Stmt := PySem.Challenge.pw_calledpapers_k90_whole_consistent_shares.main.body.getD i (.Pass ⟨0, 0, 0, 0⟩)
def dd (x : Str) (i : Nat) : He.DefD := ⟨(x, none), x, x, defArgs (top i), defBody (top i), defScope (top i), [], []⟩
def fn : List He.DefD := [dd "is_list" 2, dd "is_integer" 3, dd "is_count" 4, dd "is_position" 5, dd "is_ratio" 6, dd "made" 14, dd "common" 15, dd "r_plus" 16, dd "r_minus" 17, dd "r_times" 18, dd "r_over" 19, dd "r_less" 20, dd "r_total" 21, dd "claim_is_right" 28, dd "asked_is_right" 29, dd "is_within" 30, dd "awards_are_right" 31, dd "check_rule" 32, dd "check_asked" 33, dd "check_amount" 34, dd "check_shared" 35, dd "check_awards" 36, dd "as_ratios" 37, dd "in_sequence" 38, dd "least_one" 39, dd "award_level" 40, dd "awards_by" 41, dd "rest_by" 42, dd "missing_of" 43, dd "garments_by" 44, dd "shared_by" 45, dd "both_get" 46, dd "shares_so" 47, dd "shared" 48, dd "pair_out" 49, dd "by_garment" 50, dd "least_amount" 51, dd "_law_pot" 53, dd "_law_draw" 54, dd "_law_pick" 55, dd "_law_made" 56, dd "_law_add" 57, dd "_law_sub" 58, dd "_law_mul" 59, dd "_law_div" 60, dd "_law_lt" 61, dd "_law_total" 62, dd "_law_asked" 64, dd "_law_amount" 65, dd "_law_garment" 66, dd "_law_pair_out" 67, dd "_law_consistent" 68, dd "_law_least_right" 69, dd "_law_right" 70, dd "law" 71]
def fa : List He.Fa := [.glo "is_list", .glo "is_integer", .glo "is_count", .glo "is_position", .glo "is_ratio", .glo "made", .glo "common", .glo "r_plus", .glo "r_minus", .glo "r_times", .glo "r_over", .glo "r_less", .glo "r_total", .glo "claim_is_right", .glo "asked_is_right", .glo "is_within", .glo "awards_are_right", .glo "check_rule", .glo "check_asked", .glo "check_amount", .glo "check_shared", .glo "check_awards", .glo "as_ratios", .glo "in_sequence", .glo "least_one", .glo "award_level", .glo "awards_by", .glo "rest_by", .glo "missing_of", .glo "garments_by", .glo "shared_by", .glo "both_get", .glo "shares_so", .glo "shared", .glo "pair_out", .glo "by_garment", .glo "least_amount", .glo "_law_pot", .glo "_law_draw", .glo "_law_pick", .glo "_law_made", .glo "_law_add", .glo "_law_sub", .glo "_law_mul", .glo "_law_div", .glo "_law_lt", .glo "_law_total", .glo "_law_asked", .glo "_law_amount", .glo "_law_garment", .glo "_law_pair_out", .glo "_law_consistent", .glo "_law_least_right", .glo "_law_right", .glo "law", .free "abs", .free "all", .free "bool", .free "divmod", .free "enumerate", .free "int", .free "isinstance", .free "len", .free "list", .free "max", .free "min", .free "range", .free "repr", .free "str", .free "sum", .free "tuple", .free "zip", .int "MOST_ASKED" 99, .int "MOST_TAKERS" 8]
def loose0 : List Str := ["is_list", "is_integer", "is_count", "is_position", "is_ratio", "CallError", "InvalidAmount", "InvalidAsked", "InvalidAt", "InvalidRule", "made", "common", "r_plus", "r_minus", "r_times", "r_over", "r_less", "r_total", "RULES", "MOST_ASKED", "MOST_TAKERS", "NOUGHT", "HALF", "claim_is_right", "asked_is_right", "is_within", "awards_are_right", "check_rule", "check_asked", "check_amount"]
def loose1 : List Str := ["check_shared", "check_awards", "as_ratios", "in_sequence", "least_one", "award_level", "awards_by", "rest_by", "missing_of", "garments_by", "shared_by", "both_get", "shares_so", "shared", "pair_out", "by_garment", "least_amount", "_law_pot", "_law_draw", "_law_pick", "_law_made", "_law_add", "_law_sub", "_law_mul", "_law_div", "_law_lt", "_law_total", "_law_rising", "_law_asked", "_law_amount"]
def loose2 : List Str := ["_law_garment", "_law_pair_out", "_law_consistent", "_law_least_right", "_law_right"]
def loose : List Str := loose0 ++ loose1 ++ loose2
abbrev R : PySem.W.OpenRow := PySem.W.OpenLaw.row PySem.Challenge.rw_calledpapers_k90_whole_consistent_shares
def mx (K : PySem.W.Frag) : Bool := (He.eqO (PySem.W.nsIn K mainGlobals "gcd") (some (some (.builtin "math.gcd")))) && (He.eqO (PySem.W.nsIn K mainGlobals "lcm") (some (some (.builtin "math.lcm")))) && (Ev.cstB K ("RULES", (.tuple [(.str "awards"), (.str "losses"), (.str "garment"), (.str "parts")]))) && (Ev.cstB K ("NOUGHT", (.tuple [(.int 0), (.int 1)]))) && (Ev.cstB K ("HALF", (.tuple [(.int 1), (.int 2)])))
abbrev hk : PySem.W.Hook := He.hookX 4 fa fn [] [] mx
def ob (s : PySem.W.SharedT) : He.AlX := He.obsX 4 fa fn [] [] mx (HandSHeadRun.getT s)
theorem ob_eq (s : PySem.W.SharedT) : ob s = hk.obs s.abs := He.obsX_eq (HandSHeadRun.getT_eq s)
theorem run (w : World) : HandSHeadRun.RunEqI R (PySem.W.view R.prog [0, 71]) hk ob 4000 loose w := by
  unfold HandSHeadRun.RunEqI
  kernel_rfl
end Hd
namespace Lw
open PySem Ev
def f_is_list : Fn := { name := "is_list", np := 1, ns := 1, body := [.ret (.isi (.var 0) ["list", "tuple"] true)] }
def f_is_integer : Fn := { name := "is_integer", np := 1, ns := 1, body := [.ret (.and (.isi (.var 0) ["int"] false) (.not (.isi (.var 0) ["bool"] false)))] }
def f_is_count : Fn := { name := "is_count", np := 1, ns := 1, body := [.ret (.and (.call "is_integer" true [0] [(.var 0)]) (.cmp .ge (.var 0) (.lit (.int 0))))] }
def f_is_position : Fn := { name := "is_position", np := 2, ns := 2, body := [.ret (.and (.call "is_integer" true [0] [(.var 0)]) (.chain .le .lt (.lit (.int 0)) (.var 0) (.var 1)))] }
def f_is_ratio : Fn := { name := "is_ratio", np := 1, ns := 2, body := [.ite (.or (.not (.isi (.var 0) ["tuple"] false)) (.or (.cmp .ne (.bi .len [(.var 0)]) (.lit (.int 2))) (.not (.bi .all [(.comp (.frz (.call "is_integer" true [0] [(.var 1)])) (.name 1) (.seq (.var 0)) none [1])])))) [.ret (.lit (.bool false))] [], .ret (.and (.cmp .gt (.ix (.var 0) (.lit (.int 1))) (.lit (.int 0))) (.cmp .eq (.bi .gcd [(.ix (.var 0) (.lit (.int 0))), (.ix (.var 0) (.lit (.int 1)))]) (.lit (.int 1))))] }
def f_made : Fn := { name := "made", np := 2, ns := 3, body := [.asg (.name 2) (.bi .gcd [(.var 0), (.var 1)]), .asg (.name 2) (.ite (.cmp .gt (.var 1) (.lit (.int 0))) (.var 2) (.bin .sub (.lit (.int 0)) (.var 2))), .ret (.tup [(.bin .fdiv (.var 0) (.var 2)), (.bin .fdiv (.var 1) (.var 2))])] }
def f_common : Fn := { name := "common", np := 1, ns := 4, body := [.asg (.name 1) (.lit (.int 1)), .for_ (.tup [(.name 2), (.name 3)]) (.seq (.var 0)) [.asg (.name 1) (.bi .lcm [(.var 1), (.var 3)])], .ret (.var 1)] }
def f_r_plus : Fn := { name := "r_plus", np := 2, ns := 2, body := [.ret (.call "made" true [0, 1] [(.frz (.bin .add (.bin .mul (.ix (.var 0) (.lit (.int 0))) (.ix (.var 1) (.lit (.int 1)))) (.bin .mul (.ix (.var 1) (.lit (.int 0))) (.ix (.var 0) (.lit (.int 1)))))), (.frz (.bin .mul (.ix (.var 0) (.lit (.int 1))) (.ix (.var 1) (.lit (.int 1)))))])] }
def f_r_minus : Fn := { name := "r_minus", np := 2, ns := 2, body := [.ret (.call "made" true [0, 1] [(.bin .sub (.bin .mul (.ix (.var 0) (.lit (.int 0))) (.ix (.var 1) (.lit (.int 1)))) (.bin .mul (.ix (.var 1) (.lit (.int 0))) (.ix (.var 0) (.lit (.int 1))))), (.frz (.bin .mul (.ix (.var 0) (.lit (.int 1))) (.ix (.var 1) (.lit (.int 1)))))])] }
def f_r_times : Fn := { name := "r_times", np := 2, ns := 2, body := [.ret (.call "made" true [0, 1] [(.frz (.bin .mul (.ix (.var 0) (.lit (.int 0))) (.ix (.var 1) (.lit (.int 0))))), (.frz (.bin .mul (.ix (.var 0) (.lit (.int 1))) (.ix (.var 1) (.lit (.int 1)))))])] }
def f_r_over : Fn := { name := "r_over", np := 2, ns := 2, body := [.ret (.call "made" true [0, 1] [(.frz (.bin .mul (.ix (.var 0) (.lit (.int 0))) (.ix (.var 1) (.lit (.int 1))))), (.frz (.bin .mul (.ix (.var 0) (.lit (.int 1))) (.ix (.var 1) (.lit (.int 0)))))])] }
def f_r_less : Fn := { name := "r_less", np := 2, ns := 2, body := [.ret (.cmp .lt (.bin .mul (.ix (.var 0) (.lit (.int 0))) (.ix (.var 1) (.lit (.int 1)))) (.bin .mul (.ix (.var 1) (.lit (.int 0))) (.ix (.var 0) (.lit (.int 1)))))] }
def f_r_total : Fn := { name := "r_total", np := 1, ns := 4, body := [.asg (.name 1) (.frz (.call "common" true [0] [(.var 0)])), .ret (.call "made" true [0, 1] [(.bi .sum [(.comp (.frz (.bin .mul (.var 2) (.bin .fdiv (.var 1) (.var 3)))) (.tup [(.name 2), (.name 3)]) (.seq (.var 0)) none [2, 3])]), (.var 1)])] }
def f_claim_is_right : Fn := { name := "claim_is_right", np := 1, ns := 1, body := [.ret (.and (.call "is_count" true [0] [(.var 0)]) (.chain .le .le (.lit (.int 1)) (.var 0) (.glob "MOST_ASKED" (.int 99))))] }
def f_asked_is_right : Fn := { name := "asked_is_right", np := 1, ns := 2, body := [.ret (.and (.isi (.var 0) ["tuple"] false) (.and (.chain .le .le (.lit (.int 1)) (.bi .len [(.var 0)]) (.glob "MOST_TAKERS" (.int 8))) (.bi .all [(.comp (.frz (.call "claim_is_right" true [0] [(.var 1)])) (.name 1) (.seq (.var 0)) none [1])])))] }
def f_is_within : Fn := { name := "is_within", np := 2, ns := 2, body := [.ret (.and (.call "is_ratio" true [0] [(.var 0)]) (.and (.cmp .ge (.ix (.var 0) (.lit (.int 0))) (.lit (.int 0))) (.not (.call "r_less" true [0, 1] [(.tup [(.var 1), (.lit (.int 1))]), (.var 0)]))))] }
def f_awards_are_right : Fn := { name := "awards_are_right", np := 3, ns := 5, body := [.ite (.or (.not (.call "is_list" true [0] [(.var 2)])) (.cmp .ne (.bi .len [(.var 2)]) (.bi .len [(.var 0)]))) [.ret (.lit (.bool false))] [], .ret (.and (.bi .all [(.comp (.frz (.call "is_within" true [0, 1] [(.var 3), (.var 4)])) (.tup [(.name 3), (.name 4)]) (.zip (.var 2) (.var 0)) none [3, 4])]) (.cmp .eq (.call "r_total" true [0] [(.frz (.bi .list [(.var 2)]))]) (.var 1)))] }
def f_check_rule : Fn := { name := "check_rule", np := 1, ns := 1, body := [.ite (.or (.not (.isi (.var 0) ["str"] false)) (.cmp .notIn (.var 0) (.glob "RULES" (.tuple [(.str "awards"), (.str "losses"), (.str "garment"), (.str "parts")])))) [.never] []] }
def f_check_asked : Fn := { name := "check_asked", np := 1, ns := 1, body := [.ite (.not (.call "asked_is_right" true [0] [(.var 0)])) [.never] []] }
def f_check_amount : Fn := { name := "check_amount", np := 2, ns := 2, body := [.ite (.not (.call "is_within" true [0, 1] [(.var 0), (.var 1)])) [.never] []] }
def f_check_shared : Fn := { name := "check_shared", np := 2, ns := 2, body := [.expr (.call "check_asked" true [0] [(.var 0)]), .expr (.call "check_amount" true [0, 1] [(.var 1), (.bi .sum [(.var 0)])])] }
def f_check_awards : Fn := { name := "check_awards", np := 3, ns := 3, body := [.expr (.call "check_shared" true [0, 1] [(.var 0), (.var 1)]), .ite (.not (.call "awards_are_right" true [0, 1, 2] [(.var 0), (.var 1), (.var 2)])) [.never] []] }
def f_as_ratios : Fn := { name := "as_ratios", np := 1, ns := 2, body := [.ret (.comp (.tup [(.var 1), (.lit (.int 1))]) (.name 1) (.seq (.var 0)) none [1])] }
def f_in_sequence : Fn := { name := "in_sequence", np := 1, ns := 4, body := [.asg (.name 1) (.new (.lst [])), .for_ (.name 2) (.seq (.var 0)) [.expr (.mth .insert (.var 1) [(.bi .len [(.comp (.var 3) (.name 3) (.seq (.var 1)) (some (.not (.call "r_less" true [0, 1] [(.var 2), (.var 3)]))) [3])]), (.var 2)])], .ret (.var 1)] }
def f_least_one : Fn := { name := "least_one", np := 2, ns := 2, body := [.ret (.ite (.call "r_less" true [0, 1] [(.var 1), (.var 0)]) (.var 1) (.var 0))] }
def f_award_level : Fn := { name := "award_level", np := 2, ns := 7, body := [.par true [(.name 2), (.name 3)] [(.var 1), (.frz (.call "in_sequence" true [0] [(.var 0)]))], .for_ (.tup [(.name 4), (.name 5)]) (.enum (.var 3)) [.asg (.name 6) (.tup [(.bin .sub (.bi .len [(.var 3)]) (.var 4)), (.lit (.int 1))]), .ite (.not (.call "r_less" true [0, 1] [(.frz (.call "r_times" true [0, 1] [(.var 5), (.var 6)])), (.var 2)])) [.ret (.call "r_over" true [0, 1] [(.var 2), (.var 6)])] [], .asg (.name 2) (.frz (.call "r_minus" true [0, 1] [(.var 2), (.var 5)]))], .ret (.ix (.var 3) (.neg (.lit (.int 1))))] }
def f_awards_by : Fn := { name := "awards_by", np := 2, ns := 4, body := [.asg (.name 2) (.frz (.call "award_level" true [0, 1] [(.var 0), (.var 1)])), .ret (.comp (.frz (.call "least_one" true [0, 1] [(.var 3), (.var 2)])) (.name 3) (.seq (.var 0)) none [3])] }
def f_rest_by : Fn := { name := "rest_by", np := 2, ns := 4, body := [.ret (.comp (.frz (.call "r_minus" true [0, 1] [(.var 2), (.var 3)])) (.tup [(.name 2), (.name 3)]) (.zip (.var 0) (.var 1)) none [2, 3])] }
def f_missing_of : Fn := { name := "missing_of", np := 2, ns := 2, body := [.ret (.call "r_minus" true [0, 1] [(.frz (.call "r_total" true [0] [(.var 0)])), (.var 1)])] }
def f_garments_by : Fn := { name := "garments_by", np := 2, ns := 4, body := [.asg (.name 2) (.frz (.comp (.frz (.call "r_times" true [0, 1] [(.glob "HALF" (.tuple [(.int 1), (.int 2)])), (.var 3)])) (.name 3) (.seq (.var 0)) none [3])), .ite (.not (.call "r_less" true [0, 1] [(.frz (.call "r_total" true [0] [(.var 2)])), (.var 1)])) [.ret (.call "awards_by" true [0, 1] [(.var 2), (.var 1)])] [], .ret (.call "rest_by" true [0, 1] [(.var 0), (.frz (.call "awards_by" true [0, 1] [(.var 2), (.frz (.call "missing_of" true [0, 1] [(.var 0), (.var 1)]))]))])] }
def f_shared_by : Fn := { name := "shared_by", np := 3, ns := 5, body := [.ite (.cmp .eq (.var 0) (.lit (.str "awards"))) [.ret (.call "awards_by" true [0, 1] [(.var 1), (.var 2)])] [], .ite (.cmp .eq (.var 0) (.lit (.str "losses"))) [.ret (.call "rest_by" true [0, 1] [(.var 1), (.frz (.call "awards_by" true [0, 1] [(.var 1), (.frz (.call "missing_of" true [0, 1] [(.var 1), (.var 2)]))]))])] [], .ite (.cmp .eq (.var 0) (.lit (.str "garment"))) [.ret (.call "garments_by" true [0, 1] [(.var 1), (.var 2)])] [], .asg (.name 3) (.frz (.call "r_over" true [0, 1] [(.var 2), (.frz (.call "r_total" true [0] [(.var 1)]))])), .ret (.comp (.frz (.call "r_times" true [0, 1] [(.var 4), (.var 3)])) (.name 4) (.seq (.var 1)) none [4])] }
def f_both_get : Fn := { name := "both_get", np := 3, ns := 6, body := [.asg (.name 3) (.frz (.call "r_minus" true [0, 1] [(.var 2), (.frz (.call "least_one" true [0, 1] [(.var 1), (.var 2)]))])), .asg (.name 4) (.frz (.call "r_minus" true [0, 1] [(.var 2), (.frz (.call "least_one" true [0, 1] [(.var 0), (.var 2)]))])), .asg (.name 5) (.frz (.call "r_times" true [0, 1] [(.glob "HALF" (.tuple [(.int 1), (.int 2)])), (.frz (.call "r_minus" true [0, 1] [(.var 2), (.frz (.call "r_plus" true [0, 1] [(.var 3), (.var 4)]))]))])), .ret (.tup [(.frz (.call "r_plus" true [0, 1] [(.var 3), (.var 5)])), (.frz (.call "r_plus" true [0, 1] [(.var 4), (.var 5)]))])] }
def f_shares_so : Fn := { name := "shares_so", np := 4, ns := 5, body := [.asg (.name 4) (.frz (.call "both_get" true [0, 1, 2] [(.ix (.var 0) (.var 2)), (.ix (.var 0) (.var 3)), (.frz (.call "r_plus" true [0, 1] [(.ix (.var 1) (.var 2)), (.ix (.var 1) (.var 3))]))])), .ret (.cmp .eq (.var 4) (.tup [(.ix (.var 1) (.var 2)), (.ix (.var 1) (.var 3))]))] }
def f_shared : Fn := { name := "shared", np := 3, ns := 3, body := [.expr (.call "check_rule" true [0] [(.var 0)]), .expr (.call "check_shared" true [0, 1] [(.var 1), (.var 2)]), .ret (.call "shared_by" true [0, 1, 2] [(.var 0), (.frz (.call "as_ratios" true [0] [(.var 1)])), (.var 2)])] }
def f_pair_out : Fn := { name := "pair_out", np := 3, ns := 6, body := [.expr (.call "check_awards" true [0, 1, 2] [(.var 0), (.var 1), (.var 2)]), .asg (.name 3) (.frz (.call "as_ratios" true [0] [(.var 0)])), .for_ (.name 4) (.range1 (.bi .len [(.var 3)])) [.for_ (.name 5) (.range2 (.bin .add (.var 4) (.lit (.int 1))) (.bi .len [(.var 3)])) [.ite (.not (.call "shares_so" true [0, 1, 2, 3] [(.var 3), (.var 2), (.var 4), (.var 5)])) [.ret (.tup [(.var 4), (.var 5)])] []]], .ret (.lit .none)] }
def f_by_garment : Fn := { name := "by_garment", np := 3, ns := 4, body := [.for_ (.name 3) (.seq (.tup [(.var 0), (.var 1)])) [.ite (.not (.call "claim_is_right" true [0] [(.var 3)])) [.never] []], .expr (.call "check_amount" true [0, 1] [(.var 2), (.frz (.bin .add (.var 0) (.var 1)))]), .ret (.call "both_get" true [0, 1, 2] [(.tup [(.var 0), (.lit (.int 1))]), (.tup [(.var 1), (.lit (.int 1))]), (.var 2)])] }
def f_least_amount : Fn := { name := "least_amount", np := 4, ns := 7, body := [.expr (.call "check_rule" true [0] [(.var 0)]), .ite (.cmp .notIn (.var 0) (.tup [(.lit (.str "awards")), (.lit (.str "losses"))])) [.never] [], .expr (.call "check_asked" true [0] [(.var 1)]), .ite (.not (.call "is_position" true [0, 1] [(.var 2), (.bi .len [(.var 1)])])) [.never] [], .expr (.call "check_amount" true [0, 1] [(.var 3), (.ix (.var 1) (.var 2))]), .asg (.name 4) (.frz (.call "as_ratios" true [0] [(.var 1)])), .ite (.cmp .eq (.var 0) (.lit (.str "awards"))) [.ret (.call "r_total" true [0] [(.frz (.comp (.frz (.call "least_one" true [0, 1] [(.var 6), (.var 3)])) (.name 6) (.seq (.var 4)) none [6]))])] [], .ite (.cmp .eq (.var 3) (.glob "NOUGHT" (.tuple [(.int 0), (.int 1)]))) [.ret (.glob "NOUGHT" (.tuple [(.int 0), (.int 1)]))] [], .asg (.name 5) (.frz (.call "r_minus" true [0, 1] [(.ix (.var 4) (.var 2)), (.var 3)])), .ret (.call "r_total" true [0] [(.frz (.comp (.frz (.call "r_minus" true [0, 1] [(.var 6), (.frz (.call "least_one" true [0, 1] [(.var 6), (.var 5)]))])) (.name 6) (.seq (.var 4)) none [6]))])] }
def f__law_pot : Fn := { name := "_law_pot", np := 2, ns := 3, body := [.asg (.name 2) (.ite (.cmp .lt (.var 1) (.bi .len [(.var 0)])) (.bi .abs [(.ix (.var 0) (.var 1))]) (.bin .add (.bin .add (.bin .mul (.lit (.int 2089)) (.var 1)) (.lit (.int 1427))) (.bin .mod (.bi .abs [(.bi .sum [(.sl (.var 0) none (some (.lit (.int 1))))])]) (.lit (.int 1000003))))), .ret (.lst [(.bi .max2 [(.lit (.int 0)), (.bin .sub (.var 2) (.bin .pow (.lit (.int 10)) (.lit (.int 18))))]), (.bin .add (.bin .mod (.bi .int [(.bin .add (.bin .add (.bin .mul (.bin .mod (.bi .int [(.var 2)]) (.lit (.int 2147483549))) (.lit (.int 40014))) (.bin .mul (.lit (.int 7451)) (.var 1))) (.lit (.int 1427)))]) (.lit (.int 2147483563))) (.lit (.int 1)))])] }
def f__law_draw : Fn := { name := "_law_draw", np := 2, ns := 3, body := [.ite (.cmp .gt (.ix (.var 0) (.lit (.int 0))) (.lit (.int 0))) [.asg (.tup [(.sub (.var 0) (.lit (.int 0))), (.name 2)]) (.bi .divmod [(.ix (.var 0) (.lit (.int 0))), (.var 1)]), .ret (.var 2)] [], .asg (.sub (.var 0) (.lit (.int 1))) (.bin .mod (.bi .int [(.bin .add (.bin .mul (.ix (.var 0) (.lit (.int 1))) (.lit (.int 39373))) (.lit (.int 1427)))]) (.lit (.int 2147483587))), .ret (.bin .mod (.bi .int [(.bin .fdiv (.bin .mod (.bi .int [(.bin .mul (.ix (.var 0) (.lit (.int 1))) (.ix (.var 0) (.lit (.int 1))))]) (.lit (.int 2147483563))) (.lit (.int 19)))]) (.var 1))] }
def f__law_pick : Fn := { name := "_law_pick", np := 2, ns := 2, body := [.ret (.ix (.var 1) (.call "_law_draw" false [0, 1] [(.var 0), (.bi .len [(.var 1)])]))] }
def f__law_made : Fn := { name := "_law_made", np := 2, ns := 6, body := [.par true [(.name 4), (.name 5)] [(.bi .abs [(.var 0)]), (.bi .abs [(.var 1)])], .for_ (.name 2) (.range1 (.lit (.int 4000))) [.ite (.cmp .eq (.var 5) (.lit (.int 0))) [.brk] [], .par true [(.name 4), (.name 5)] [(.var 5), (.bin .mod (.bi .int [(.var 4)]) (.var 5))]], .asg (.name 3) (.ite (.cmp .gt (.var 1) (.lit (.int 0))) (.lit (.int 1)) (.neg (.lit (.int 1)))), .ret (.tup [(.bin .fdiv (.bin .mul (.var 3) (.var 0)) (.var 4)), (.bin .fdiv (.bin .mul (.var 3) (.var 1)) (.var 4))])] }
def f__law_add : Fn := { name := "_law_add", np := 2, ns := 2, body := [.ret (.call "_law_made" true [0, 1] [(.frz (.bin .add (.bin .mul (.ix (.var 0) (.lit (.int 0))) (.ix (.var 1) (.lit (.int 1)))) (.bin .mul (.ix (.var 1) (.lit (.int 0))) (.ix (.var 0) (.lit (.int 1)))))), (.frz (.bin .mul (.ix (.var 0) (.lit (.int 1))) (.ix (.var 1) (.lit (.int 1)))))])] }
def f__law_sub : Fn := { name := "_law_sub", np := 2, ns := 2, body := [.ret (.call "_law_made" true [0, 1] [(.bin .sub (.bin .mul (.ix (.var 0) (.lit (.int 0))) (.ix (.var 1) (.lit (.int 1)))) (.bin .mul (.ix (.var 1) (.lit (.int 0))) (.ix (.var 0) (.lit (.int 1))))), (.frz (.bin .mul (.ix (.var 0) (.lit (.int 1))) (.ix (.var 1) (.lit (.int 1)))))])] }
def f__law_mul : Fn := { name := "_law_mul", np := 2, ns := 2, body := [.ret (.call "_law_made" true [0, 1] [(.frz (.bin .mul (.ix (.var 0) (.lit (.int 0))) (.ix (.var 1) (.lit (.int 0))))), (.frz (.bin .mul (.ix (.var 0) (.lit (.int 1))) (.ix (.var 1) (.lit (.int 1)))))])] }
def f__law_div : Fn := { name := "_law_div", np := 2, ns := 2, body := [.ret (.call "_law_made" true [0, 1] [(.frz (.bin .mul (.ix (.var 0) (.lit (.int 0))) (.ix (.var 1) (.lit (.int 1))))), (.frz (.bin .mul (.ix (.var 0) (.lit (.int 1))) (.ix (.var 1) (.lit (.int 0)))))])] }
def f__law_lt : Fn := { name := "_law_lt", np := 2, ns := 2, body := [.ret (.cmp .lt (.bin .mul (.ix (.var 0) (.lit (.int 0))) (.ix (.var 1) (.lit (.int 1)))) (.bin .mul (.ix (.var 1) (.lit (.int 0))) (.ix (.var 0) (.lit (.int 1)))))] }
def f__law_total : Fn := { name := "_law_total", np := 1, ns := 3, body := [.asg (.name 1) (.tup [(.lit (.int 0)), (.lit (.int 1))]), .for_ (.name 2) (.seq (.var 0)) [.asg (.name 1) (.frz (.call "_law_add" true [0, 1] [(.var 1), (.var 2)]))], .ret (.var 1)] }
def f__law_asked : Fn := { name := "_law_asked", np := 1, ns := 2, body := [.ret (.bi .tuple [(.comp (.frz (.call "_law_pick" false [0, 1] [(.var 0), (.frz (.lst [(.frz (.bin .add (.lit (.int 1)) (.call "_law_draw" false [0, 1] [(.var 0), (.lit (.int 99))]))), (.frz (.bin .add (.lit (.int 1)) (.call "_law_draw" false [0, 1] [(.var 0), (.lit (.int 9))]))), (.lit (.int 10))]))])) (.name 1) (.range1 (.bin .add (.lit (.int 1)) (.call "_law_draw" false [0, 1] [(.var 0), (.lit (.int 8))]))) none [1])])] }
def f__law_amount : Fn := { name := "_law_amount", np := 2, ns := 3, body := [.asg (.name 2) (.bi .sum [(.var 1)]), .ret (.call "_law_pick" false [0, 1] [(.var 0), (.frz (.lst [(.tup [(.lit (.int 0)), (.lit (.int 1))]), (.tup [(.var 2), (.lit (.int 1))]), (.frz (.call "_law_made" true [0, 1] [(.var 2), (.lit (.int 2))])), (.tup [(.frz (.call "_law_draw" false [0, 1] [(.var 0), (.frz (.bin .add (.var 2) (.lit (.int 1))))])), (.lit (.int 1))]), (.frz (.call "_law_made" true [0, 1] [(.frz (.call "_law_draw" false [0, 1] [(.var 0), (.bin .add (.bin .mul (.lit (.int 7)) (.var 2)) (.lit (.int 1)))])), (.lit (.int 7))]))]))])] }
def f__law_garment : Fn := { name := "_law_garment", np := 3, ns := 6, body := [.asg (.name 3) (.frz (.call "_law_sub" true [0, 1] [(.var 2), (.tup [(.var 1), (.lit (.int 1))])])), .asg (.name 4) (.frz (.call "_law_sub" true [0, 1] [(.var 2), (.tup [(.var 0), (.lit (.int 1))])])), .par true [(.name 3), (.name 4)] [(.ite (.cmp .gt (.ix (.var 3) (.lit (.int 0))) (.lit (.int 0))) (.var 3) (.tup [(.lit (.int 0)), (.lit (.int 1))])), (.ite (.cmp .gt (.ix (.var 4) (.lit (.int 0))) (.lit (.int 0))) (.var 4) (.tup [(.lit (.int 0)), (.lit (.int 1))]))], .asg (.name 5) (.frz (.call "_law_div" true [0, 1] [(.frz (.call "_law_sub" true [0, 1] [(.var 2), (.frz (.call "_law_add" true [0, 1] [(.var 3), (.var 4)]))])), (.tup [(.lit (.int 2)), (.lit (.int 1))])])), .ret (.tup [(.frz (.call "_law_add" true [0, 1] [(.var 3), (.var 5)])), (.frz (.call "_law_add" true [0, 1] [(.var 4), (.var 5)]))])] }
def f__law_pair_out : Fn := { name := "_law_pair_out", np := 2, ns := 5, body := [.for_ (.tup [(.name 2), (.name 3)]) (.enum (.var 0)) [.for_ (.name 4) (.range2 (.bin .add (.var 2) (.lit (.int 1))) (.bi .len [(.var 0)])) [.ite (.cmp .ne (.call "_law_garment" true [0, 1, 2] [(.var 3), (.ix (.var 0) (.var 4)), (.frz (.call "_law_add" true [0, 1] [(.ix (.var 1) (.var 2)), (.ix (.var 1) (.var 4))]))]) (.tup [(.ix (.var 1) (.var 2)), (.ix (.var 1) (.var 4))])) [.ret (.tup [(.var 2), (.var 4)])] []]], .ret (.lit .none)] }
def f__law_consistent : Fn := { name := "_law_consistent", np := 3, ns := 8, body := [.asg (.name 3) (.frz (.comp (.var 7) (.name 7) (.range1 (.bi .len [(.var 1)])) (some (.cmp .eq (.call "_law_draw" false [0, 1] [(.var 0), (.lit (.int 2))]) (.lit (.int 0)))) [7])), .ite (.cmp .eq (.var 3) (.lst [])) [.ret (.lit (.bool true))] [], .for_ (.name 4) (.seq (.tup [(.lit (.str "awards")), (.lit (.str "losses")), (.lit (.str "garment")), (.lit (.str "parts"))])) [.asg (.name 5) (.frz (.call "shared" true [0, 1, 2] [(.var 4), (.var 1), (.var 2)])), .asg (.name 6) (.frz (.comp (.ix (.var 5) (.var 7)) (.name 7) (.seq (.var 3)) none [7])), .ite (.cmp .ne (.call "shared" true [0, 1, 2] [(.var 4), (.bi .tuple [(.comp (.ix (.var 1) (.var 7)) (.name 7) (.seq (.var 3)) none [7])]), (.frz (.call "_law_total" true [0] [(.var 6)]))]) (.var 6)) [.ret (.lit (.bool false))] []], .ret (.lit (.bool true))] }
def f__law_least_right : Fn := { name := "_law_least_right", np := 2, ns := 13, body := [.par true [(.name 7), (.name 8)] [(.frz (.call "_law_draw" false [0, 1] [(.var 0), (.bi .len [(.var 1)])])), (.tup [(.bi .sum [(.var 1)]), (.lit (.int 1))])], .asg (.name 2) (.frz (.call "_law_pick" false [0, 1] [(.var 0), (.frz (.lst [(.tup [(.lit (.int 0)), (.lit (.int 1))]), (.tup [(.ix (.var 1) (.var 7)), (.lit (.int 1))]), (.frz (.call "_law_made" true [0, 1] [(.frz (.call "_law_draw" false [0, 1] [(.var 0), (.bin .add (.bin .mul (.lit (.int 3)) (.ix (.var 1) (.var 7))) (.lit (.int 1)))])), (.lit (.int 3))]))]))])), .asg (.name 3) (.frz (.comp (.tup [(.var 12), (.lit (.int 1))]) (.name 12) (.seq (.var 1)) none [12])), .asg (.name 4) (.frz (.call "_law_total" true [0] [(.frz (.comp (.ite (.call "_law_lt" true [0, 1] [(.var 2), (.var 12)]) (.var 2) (.var 12)) (.name 12) (.seq (.var 3)) none [12]))])), .asg (.name 5) (.frz (.call "_law_sub" true [0, 1] [(.tup [(.ix (.var 1) (.var 7)), (.lit (.int 1))]), (.var 2)])), .asg (.name 6) (.frz (.ite (.cmp .gt (.ix (.var 2) (.lit (.int 0))) (.lit (.int 0))) (.call "_law_total" true [0] [(.frz (.comp (.frz (.call "_law_sub" true [0, 1] [(.var 12), (.var 5)])) (.name 12) (.seq (.var 3)) (some (.call "_law_lt" true [0, 1] [(.var 5), (.var 12)])) [12]))]) (.tup [(.lit (.int 0)), (.lit (.int 1))]))), .for_ (.tup [(.name 9), (.name 10)]) (.seq (.tup [(.tup [(.lit (.str "awards")), (.var 4)]), (.tup [(.lit (.str "losses")), (.var 6)])])) [.ite (.cmp .ne (.bi .repr [(.lst [(.frz (.call "least_amount" true [0, 1, 2, 3] [(.var 9), (.var 1), (.var 7), (.var 2)])), (.frz (.call "least_amount" true [3, 2, 1, 0] [(.var 2), (.var 7), (.var 1), (.var 9)]))])]) (.bi .repr [(.lst [(.var 10), (.var 10)])])) [.ret (.lit (.bool false))] [], .ite (.or (.call "_law_lt" true [0, 1] [(.var 8), (.var 10)]) (.call "_law_lt" true [0, 1] [(.ix (.call "shared" true [0, 1, 2] [(.var 9), (.var 1), (.var 10)]) (.var 7)), (.var 2)])) [.ret (.lit (.bool false))] [], .for_ (.name 11) (.seq (.tup [(.frz (.call "_law_mul" true [0, 1] [(.var 10), (.frz (.call "_law_made" true [0, 1] [(.lit (.int 999)), (.lit (.int 1000))]))])), (.frz (.call "_law_div" true [0, 1] [(.var 10), (.tup [(.lit (.int 2)), (.lit (.int 1))])]))])) [.ite (.and (.cmp .gt (.ix (.var 10) (.lit (.int 0))) (.lit (.int 0))) (.not (.call "_law_lt" true [0, 1] [(.ix (.call "shared" true [0, 1, 2] [(.var 9), (.var 1), (.var 11)]) (.var 7)), (.var 2)]))) [.ret (.lit (.bool false))] []]], .ret (.lit (.bool true))] }
def f__law_right : Fn := { name := "_law_right", np := 1, ns := 13, body := [.asg (.name 1) (.frz (.call "_law_asked" false [0] [(.var 0)])), .asg (.name 2) (.frz (.call "_law_amount" false [0, 1] [(.var 0), (.var 1)])), .ite (.or (.not (.call "_law_consistent" false [0, 1, 2] [(.var 0), (.var 1), (.var 2)])) (.not (.call "_law_least_right" false [0, 1] [(.var 0), (.var 1)]))) [.ret (.lit (.bool false))] [], .par true [(.name 6), (.name 7)] [(.frz (.bin .add (.lit (.int 1)) (.call "_law_draw" false [0, 1] [(.var 0), (.lit (.int 99))]))), (.frz (.bin .add (.lit (.int 1)) (.call "_law_draw" false [0, 1] [(.var 0), (.lit (.int 99))])))], .asg (.name 3) (.frz (.call "_law_pick" false [0, 1] [(.var 0), (.frz (.lst [(.tup [(.lit (.int 0)), (.lit (.int 1))]), (.tup [(.var 6), (.lit (.int 1))]), (.tup [(.var 7), (.lit (.int 1))]), (.tup [(.frz (.bin .add (.var 6) (.var 7))), (.lit (.int 1))]), (.frz (.call "_law_made" true [0, 1] [(.frz (.call "_law_draw" false [0, 1] [(.var 0), (.frz (.bin .add (.bin .mul (.lit (.int 5)) (.bin .add (.var 6) (.var 7))) (.lit (.int 1))))])), (.lit (.int 5))]))]))])), .asg (.name 4) (.frz (.call "_law_garment" true [0, 1, 2] [(.var 6), (.var 7), (.var 3)])), .ite (.cmp .ne (.bi .repr [(.lst [(.frz (.call "by_garment" true [0, 1, 2] [(.var 6), (.var 7), (.var 3)])), (.frz (.call "by_garment" true [2, 1, 0] [(.var 3), (.var 7), (.var 6)])), (.bi .tuple [(.call "shared" true [0, 1, 2] [(.lit (.str "garment")), (.tup [(.var 6), (.var 7)]), (.var 3)])])])]) (.bi .repr [(.bin .mul (.lst [(.var 4)]) (.lit (.int 3)))])) [.ret (.lit (.bool false))] [], .for_ (.name 5) (.seq (.tup [(.lit (.str "awards")), (.lit (.str "losses")), (.lit (.str "garment")), (.lit (.str "parts"))])) [.asg (.name 8) (.frz (.call "shared" true [0, 1, 2] [(.var 5), (.var 1), (.var 2)])), .asg (.name 9) (.new (.lst [(.var 8)])), .ite (.cmp .gt (.bi .len [(.var 1)]) (.lit (.int 1))) [.asg (.name 11) (.frz (.call "_law_sub" true [0, 1] [(.tup [(.ix (.var 1) (.lit (.int 1))), (.lit (.int 1))]), (.ix (.var 8) (.lit (.int 1)))])), .asg (.name 12) (.frz (.call "_law_mul" true [0, 1] [(.ite (.call "_law_lt" true [0, 1] [(.ix (.var 8) (.lit (.int 0))), (.var 11)]) (.ix (.var 8) (.lit (.int 0))) (.var 11)), (.frz (.call "_law_made" true [0, 1] [(.frz (.call "_law_draw" false [0, 1] [(.var 0), (.lit (.int 4))])), (.lit (.int 3))]))])), .expr (.mth .append (.var 9) [(.frz (.bin .add (.lst [(.frz (.call "_law_sub" true [0, 1] [(.ix (.var 8) (.lit (.int 0))), (.var 12)])), (.frz (.call "_law_add" true [0, 1] [(.ix (.var 8) (.lit (.int 1))), (.var 12)]))]) (.sl (.var 8) (some (.lit (.int 2))) none)))])] [], .for_ (.name 10) (.seq (.var 9)) [.asg (.name 4) (.frz (.call "_law_pair_out" true [0, 1] [(.var 1), (.var 10)])), .ite (.cmp .ne (.bi .repr [(.lst [(.frz (.call "pair_out" true [0, 1, 2] [(.var 1), (.var 2), (.var 10)])), (.frz (.call "pair_out" true [2, 1, 0] [(.bi .tuple [(.var 10)]), (.var 2), (.var 1)]))])]) (.bi .repr [(.lst [(.var 4), (.var 4)])])) [.ret (.lit (.bool false))] [], .ite (.cmp .ne (.cmp .is_ (.var 4) (.lit .none)) (.cmp .eq (.var 10) (.call "shared" true [0, 1, 2] [(.lit (.str "garment")), (.var 1), (.var 2)]))) [.ret (.lit (.bool false))] []]], .ret (.lit (.bool true))] }
def f_law : Fn := { name := "law", np := 1, ns := 2, body := [.ret (.bi .all [(.comp (.frz (.call "_law_right" false [0] [(.new (.call "_law_pot" true [0, 1] [(.var 0), (.var 1)]))])) (.name 1) (.range1 (.bi .max2 [(.lit (.int 1)), (.bi .min2 [(.lit (.int 3)), (.bi .len [(.var 0)])])])) none [1])])] }
def prog : List Fn := [f_is_list, f_is_integer, f_is_count, f_is_position, f_is_ratio, f_made, f_common, f_r_plus, f_r_minus, f_r_times, f_r_over, f_r_less, f_r_total, f_claim_is_right, f_asked_is_right, f_is_within, f_awards_are_right, f_check_rule, f_check_asked, f_check_amount, f_check_shared, f_check_awards, f_as_ratios, f_in_sequence, f_least_one, f_award_level, f_awards_by, f_rest_by, f_missing_of, f_garments_by, f_shared_by, f_both_get, f_shares_so, f_shared, f_pair_out, f_by_garment, f_least_amount, f__law_pot, f__law_draw, f__law_pick, f__law_made, f__law_add, f__law_sub, f__law_mul, f__law_div, f__law_lt, f__law_total, f__law_asked, f__law_amount, f__law_garment, f__law_pair_out, f__law_consistent, f__law_least_right, f__law_right, f_law]
def d_is_list : DefT := ⟨f_is_list, ["value"], ["value"], L2.defScope (Hd.top 2), L2.defBody (Hd.top 2)⟩
def d_is_integer : DefT := ⟨f_is_integer, ["value"], ["value"], L2.defScope (Hd.top 3), L2.defBody (Hd.top 3)⟩
def d_is_count : DefT := ⟨f_is_count, ["value"], ["value"], L2.defScope (Hd.top 4), L2.defBody (Hd.top 4)⟩
def d_is_position : DefT := ⟨f_is_position, ["value", "many"], ["value", "many"], L2.defScope (Hd.top 5), L2.defBody (Hd.top 5)⟩
def d_is_ratio : DefT := ⟨f_is_ratio, ["value"], ["value", "part"], L2.defScope (Hd.top 6), L2.defBody (Hd.top 6)⟩
def d_made : DefT := ⟨f_made, ["top", "bottom"], ["top", "bottom", "part"], L2.defScope (Hd.top 14), L2.defBody (Hd.top 14)⟩
def d_common : DefT := ⟨f_common, ["values"], ["values", "found", "top", "bottom"], L2.defScope (Hd.top 15), L2.defBody (Hd.top 15)⟩
def d_r_plus : DefT := ⟨f_r_plus, ["one", "other"], ["one", "other"], L2.defScope (Hd.top 16), L2.defBody (Hd.top 16)⟩
def d_r_minus : DefT := ⟨f_r_minus, ["one", "other"], ["one", "other"], L2.defScope (Hd.top 17), L2.defBody (Hd.top 17)⟩
def d_r_times : DefT := ⟨f_r_times, ["one", "other"], ["one", "other"], L2.defScope (Hd.top 18), L2.defBody (Hd.top 18)⟩
def d_r_over : DefT := ⟨f_r_over, ["one", "other"], ["one", "other"], L2.defScope (Hd.top 19), L2.defBody (Hd.top 19)⟩
def d_r_less : DefT := ⟨f_r_less, ["one", "other"], ["one", "other"], L2.defScope (Hd.top 20), L2.defBody (Hd.top 20)⟩
def d_r_total : DefT := ⟨f_r_total, ["values"], ["values", "bottom", "top", "under"], L2.defScope (Hd.top 21), L2.defBody (Hd.top 21)⟩
def d_claim_is_right : DefT := ⟨f_claim_is_right, ["value"], ["value"], L2.defScope (Hd.top 28), L2.defBody (Hd.top 28)⟩
def d_asked_is_right : DefT := ⟨f_asked_is_right, ["value"], ["value", "one"], L2.defScope (Hd.top 29), L2.defBody (Hd.top 29)⟩
def d_is_within : DefT := ⟨f_is_within, ["value", "most"], ["value", "most"], L2.defScope (Hd.top 30), L2.defBody (Hd.top 30)⟩
def d_awards_are_right : DefT := ⟨f_awards_are_right, ["asked", "amount", "value"], ["asked", "amount", "value", "one", "most"], L2.defScope (Hd.top 31), L2.defBody (Hd.top 31)⟩
def d_check_rule : DefT := ⟨f_check_rule, ["rule"], ["rule"], L2.defScope (Hd.top 32), L2.defBody (Hd.top 32)⟩
def d_check_asked : DefT := ⟨f_check_asked, ["asked"], ["asked"], L2.defScope (Hd.top 33), L2.defBody (Hd.top 33)⟩
def d_check_amount : DefT := ⟨f_check_amount, ["amount", "most"], ["amount", "most"], L2.defScope (Hd.top 34), L2.defBody (Hd.top 34)⟩
def d_check_shared : DefT := ⟨f_check_shared, ["asked", "amount"], ["asked", "amount"], L2.defScope (Hd.top 35), L2.defBody (Hd.top 35)⟩
def d_check_awards : DefT := ⟨f_check_awards, ["asked", "amount", "value"], ["asked", "amount", "value"], L2.defScope (Hd.top 36), L2.defBody (Hd.top 36)⟩
def d_as_ratios : DefT := ⟨f_as_ratios, ["asked"], ["asked", "one"], L2.defScope (Hd.top 37), L2.defBody (Hd.top 37)⟩
def d_in_sequence : DefT := ⟨f_in_sequence, ["numbers"], ["numbers", "found", "one", "other"], L2.defScope (Hd.top 38), L2.defBody (Hd.top 38)⟩
def d_least_one : DefT := ⟨f_least_one, ["one", "other"], ["one", "other"], L2.defScope (Hd.top 39), L2.defBody (Hd.top 39)⟩
def d_award_level : DefT := ⟨f_award_level, ["asked", "amount"], ["asked", "amount", "left", "some", "at", "one", "rest"], L2.defScope (Hd.top 40), L2.defBody (Hd.top 40)⟩
def d_awards_by : DefT := ⟨f_awards_by, ["asked", "amount"], ["asked", "amount", "level", "one"], L2.defScope (Hd.top 41), L2.defBody (Hd.top 41)⟩
def d_rest_by : DefT := ⟨f_rest_by, ["asked", "got"], ["asked", "got", "one", "other"], L2.defScope (Hd.top 42), L2.defBody (Hd.top 42)⟩
def d_missing_of : DefT := ⟨f_missing_of, ["asked", "amount"], ["asked", "amount"], L2.defScope (Hd.top 43), L2.defBody (Hd.top 43)⟩
def d_garments_by : DefT := ⟨f_garments_by, ["asked", "amount"], ["asked", "amount", "halves", "one"], L2.defScope (Hd.top 44), L2.defBody (Hd.top 44)⟩
def d_shared_by : DefT := ⟨f_shared_by, ["rule", "asked", "amount"], ["rule", "asked", "amount", "part", "one"], L2.defScope (Hd.top 45), L2.defBody (Hd.top 45)⟩
def d_both_get : DefT := ⟨f_both_get, ["one", "other", "amount"], ["one", "other", "amount", "first", "second", "half"], L2.defScope (Hd.top 46), L2.defBody (Hd.top 46)⟩
def d_shares_so : DefT := ⟨f_shares_so, ["asked", "got", "one", "other"], ["asked", "got", "one", "other", "due"], L2.defScope (Hd.top 47), L2.defBody (Hd.top 47)⟩
def d_shared : DefT := ⟨f_shared, ["rule", "asked", "amount"], ["rule", "asked", "amount"], L2.defScope (Hd.top 48), L2.defBody (Hd.top 48)⟩
def d_pair_out : DefT := ⟨f_pair_out, ["asked", "amount", "value"], ["asked", "amount", "value", "some", "one", "other"], L2.defScope (Hd.top 49), L2.defBody (Hd.top 49)⟩
def d_by_garment : DefT := ⟨f_by_garment, ["one", "other", "amount"], ["one", "other", "amount", "claim"], L2.defScope (Hd.top 50), L2.defBody (Hd.top 50)⟩
def d_least_amount : DefT := ⟨f_least_amount, ["rule", "asked", "at", "amount"], ["rule", "asked", "at", "amount", "some", "loss", "one"], L2.defScope (Hd.top 51), L2.defBody (Hd.top 51)⟩
def d__law_pot : DefT := ⟨f__law_pot, ["script", "k"], ["script", "k", "cell"], L2.defScope (Hd.top 53), L2.defBody (Hd.top 53)⟩
def d__law_draw : DefT := ⟨f__law_draw, ["pot", "many"], ["pot", "many", "digit"], L2.defScope (Hd.top 54), L2.defBody (Hd.top 54)⟩
def d__law_pick : DefT := ⟨f__law_pick, ["pot", "some"], ["pot", "some"], L2.defScope (Hd.top 55), L2.defBody (Hd.top 55)⟩
def d__law_made : DefT := ⟨f__law_made, ["top", "bottom"], ["top", "bottom", "turn", "sign", "one", "other"], L2.defScope (Hd.top 56), L2.defBody (Hd.top 56)⟩
def d__law_add : DefT := ⟨f__law_add, ["one", "other"], ["one", "other"], L2.defScope (Hd.top 57), L2.defBody (Hd.top 57)⟩
def d__law_sub : DefT := ⟨f__law_sub, ["one", "other"], ["one", "other"], L2.defScope (Hd.top 58), L2.defBody (Hd.top 58)⟩
def d__law_mul : DefT := ⟨f__law_mul, ["one", "other"], ["one", "other"], L2.defScope (Hd.top 59), L2.defBody (Hd.top 59)⟩
def d__law_div : DefT := ⟨f__law_div, ["one", "other"], ["one", "other"], L2.defScope (Hd.top 60), L2.defBody (Hd.top 60)⟩
def d__law_lt : DefT := ⟨f__law_lt, ["one", "other"], ["one", "other"], L2.defScope (Hd.top 61), L2.defBody (Hd.top 61)⟩
def d__law_total : DefT := ⟨f__law_total, ["some"], ["some", "found", "one"], L2.defScope (Hd.top 62), L2.defBody (Hd.top 62)⟩
def d__law_asked : DefT := ⟨f__law_asked, ["pot"], ["pot", "one"], L2.defScope (Hd.top 64), L2.defBody (Hd.top 64)⟩
def d__law_amount : DefT := ⟨f__law_amount, ["pot", "asked"], ["pot", "asked", "whole"], L2.defScope (Hd.top 65), L2.defBody (Hd.top 65)⟩
def d__law_garment : DefT := ⟨f__law_garment, ["one", "other", "amount"], ["one", "other", "amount", "near", "far", "half"], L2.defScope (Hd.top 66), L2.defBody (Hd.top 66)⟩
def d__law_pair_out : DefT := ⟨f__law_pair_out, ["asked", "awards"], ["asked", "awards", "at", "one", "spot"], L2.defScope (Hd.top 67), L2.defBody (Hd.top 67)⟩
def d__law_consistent : DefT := ⟨f__law_consistent, ["pot", "asked", "amount"], ["pot", "asked", "amount", "some", "rule", "got", "part", "at"], L2.defScope (Hd.top 68), L2.defBody (Hd.top 68)⟩
def d__law_least_right : DefT := ⟨f__law_least_right, ["pot", "asked"], ["pot", "asked", "number", "numbers", "up", "line", "down", "at", "whole", "rule", "due", "less", "one"], L2.defScope (Hd.top 69), L2.defBody (Hd.top 69)⟩
def d__law_right : DefT := ⟨f__law_right, ["pot"], ["pot", "asked", "amount", "both", "due", "rule", "one", "other", "got", "rows", "awards", "room", "much"], L2.defScope (Hd.top 70), L2.defBody (Hd.top 70)⟩
def d_law : DefT := ⟨f_law, ["script"], ["script", "k"], L2.defScope (Hd.top 71), L2.defBody (Hd.top 71)⟩
def sh : List (Str × Nat × List Str × List Nat) := [(("is_integer" : Str), 1, ([] : List Str), [0]), (("made" : Str), 2, ([] : List Str), [0, 1]), (("common" : Str), 1, ([] : List Str), [0]), (("is_count" : Str), 1, ([] : List Str), [0]), (("claim_is_right" : Str), 1, ([] : List Str), [0]), (("is_ratio" : Str), 1, ([] : List Str), [0]), (("r_less" : Str), 2, ([] : List Str), [0, 1]), (("is_list" : Str), 1, ([] : List Str), [0]), (("r_total" : Str), 1, ([] : List Str), [0]), (("is_within" : Str), 2, ([] : List Str), [0, 1]), (("asked_is_right" : Str), 1, ([] : List Str), [0]), (("check_asked" : Str), 1, ([] : List Str), [0]), (("check_amount" : Str), 2, ([] : List Str), [0, 1]), (("check_shared" : Str), 2, ([] : List Str), [0, 1]), (("awards_are_right" : Str), 3, ([] : List Str), [0, 1, 2]), (("in_sequence" : Str), 1, ([] : List Str), [0]), (("r_minus" : Str), 2, ([] : List Str), [0, 1]), (("r_over" : Str), 2, ([] : List Str), [0, 1]), (("r_times" : Str), 2, ([] : List Str), [0, 1]), (("award_level" : Str), 2, ([] : List Str), [0, 1]), (("least_one" : Str), 2, ([] : List Str), [0, 1]), (("rest_by" : Str), 2, ([] : List Str), [0, 1]), (("awards_by" : Str), 2, ([] : List Str), [0, 1]), (("missing_of" : Str), 2, ([] : List Str), [0, 1]), (("garments_by" : Str), 2, ([] : List Str), [0, 1]), (("r_plus" : Str), 2, ([] : List Str), [0, 1]), (("both_get" : Str), 3, ([] : List Str), [0, 1, 2]), (("check_rule" : Str), 1, ([] : List Str), [0]), (("shared_by" : Str), 3, ([] : List Str), [0, 1, 2]), (("as_ratios" : Str), 1, ([] : List Str), [0]), (("check_awards" : Str), 3, ([] : List Str), [0, 1, 2]), (("shares_so" : Str), 4, ([] : List Str), [0, 1, 2, 3]), (("is_position" : Str), 2, ([] : List Str), [0, 1]), (("_law_draw" : Str), 2, ([] : List Str), [0, 1]), (("_law_made" : Str), 2, ([] : List Str), [0, 1]), (("_law_add" : Str), 2, ([] : List Str), [0, 1]), (("_law_pick" : Str), 2, ([] : List Str), [0, 1]), (("_law_sub" : Str), 2, ([] : List Str), [0, 1]), (("_law_div" : Str), 2, ([] : List Str), [0, 1]), (("_law_garment" : Str), 3, ([] : List Str), [0, 1, 2]), (("shared" : Str), 3, ([] : List Str), [0, 1, 2]), (("_law_total" : Str), 1, ([] : List Str), [0]), (("_law_lt" : Str), 2, ([] : List Str), [0, 1]), (("_law_mul" : Str), 2, ([] : List Str), [0, 1]), (("least_amount" : Str), 4, ([] : List Str), [0, 1, 2, 3]), (("least_amount" : Str), 0, (["amount", "at", "asked", "rule"] : List Str), [3, 2, 1, 0]), (("_law_asked" : Str), 1, ([] : List Str), [0]), (("_law_amount" : Str), 2, ([] : List Str), [0, 1]), (("_law_consistent" : Str), 3, ([] : List Str), [0, 1, 2]), (("_law_least_right" : Str), 2, ([] : List Str), [0, 1]), (("_law_pair_out" : Str), 2, ([] : List Str), [0, 1]), (("by_garment" : Str), 3, ([] : List Str), [0, 1, 2]), (("by_garment" : Str), 0, (["amount", "other", "one"] : List Str), [2, 1, 0]), (("pair_out" : Str), 3, ([] : List Str), [0, 1, 2]), (("pair_out" : Str), 0, (["value", "amount", "asked"] : List Str), [2, 1, 0]), (("_law_right" : Str), 1, ([] : List Str), [0]), (("_law_pot" : Str), 2, ([] : List Str), [0, 1])]
def pg : Pg := ⟨prog, ["abs", "all", "bool", "divmod", "enumerate", "int", "isinstance", "len", "list", "max", "min", "range", "repr", "str", "sum", "tuple", "zip"], [("gcd", "math.gcd"), ("lcm", "math.lcm")], sh, [("RULES", (.tuple [(.str "awards"), (.str "losses"), (.str "garment"), (.str "parts")])), ("MOST_ASKED", (.int 99)), ("MOST_TAKERS", (.int 8)), ("NOUGHT", (.tuple [(.int 0), (.int 1)])), ("HALF", (.tuple [(.int 1), (.int 2)]))]⟩
theorem ck_is_list : d_is_list.ok pg 80 = true := by decide +kernel
theorem ck_is_integer : d_is_integer.ok pg 80 = true := by decide +kernel
theorem ck_is_count : d_is_count.ok pg 80 = true := by decide +kernel
theorem ck_is_position : d_is_position.ok pg 80 = true := by decide +kernel
theorem ck_is_ratio : d_is_ratio.ok pg 80 = true := by decide +kernel
theorem ck_made : d_made.ok pg 80 = true := by decide +kernel
theorem ck_common : d_common.ok pg 80 = true := by decide +kernel
theorem ck_r_plus : d_r_plus.ok pg 80 = true := by decide +kernel
theorem ck_r_minus : d_r_minus.ok pg 80 = true := by decide +kernel
theorem ck_r_times : d_r_times.ok pg 80 = true := by decide +kernel
theorem ck_r_over : d_r_over.ok pg 80 = true := by decide +kernel
theorem ck_r_less : d_r_less.ok pg 80 = true := by decide +kernel
theorem ck_r_total : d_r_total.ok pg 80 = true := by decide +kernel
theorem ck_claim_is_right : d_claim_is_right.ok pg 80 = true := by decide +kernel
theorem ck_asked_is_right : d_asked_is_right.ok pg 80 = true := by decide +kernel
theorem ck_is_within : d_is_within.ok pg 80 = true := by decide +kernel
theorem ck_awards_are_right : d_awards_are_right.ok pg 80 = true := by decide +kernel
theorem ck_check_rule : d_check_rule.ok pg 80 = true := by decide +kernel
theorem ck_check_asked : d_check_asked.ok pg 80 = true := by decide +kernel
theorem ck_check_amount : d_check_amount.ok pg 80 = true := by decide +kernel
theorem ck_check_shared : d_check_shared.ok pg 80 = true := by decide +kernel
theorem ck_check_awards : d_check_awards.ok pg 80 = true := by decide +kernel
theorem ck_as_ratios : d_as_ratios.ok pg 80 = true := by decide +kernel
theorem ck_in_sequence : d_in_sequence.ok pg 80 = true := by decide +kernel
theorem ck_least_one : d_least_one.ok pg 80 = true := by decide +kernel
theorem ck_award_level : d_award_level.ok pg 80 = true := by decide +kernel
theorem ck_awards_by : d_awards_by.ok pg 80 = true := by decide +kernel
theorem ck_rest_by : d_rest_by.ok pg 80 = true := by decide +kernel
theorem ck_missing_of : d_missing_of.ok pg 80 = true := by decide +kernel
theorem ck_garments_by : d_garments_by.ok pg 80 = true := by decide +kernel
theorem ck_shared_by : d_shared_by.ok pg 80 = true := by decide +kernel
theorem ck_both_get : d_both_get.ok pg 80 = true := by decide +kernel
theorem ck_shares_so : d_shares_so.ok pg 80 = true := by decide +kernel
theorem ck_shared : d_shared.ok pg 80 = true := by decide +kernel
theorem ck_pair_out : d_pair_out.ok pg 80 = true := by decide +kernel
theorem ck_by_garment : d_by_garment.ok pg 80 = true := by decide +kernel
theorem ck_least_amount : d_least_amount.ok pg 80 = true := by decide +kernel
theorem ck__law_pot : d__law_pot.ok pg 80 = true := by decide +kernel
theorem ck__law_draw : d__law_draw.ok pg 80 = true := by decide +kernel
theorem ck__law_pick : d__law_pick.ok pg 80 = true := by decide +kernel
theorem ck__law_made : d__law_made.ok pg 80 = true := by decide +kernel
theorem ck__law_add : d__law_add.ok pg 80 = true := by decide +kernel
theorem ck__law_sub : d__law_sub.ok pg 80 = true := by decide +kernel
theorem ck__law_mul : d__law_mul.ok pg 80 = true := by decide +kernel
theorem ck__law_div : d__law_div.ok pg 80 = true := by decide +kernel
theorem ck__law_lt : d__law_lt.ok pg 80 = true := by decide +kernel
theorem ck__law_total : d__law_total.ok pg 80 = true := by decide +kernel
theorem ck__law_asked : d__law_asked.ok pg 80 = true := by decide +kernel
theorem ck__law_amount : d__law_amount.ok pg 80 = true := by decide +kernel
theorem ck__law_garment : d__law_garment.ok pg 80 = true := by decide +kernel
theorem ck__law_pair_out : d__law_pair_out.ok pg 80 = true := by decide +kernel
theorem ck__law_consistent : d__law_consistent.ok pg 80 = true := by decide +kernel
theorem ck__law_least_right : d__law_least_right.ok pg 80 = true := by decide +kernel
theorem ck__law_right : d__law_right.ok pg 80 = true := by decide +kernel
theorem ck_law : d_law.ok pg 80 = true := by decide +kernel
end Lw

set_option Elab.async false
set_option linter.all false
set_option maxRecDepth 100000
set_option maxHeartbeats 0
namespace Lw
open PySem PySem.Spec PyProof.Rows L2 Ev
theorem shape_of {K : PySem.W.Frag} {nm qual : Str} {params : Arguments} {body : List Stmt} {scope : Scope} {kws : List (Str × V)} {f : Addr} {fd : FuncData} {ps ks : List Str} {m : Nat} {order : List Nat} (F : FunD K nm qual params body scope [] kws f fd)
    (h : ∀ (kV doc pm : Value) (an : Option Addr) (cdv ct : Value) (us ws zs : List Value), us.length = m → ws.length = ks.length → permute order (us ++ ws) = some zs → bindArgs (PySem.W.fnOf nm qual params body scope .none kV doc pm an cdv ct) ⟨us, ks.zip ws⟩ = pure (ps.zip zs)) : Shape fd ps ks m order := by
  obtain ⟨oc, od, dV, kV, doc, pm, an, cdv, ct, osl, rfl, lk, hcd, hD, hK⟩ := F.ex
  rcases hD with ⟨_, rfl⟩ | ⟨e, _⟩
  · exact fun s us ws zs h1 h2 h3 => .of_eq (h kV doc pm an cdv ct us ws zs h1 h2 h3)
  · exact absurd rfl e
def Ent (K : PySem.W.Frag) (mg : Str → Option Value) (e : Str × Nat × List Str × List Nat) : Prop := ∃ (f : Addr) (fd : FuncData) (d : DefT) (nm qual : Str) (params : Arguments) (dvs : List V) (kws : List (Str × V)), mg e.1 = some (.ref f) ∧ PySem.W.keepIn K (.ref f) = true ∧ Shape fd d.ps e.2.2.1 e.2.1 e.2.2.2 ∧
  FunD K nm qual params d.body d.sc dvs kws f fd ∧ d.ok pg 80 = true ∧ lookF e.1 pg.T = some d.fn
theorem ent_of {K : PySem.W.Frag} {mg : Str → Option Value} {d : DefT} {x : Str} {i m : Nat} {ks : List Str} {order : List Nat} (ok : d.ok pg 80 = true) (lk : lookF x pg.T = some d.fn) (hs : d.sc = defScope (Hd.top i)) (hb : d.body = defBody (Hd.top i)) (hm : mg x = some (.ref (He.ga K x)))
    (F : ∃ fd, FunD K x x (defArgs (Hd.top i)) (defBody (Hd.top i)) (defScope (Hd.top i)) [] [] (He.fAd K (x, none)) fd)
    (h : ∀ (kV doc pm : Value) (an : Option Addr) (cdv ct : Value) (us ws zs : List Value), us.length = m → ws.length = ks.length → permute order (us ++ ws) = some zs → bindArgs (PySem.W.fnOf x x (defArgs (Hd.top i)) (defBody (Hd.top i)) (defScope (Hd.top i)) .none kV doc pm an cdv ct) ⟨us, ks.zip ws⟩ = pure (d.ps.zip zs)) : Ent K mg (x, m, ks, order) := by
  obtain ⟨fd, F⟩ := F
  refine ⟨He.ga K x, fd, d, x, x, defArgs (Hd.top i), [], [], hm, F.kp, shape_of F h, ?_, ok, lk⟩
  rw [hs, hb]
  exact F
section
variable {K : PySem.W.Frag} {mg : Str → Option Value} {h : Heap} (c : He.SaysD Hd.fa Hd.fn K) (X : K.In h) (G : h.Ns mainGlobals mg)
include c X G
theorem e0 : Ent K mg (("is_integer" : Str), 1, ([] : List Str), [0]) := ent_of (d := d_is_integer) (i := 3) ck_is_integer (by rfl) rfl rfl (He.glo_ok X G (c.fact 1)) (c.def_ 1) fun _ _ _ _ _ _ us ws zs h1 h2 h3 => by
  match us, h1, ws, h2 with
  | [a0], _, [], _ =>
    have e : zs = [a0] := (Option.some.inj (show some [a0] = some zs from h3)).symm
    subst e
    rfl
theorem e1 : Ent K mg (("made" : Str), 2, ([] : List Str), [0, 1]) := ent_of (d := d_made) (i := 14) ck_made (by rfl) rfl rfl (He.glo_ok X G (c.fact 5)) (c.def_ 5) fun _ _ _ _ _ _ us ws zs h1 h2 h3 => by
  match us, h1, ws, h2 with
  | [a0, a1], _, [], _ =>
    have e : zs = [a0, a1] := (Option.some.inj (show some [a0, a1] = some zs from h3)).symm
    subst e
    rfl
theorem e2 : Ent K mg (("common" : Str), 1, ([] : List Str), [0]) := ent_of (d := d_common) (i := 15) ck_common (by rfl) rfl rfl (He.glo_ok X G (c.fact 6)) (c.def_ 6) fun _ _ _ _ _ _ us ws zs h1 h2 h3 => by
  match us, h1, ws, h2 with
  | [a0], _, [], _ =>
    have e : zs = [a0] := (Option.some.inj (show some [a0] = some zs from h3)).symm
    subst e
    rfl
theorem e3 : Ent K mg (("is_count" : Str), 1, ([] : List Str), [0]) := ent_of (d := d_is_count) (i := 4) ck_is_count (by rfl) rfl rfl (He.glo_ok X G (c.fact 2)) (c.def_ 2) fun _ _ _ _ _ _ us ws zs h1 h2 h3 => by
  match us, h1, ws, h2 with
  | [a0], _, [], _ =>
    have e : zs = [a0] := (Option.some.inj (show some [a0] = some zs from h3)).symm
    subst e
    rfl
theorem e4 : Ent K mg (("claim_is_right" : Str), 1, ([] : List Str), [0]) := ent_of (d := d_claim_is_right) (i := 28) ck_claim_is_right (by rfl) rfl rfl (He.glo_ok X G (c.fact 13)) (c.def_ 13) fun _ _ _ _ _ _ us ws zs h1 h2 h3 => by
  match us, h1, ws, h2 with
  | [a0], _, [], _ =>
    have e : zs = [a0] := (Option.some.inj (show some [a0] = some zs from h3)).symm
    subst e
    rfl
theorem e5 : Ent K mg (("is_ratio" : Str), 1, ([] : List Str), [0]) := ent_of (d := d_is_ratio) (i := 6) ck_is_ratio (by rfl) rfl rfl (He.glo_ok X G (c.fact 4)) (c.def_ 4) fun _ _ _ _ _ _ us ws zs h1 h2 h3 => by
  match us, h1, ws, h2 with
  | [a0], _, [], _ =>
    have e : zs = [a0] := (Option.some.inj (show some [a0] = some zs from h3)).symm
    subst e
    rfl
theorem e6 : Ent K mg (("r_less" : Str), 2, ([] : List Str), [0, 1]) := ent_of (d := d_r_less) (i := 20) ck_r_less (by rfl) rfl rfl (He.glo_ok X G (c.fact 11)) (c.def_ 11) fun _ _ _ _ _ _ us ws zs h1 h2 h3 => by
  match us, h1, ws, h2 with
  | [a0, a1], _, [], _ =>
    have e : zs = [a0, a1] := (Option.some.inj (show some [a0, a1] = some zs from h3)).symm
    subst e
    rfl
theorem e7 : Ent K mg (("is_list" : Str), 1, ([] : List Str), [0]) := ent_of (d := d_is_list) (i := 2) ck_is_list (by rfl) rfl rfl (He.glo_ok X G (c.fact 0)) (c.def_ 0) fun _ _ _ _ _ _ us ws zs h1 h2 h3 => by
  match us, h1, ws, h2 with
  | [a0], _, [], _ =>
    have e : zs = [a0] := (Option.some.inj (show some [a0] = some zs from h3)).symm
    subst e
    rfl
theorem e8 : Ent K mg (("r_total" : Str), 1, ([] : List Str), [0]) := ent_of (d := d_r_total) (i := 21) ck_r_total (by rfl) rfl rfl (He.glo_ok X G (c.fact 12)) (c.def_ 12) fun _ _ _ _ _ _ us ws zs h1 h2 h3 => by
  match us, h1, ws, h2 with
  | [a0], _, [], _ =>
    have e : zs = [a0] := (Option.some.inj (show some [a0] = some zs from h3)).symm
    subst e
    rfl
theorem e9 : Ent K mg (("is_within" : Str), 2, ([] : List Str), [0, 1]) := ent_of (d := d_is_within) (i := 30) ck_is_within (by rfl) rfl rfl (He.glo_ok X G (c.fact 15)) (c.def_ 15) fun _ _ _ _ _ _ us ws zs h1 h2 h3 => by
  match us, h1, ws, h2 with
  | [a0, a1], _, [], _ =>
    have e : zs = [a0, a1] := (Option.some.inj (show some [a0, a1] = some zs from h3)).symm
    subst e
    rfl
theorem e10 : Ent K mg (("asked_is_right" : Str), 1, ([] : List Str), [0]) := ent_of (d := d_asked_is_right) (i := 29) ck_asked_is_right (by rfl) rfl rfl (He.glo_ok X G (c.fact 14)) (c.def_ 14) fun _ _ _ _ _ _ us ws zs h1 h2 h3 => by
  match us, h1, ws, h2 with
  | [a0], _, [], _ =>
    have e : zs = [a0] := (Option.some.inj (show some [a0] = some zs from h3)).symm
    subst e
    rfl
theorem e11 : Ent K mg (("check_asked" : Str), 1, ([] : List Str), [0]) := ent_of (d := d_check_asked) (i := 33) ck_check_asked (by rfl) rfl rfl (He.glo_ok X G (c.fact 18)) (c.def_ 18) fun _ _ _ _ _ _ us ws zs h1 h2 h3 => by
  match us, h1, ws, h2 with
  | [a0], _, [], _ =>
    have e : zs = [a0] := (Option.some.inj (show some [a0] = some zs from h3)).symm
    subst e
    rfl
theorem e12 : Ent K mg (("check_amount" : Str), 2, ([] : List Str), [0, 1]) := ent_of (d := d_check_amount) (i := 34) ck_check_amount (by rfl) rfl rfl (He.glo_ok X G (c.fact 19)) (c.def_ 19) fun _ _ _ _ _ _ us ws zs h1 h2 h3 => by
  match us, h1, ws, h2 with
  | [a0, a1], _, [], _ =>
    have e : zs = [a0, a1] := (Option.some.inj (show some [a0, a1] = some zs from h3)).symm
    subst e
    rfl
theorem e13 : Ent K mg (("check_shared" : Str), 2, ([] : List Str), [0, 1]) := ent_of (d := d_check_shared) (i := 35) ck_check_shared (by rfl) rfl rfl (He.glo_ok X G (c.fact 20)) (c.def_ 20) fun _ _ _ _ _ _ us ws zs h1 h2 h3 => by
  match us, h1, ws, h2 with
  | [a0, a1], _, [], _ =>
    have e : zs = [a0, a1] := (Option.some.inj (show some [a0, a1] = some zs from h3)).symm
    subst e
    rfl
theorem e14 : Ent K mg (("awards_are_right" : Str), 3, ([] : List Str), [0, 1, 2]) := ent_of (d := d_awards_are_right) (i := 31) ck_awards_are_right (by rfl) rfl rfl (He.glo_ok X G (c.fact 16)) (c.def_ 16) fun _ _ _ _ _ _ us ws zs h1 h2 h3 => by
  match us, h1, ws, h2 with
  | [a0, a1, a2], _, [], _ =>
    have e : zs = [a0, a1, a2] := (Option.some.inj (show some [a0, a1, a2] = some zs from h3)).symm
    subst e
    rfl
theorem e15 : Ent K mg (("in_sequence" : Str), 1, ([] : List Str), [0]) := ent_of (d := d_in_sequence) (i := 38) ck_in_sequence (by rfl) rfl rfl (He.glo_ok X G (c.fact 23)) (c.def_ 23) fun _ _ _ _ _ _ us ws zs h1 h2 h3 => by
  match us, h1, ws, h2 with
  | [a0], _, [], _ =>
    have e : zs = [a0] := (Option.some.inj (show some [a0] = some zs from h3)).symm
    subst e
    rfl
theorem e16 : Ent K mg (("r_minus" : Str), 2, ([] : List Str), [0, 1]) := ent_of (d := d_r_minus) (i := 17) ck_r_minus (by rfl) rfl rfl (He.glo_ok X G (c.fact 8)) (c.def_ 8) fun _ _ _ _ _ _ us ws zs h1 h2 h3 => by
  match us, h1, ws, h2 with
  | [a0, a1], _, [], _ =>
    have e : zs = [a0, a1] := (Option.some.inj (show some [a0, a1] = some zs from h3)).symm
    subst e
    rfl
theorem e17 : Ent K mg (("r_over" : Str), 2, ([] : List Str), [0, 1]) := ent_of (d := d_r_over) (i := 19) ck_r_over (by rfl) rfl rfl (He.glo_ok X G (c.fact 10)) (c.def_ 10) fun _ _ _ _ _ _ us ws zs h1 h2 h3 => by
  match us, h1, ws, h2 with
  | [a0, a1], _, [], _ =>
    have e : zs = [a0, a1] := (Option.some.inj (show some [a0, a1] = some zs from h3)).symm
    subst e
    rfl
theorem e18 : Ent K mg (("r_times" : Str), 2, ([] : List Str), [0, 1]) := ent_of (d := d_r_times) (i := 18) ck_r_times (by rfl) rfl rfl (He.glo_ok X G (c.fact 9)) (c.def_ 9) fun _ _ _ _ _ _ us ws zs h1 h2 h3 => by
  match us, h1, ws, h2 with
  | [a0, a1], _, [], _ =>
    have e : zs = [a0, a1] := (Option.some.inj (show some [a0, a1] = some zs from h3)).symm
    subst e
    rfl
theorem e19 : Ent K mg (("award_level" : Str), 2, ([] : List Str), [0, 1]) := ent_of (d := d_award_level) (i := 40) ck_award_level (by rfl) rfl rfl (He.glo_ok X G (c.fact 25)) (c.def_ 25) fun _ _ _ _ _ _ us ws zs h1 h2 h3 => by
  match us, h1, ws, h2 with
  | [a0, a1], _, [], _ =>
    have e : zs = [a0, a1] := (Option.some.inj (show some [a0, a1] = some zs from h3)).symm
    subst e
    rfl
theorem e20 : Ent K mg (("least_one" : Str), 2, ([] : List Str), [0, 1]) := ent_of (d := d_least_one) (i := 39) ck_least_one (by rfl) rfl rfl (He.glo_ok X G (c.fact 24)) (c.def_ 24) fun _ _ _ _ _ _ us ws zs h1 h2 h3 => by
  match us, h1, ws, h2 with
  | [a0, a1], _, [], _ =>
    have e : zs = [a0, a1] := (Option.some.inj (show some [a0, a1] = some zs from h3)).symm
    subst e
    rfl
theorem e21 : Ent K mg (("rest_by" : Str), 2, ([] : List Str), [0, 1]) := ent_of (d := d_rest_by) (i := 42) ck_rest_by (by rfl) rfl rfl (He.glo_ok X G (c.fact 27)) (c.def_ 27) fun _ _ _ _ _ _ us ws zs h1 h2 h3 => by
  match us, h1, ws, h2 with
  | [a0, a1], _, [], _ =>
    have e : zs = [a0, a1] := (Option.some.inj (show some [a0, a1] = some zs from h3)).symm
    subst e
    rfl
theorem e22 : Ent K mg (("awards_by" : Str), 2, ([] : List Str), [0, 1]) := ent_of (d := d_awards_by) (i := 41) ck_awards_by (by rfl) rfl rfl (He.glo_ok X G (c.fact 26)) (c.def_ 26) fun _ _ _ _ _ _ us ws zs h1 h2 h3 => by
  match us, h1, ws, h2 with
  | [a0, a1], _, [], _ =>
    have e : zs = [a0, a1] := (Option.some.inj (show some [a0, a1] = some zs from h3)).symm
    subst e
    rfl
theorem e23 : Ent K mg (("missing_of" : Str), 2, ([] : List Str), [0, 1]) := ent_of (d := d_missing_of) (i := 43) ck_missing_of (by rfl) rfl rfl (He.glo_ok X G (c.fact 28)) (c.def_ 28) fun _ _ _ _ _ _ us ws zs h1 h2 h3 => by
  match us, h1, ws, h2 with
  | [a0, a1], _, [], _ =>
    have e : zs = [a0, a1] := (Option.some.inj (show some [a0, a1] = some zs from h3)).symm
    subst e
    rfl
theorem e24 : Ent K mg (("garments_by" : Str), 2, ([] : List Str), [0, 1]) := ent_of (d := d_garments_by) (i := 44) ck_garments_by (by rfl) rfl rfl (He.glo_ok X G (c.fact 29)) (c.def_ 29) fun _ _ _ _ _ _ us ws zs h1 h2 h3 => by
  match us, h1, ws, h2 with
  | [a0, a1], _, [], _ =>
    have e : zs = [a0, a1] := (Option.some.inj (show some [a0, a1] = some zs from h3)).symm
    subst e
    rfl
theorem e25 : Ent K mg (("r_plus" : Str), 2, ([] : List Str), [0, 1]) := ent_of (d := d_r_plus) (i := 16) ck_r_plus (by rfl) rfl rfl (He.glo_ok X G (c.fact 7)) (c.def_ 7) fun _ _ _ _ _ _ us ws zs h1 h2 h3 => by
  match us, h1, ws, h2 with
  | [a0, a1], _, [], _ =>
    have e : zs = [a0, a1] := (Option.some.inj (show some [a0, a1] = some zs from h3)).symm
    subst e
    rfl
theorem e26 : Ent K mg (("both_get" : Str), 3, ([] : List Str), [0, 1, 2]) := ent_of (d := d_both_get) (i := 46) ck_both_get (by rfl) rfl rfl (He.glo_ok X G (c.fact 31)) (c.def_ 31) fun _ _ _ _ _ _ us ws zs h1 h2 h3 => by
  match us, h1, ws, h2 with
  | [a0, a1, a2], _, [], _ =>
    have e : zs = [a0, a1, a2] := (Option.some.inj (show some [a0, a1, a2] = some zs from h3)).symm
    subst e
    rfl
theorem e27 : Ent K mg (("check_rule" : Str), 1, ([] : List Str), [0]) := ent_of (d := d_check_rule) (i := 32) ck_check_rule (by rfl) rfl rfl (He.glo_ok X G (c.fact 17)) (c.def_ 17) fun _ _ _ _ _ _ us ws zs h1 h2 h3 => by
  match us, h1, ws, h2 with
  | [a0], _, [], _ =>
    have e : zs = [a0] := (Option.some.inj (show some [a0] = some zs from h3)).symm
    subst e
    rfl
theorem e28 : Ent K mg (("shared_by" : Str), 3, ([] : List Str), [0, 1, 2]) := ent_of (d := d_shared_by) (i := 45) ck_shared_by (by rfl) rfl rfl (He.glo_ok X G (c.fact 30)) (c.def_ 30) fun _ _ _ _ _ _ us ws zs h1 h2 h3 => by
  match us, h1, ws, h2 with
  | [a0, a1, a2], _, [], _ =>
    have e : zs = [a0, a1, a2] := (Option.some.inj (show some [a0, a1, a2] = some zs from h3)).symm
    subst e
    rfl
theorem e29 : Ent K mg (("as_ratios" : Str), 1, ([] : List Str), [0]) := ent_of (d := d_as_ratios) (i := 37) ck_as_ratios (by rfl) rfl rfl (He.glo_ok X G (c.fact 22)) (c.def_ 22) fun _ _ _ _ _ _ us ws zs h1 h2 h3 => by
  match us, h1, ws, h2 with
  | [a0], _, [], _ =>
    have e : zs = [a0] := (Option.some.inj (show some [a0] = some zs from h3)).symm
    subst e
    rfl
theorem e30 : Ent K mg (("check_awards" : Str), 3, ([] : List Str), [0, 1, 2]) := ent_of (d := d_check_awards) (i := 36) ck_check_awards (by rfl) rfl rfl (He.glo_ok X G (c.fact 21)) (c.def_ 21) fun _ _ _ _ _ _ us ws zs h1 h2 h3 => by
  match us, h1, ws, h2 with
  | [a0, a1, a2], _, [], _ =>
    have e : zs = [a0, a1, a2] := (Option.some.inj (show some [a0, a1, a2] = some zs from h3)).symm
    subst e
    rfl
theorem e31 : Ent K mg (("shares_so" : Str), 4, ([] : List Str), [0, 1, 2, 3]) := ent_of (d := d_shares_so) (i := 47) ck_shares_so (by rfl) rfl rfl (He.glo_ok X G (c.fact 32)) (c.def_ 32) fun _ _ _ _ _ _ us ws zs h1 h2 h3 => by
  match us, h1, ws, h2 with
  | [a0, a1, a2, a3], _, [], _ =>
    have e : zs = [a0, a1, a2, a3] := (Option.some.inj (show some [a0, a1, a2, a3] = some zs from h3)).symm
    subst e
    rfl
theorem e32 : Ent K mg (("is_position" : Str), 2, ([] : List Str), [0, 1]) := ent_of (d := d_is_position) (i := 5) ck_is_position (by rfl) rfl rfl (He.glo_ok X G (c.fact 3)) (c.def_ 3) fun _ _ _ _ _ _ us ws zs h1 h2 h3 => by
  match us, h1, ws, h2 with
  | [a0, a1], _, [], _ =>
    have e : zs = [a0, a1] := (Option.some.inj (show some [a0, a1] = some zs from h3)).symm
    subst e
    rfl
theorem e33 : Ent K mg (("_law_draw" : Str), 2, ([] : List Str), [0, 1]) := ent_of (d := d__law_draw) (i := 54) ck__law_draw (by rfl) rfl rfl (He.glo_ok X G (c.fact 38)) (c.def_ 38) fun _ _ _ _ _ _ us ws zs h1 h2 h3 => by
  match us, h1, ws, h2 with
  | [a0, a1], _, [], _ =>
    have e : zs = [a0, a1] := (Option.some.inj (show some [a0, a1] = some zs from h3)).symm
    subst e
    rfl
theorem e34 : Ent K mg (("_law_made" : Str), 2, ([] : List Str), [0, 1]) := ent_of (d := d__law_made) (i := 56) ck__law_made (by rfl) rfl rfl (He.glo_ok X G (c.fact 40)) (c.def_ 40) fun _ _ _ _ _ _ us ws zs h1 h2 h3 => by
  match us, h1, ws, h2 with
  | [a0, a1], _, [], _ =>
    have e : zs = [a0, a1] := (Option.some.inj (show some [a0, a1] = some zs from h3)).symm
    subst e
    rfl
theorem e35 : Ent K mg (("_law_add" : Str), 2, ([] : List Str), [0, 1]) := ent_of (d := d__law_add) (i := 57) ck__law_add (by rfl) rfl rfl (He.glo_ok X G (c.fact 41)) (c.def_ 41) fun _ _ _ _ _ _ us ws zs h1 h2 h3 => by
  match us, h1, ws, h2 with
  | [a0, a1], _, [], _ =>
    have e : zs = [a0, a1] := (Option.some.inj (show some [a0, a1] = some zs from h3)).symm
    subst e
    rfl
theorem e36 : Ent K mg (("_law_pick" : Str), 2, ([] : List Str), [0, 1]) := ent_of (d := d__law_pick) (i := 55) ck__law_pick (by rfl) rfl rfl (He.glo_ok X G (c.fact 39)) (c.def_ 39) fun _ _ _ _ _ _ us ws zs h1 h2 h3 => by
  match us, h1, ws, h2 with
  | [a0, a1], _, [], _ =>
    have e : zs = [a0, a1] := (Option.some.inj (show some [a0, a1] = some zs from h3)).symm
    subst e
    rfl
theorem e37 : Ent K mg (("_law_sub" : Str), 2, ([] : List Str), [0, 1]) := ent_of (d := d__law_sub) (i := 58) ck__law_sub (by rfl) rfl rfl (He.glo_ok X G (c.fact 42)) (c.def_ 42) fun _ _ _ _ _ _ us ws zs h1 h2 h3 => by
  match us, h1, ws, h2 with
  | [a0, a1], _, [], _ =>
    have e : zs = [a0, a1] := (Option.some.inj (show some [a0, a1] = some zs from h3)).symm
    subst e
    rfl
theorem e38 : Ent K mg (("_law_div" : Str), 2, ([] : List Str), [0, 1]) := ent_of (d := d__law_div) (i := 60) ck__law_div (by rfl) rfl rfl (He.glo_ok X G (c.fact 44)) (c.def_ 44) fun _ _ _ _ _ _ us ws zs h1 h2 h3 => by
  match us, h1, ws, h2 with
  | [a0, a1], _, [], _ =>
    have e : zs = [a0, a1] := (Option.some.inj (show some [a0, a1] = some zs from h3)).symm
    subst e
    rfl
theorem e39 : Ent K mg (("_law_garment" : Str), 3, ([] : List Str), [0, 1, 2]) := ent_of (d := d__law_garment) (i := 66) ck__law_garment (by rfl) rfl rfl (He.glo_ok X G (c.fact 49)) (c.def_ 49) fun _ _ _ _ _ _ us ws zs h1 h2 h3 => by
  match us, h1, ws, h2 with
  | [a0, a1, a2], _, [], _ =>
    have e : zs = [a0, a1, a2] := (Option.some.inj (show some [a0, a1, a2] = some zs from h3)).symm
    subst e
    rfl
theorem e40 : Ent K mg (("shared" : Str), 3, ([] : List Str), [0, 1, 2]) := ent_of (d := d_shared) (i := 48) ck_shared (by rfl) rfl rfl (He.glo_ok X G (c.fact 33)) (c.def_ 33) fun _ _ _ _ _ _ us ws zs h1 h2 h3 => by
  match us, h1, ws, h2 with
  | [a0, a1, a2], _, [], _ =>
    have e : zs = [a0, a1, a2] := (Option.some.inj (show some [a0, a1, a2] = some zs from h3)).symm
    subst e
    rfl
theorem e41 : Ent K mg (("_law_total" : Str), 1, ([] : List Str), [0]) := ent_of (d := d__law_total) (i := 62) ck__law_total (by rfl) rfl rfl (He.glo_ok X G (c.fact 46)) (c.def_ 46) fun _ _ _ _ _ _ us ws zs h1 h2 h3 => by
  match us, h1, ws, h2 with
  | [a0], _, [], _ =>
    have e : zs = [a0] := (Option.some.inj (show some [a0] = some zs from h3)).symm
    subst e
    rfl
theorem e42 : Ent K mg (("_law_lt" : Str), 2, ([] : List Str), [0, 1]) := ent_of (d := d__law_lt) (i := 61) ck__law_lt (by rfl) rfl rfl (He.glo_ok X G (c.fact 45)) (c.def_ 45) fun _ _ _ _ _ _ us ws zs h1 h2 h3 => by
  match us, h1, ws, h2 with
  | [a0, a1], _, [], _ =>
    have e : zs = [a0, a1] := (Option.some.inj (show some [a0, a1] = some zs from h3)).symm
    subst e
    rfl
theorem e43 : Ent K mg (("_law_mul" : Str), 2, ([] : List Str), [0, 1]) := ent_of (d := d__law_mul) (i := 59) ck__law_mul (by rfl) rfl rfl (He.glo_ok X G (c.fact 43)) (c.def_ 43) fun _ _ _ _ _ _ us ws zs h1 h2 h3 => by
  match us, h1, ws, h2 with
  | [a0, a1], _, [], _ =>
    have e : zs = [a0, a1] := (Option.some.inj (show some [a0, a1] = some zs from h3)).symm
    subst e
    rfl
theorem e44 : Ent K mg (("least_amount" : Str), 4, ([] : List Str), [0, 1, 2, 3]) := ent_of (d := d_least_amount) (i := 51) ck_least_amount (by rfl) rfl rfl (He.glo_ok X G (c.fact 36)) (c.def_ 36) fun _ _ _ _ _ _ us ws zs h1 h2 h3 => by
  match us, h1, ws, h2 with
  | [a0, a1, a2, a3], _, [], _ =>
    have e : zs = [a0, a1, a2, a3] := (Option.some.inj (show some [a0, a1, a2, a3] = some zs from h3)).symm
    subst e
    rfl
theorem e45 : Ent K mg (("least_amount" : Str), 0, (["amount", "at", "asked", "rule"] : List Str), [3, 2, 1, 0]) := ent_of (d := d_least_amount) (i := 51) ck_least_amount (by rfl) rfl rfl (He.glo_ok X G (c.fact 36)) (c.def_ 36) fun _ _ _ _ _ _ us ws zs h1 h2 h3 => by
  match us, h1, ws, h2 with
  | [], _, [b0, b1, b2, b3], _ =>
    have e : zs = [b3, b2, b1, b0] := (Option.some.inj (show some [b3, b2, b1, b0] = some zs from h3)).symm
    subst e
    rfl
theorem e46 : Ent K mg (("_law_asked" : Str), 1, ([] : List Str), [0]) := ent_of (d := d__law_asked) (i := 64) ck__law_asked (by rfl) rfl rfl (He.glo_ok X G (c.fact 47)) (c.def_ 47) fun _ _ _ _ _ _ us ws zs h1 h2 h3 => by
  match us, h1, ws, h2 with
  | [a0], _, [], _ =>
    have e : zs = [a0] := (Option.some.inj (show some [a0] = some zs from h3)).symm
    subst e
    rfl
theorem e47 : Ent K mg (("_law_amount" : Str), 2, ([] : List Str), [0, 1]) := ent_of (d := d__law_amount) (i := 65) ck__law_amount (by rfl) rfl rfl (He.glo_ok X G (c.fact 48)) (c.def_ 48) fun _ _ _ _ _ _ us ws zs h1 h2 h3 => by
  match us, h1, ws, h2 with
  | [a0, a1], _, [], _ =>
    have e : zs = [a0, a1] := (Option.some.inj (show some [a0, a1] = some zs from h3)).symm
    subst e
    rfl
theorem e48 : Ent K mg (("_law_consistent" : Str), 3, ([] : List Str), [0, 1, 2]) := ent_of (d := d__law_consistent) (i := 68) ck__law_consistent (by rfl) rfl rfl (He.glo_ok X G (c.fact 51)) (c.def_ 51) fun _ _ _ _ _ _ us ws zs h1 h2 h3 => by
  match us, h1, ws, h2 with
  | [a0, a1, a2], _, [], _ =>
    have e : zs = [a0, a1, a2] := (Option.some.inj (show some [a0, a1, a2] = some zs from h3)).symm
    subst e
    rfl
theorem e49 : Ent K mg (("_law_least_right" : Str), 2, ([] : List Str), [0, 1]) := ent_of (d := d__law_least_right) (i := 69) ck__law_least_right (by rfl) rfl rfl (He.glo_ok X G (c.fact 52)) (c.def_ 52) fun _ _ _ _ _ _ us ws zs h1 h2 h3 => by
  match us, h1, ws, h2 with
  | [a0, a1], _, [], _ =>
    have e : zs = [a0, a1] := (Option.some.inj (show some [a0, a1] = some zs from h3)).symm
    subst e
    rfl
theorem e50 : Ent K mg (("_law_pair_out" : Str), 2, ([] : List Str), [0, 1]) := ent_of (d := d__law_pair_out) (i := 67) ck__law_pair_out (by rfl) rfl rfl (He.glo_ok X G (c.fact 50)) (c.def_ 50) fun _ _ _ _ _ _ us ws zs h1 h2 h3 => by
  match us, h1, ws, h2 with
  | [a0, a1], _, [], _ =>
    have e : zs = [a0, a1] := (Option.some.inj (show some [a0, a1] = some zs from h3)).symm
    subst e
    rfl
theorem e51 : Ent K mg (("by_garment" : Str), 3, ([] : List Str), [0, 1, 2]) := ent_of (d := d_by_garment) (i := 50) ck_by_garment (by rfl) rfl rfl (He.glo_ok X G (c.fact 35)) (c.def_ 35) fun _ _ _ _ _ _ us ws zs h1 h2 h3 => by
  match us, h1, ws, h2 with
  | [a0, a1, a2], _, [], _ =>
    have e : zs = [a0, a1, a2] := (Option.some.inj (show some [a0, a1, a2] = some zs from h3)).symm
    subst e
    rfl
theorem e52 : Ent K mg (("by_garment" : Str), 0, (["amount", "other", "one"] : List Str), [2, 1, 0]) := ent_of (d := d_by_garment) (i := 50) ck_by_garment (by rfl) rfl rfl (He.glo_ok X G (c.fact 35)) (c.def_ 35) fun _ _ _ _ _ _ us ws zs h1 h2 h3 => by
  match us, h1, ws, h2 with
  | [], _, [b0, b1, b2], _ =>
    have e : zs = [b2, b1, b0] := (Option.some.inj (show some [b2, b1, b0] = some zs from h3)).symm
    subst e
    rfl
theorem e53 : Ent K mg (("pair_out" : Str), 3, ([] : List Str), [0, 1, 2]) := ent_of (d := d_pair_out) (i := 49) ck_pair_out (by rfl) rfl rfl (He.glo_ok X G (c.fact 34)) (c.def_ 34) fun _ _ _ _ _ _ us ws zs h1 h2 h3 => by
  match us, h1, ws, h2 with
  | [a0, a1, a2], _, [], _ =>
    have e : zs = [a0, a1, a2] := (Option.some.inj (show some [a0, a1, a2] = some zs from h3)).symm
    subst e
    rfl
theorem e54 : Ent K mg (("pair_out" : Str), 0, (["value", "amount", "asked"] : List Str), [2, 1, 0]) := ent_of (d := d_pair_out) (i := 49) ck_pair_out (by rfl) rfl rfl (He.glo_ok X G (c.fact 34)) (c.def_ 34) fun _ _ _ _ _ _ us ws zs h1 h2 h3 => by
  match us, h1, ws, h2 with
  | [], _, [b0, b1, b2], _ =>
    have e : zs = [b2, b1, b0] := (Option.some.inj (show some [b2, b1, b0] = some zs from h3)).symm
    subst e
    rfl
theorem e55 : Ent K mg (("_law_right" : Str), 1, ([] : List Str), [0]) := ent_of (d := d__law_right) (i := 70) ck__law_right (by rfl) rfl rfl (He.glo_ok X G (c.fact 53)) (c.def_ 53) fun _ _ _ _ _ _ us ws zs h1 h2 h3 => by
  match us, h1, ws, h2 with
  | [a0], _, [], _ =>
    have e : zs = [a0] := (Option.some.inj (show some [a0] = some zs from h3)).symm
    subst e
    rfl
theorem e56 : Ent K mg (("_law_pot" : Str), 2, ([] : List Str), [0, 1]) := ent_of (d := d__law_pot) (i := 53) ck__law_pot (by rfl) rfl rfl (He.glo_ok X G (c.fact 37)) (c.def_ 37) fun _ _ _ _ _ _ us ws zs h1 h2 h3 => by
  match us, h1, ws, h2 with
  | [a0, a1], _, [], _ =>
    have e : zs = [a0, a1] := (Option.some.inj (show some [a0, a1] = some zs from h3)).symm
    subst e
    rfl
theorem shOk : ShOk pg K mg 80 := by
  have all : ∀ e ∈ sh, Ent K mg e := (List.forall_mem_cons.mpr ⟨e0 c X G, (List.forall_mem_cons.mpr ⟨e1 c X G, (List.forall_mem_cons.mpr ⟨e2 c X G, (List.forall_mem_cons.mpr ⟨e3 c X G, (List.forall_mem_cons.mpr ⟨e4 c X G, (List.forall_mem_cons.mpr ⟨e5 c X G, (List.forall_mem_cons.mpr ⟨e6 c X G, (List.forall_mem_cons.mpr ⟨e7 c X G, (List.forall_mem_cons.mpr ⟨e8 c X G, (List.forall_mem_cons.mpr ⟨e9 c X G, (List.forall_mem_cons.mpr ⟨e10 c X G, (List.forall_mem_cons.mpr ⟨e11 c X G, (List.forall_mem_cons.mpr ⟨e12 c X G, (List.forall_mem_cons.mpr ⟨e13 c X G, (List.forall_mem_cons.mpr ⟨e14 c X G, (List.forall_mem_cons.mpr ⟨e15 c X G, (List.forall_mem_cons.mpr ⟨e16 c X G, (List.forall_mem_cons.mpr ⟨e17 c X G, (List.forall_mem_cons.mpr ⟨e18 c X G, (List.forall_mem_cons.mpr ⟨e19 c X G, (List.forall_mem_cons.mpr ⟨e20 c X G, (List.forall_mem_cons.mpr ⟨e21 c X G, (List.forall_mem_cons.mpr ⟨e22 c X G, (List.forall_mem_cons.mpr ⟨e23 c X G, (List.forall_mem_cons.mpr ⟨e24 c X G, (List.forall_mem_cons.mpr ⟨e25 c X G, (List.forall_mem_cons.mpr ⟨e26 c X G, (List.forall_mem_cons.mpr ⟨e27 c X G, (List.forall_mem_cons.mpr ⟨e28 c X G, (List.forall_mem_cons.mpr ⟨e29 c X G, (List.forall_mem_cons.mpr ⟨e30 c X G, (List.forall_mem_cons.mpr ⟨e31 c X G, (List.forall_mem_cons.mpr ⟨e32 c X G, (List.forall_mem_cons.mpr ⟨e33 c X G, (List.forall_mem_cons.mpr ⟨e34 c X G, (List.forall_mem_cons.mpr ⟨e35 c X G, (List.forall_mem_cons.mpr ⟨e36 c X G, (List.forall_mem_cons.mpr ⟨e37 c X G, (List.forall_mem_cons.mpr ⟨e38 c X G, (List.forall_mem_cons.mpr ⟨e39 c X G, (List.forall_mem_cons.mpr ⟨e40 c X G, (List.forall_mem_cons.mpr ⟨e41 c X G, (List.forall_mem_cons.mpr ⟨e42 c X G, (List.forall_mem_cons.mpr ⟨e43 c X G, (List.forall_mem_cons.mpr ⟨e44 c X G, (List.forall_mem_cons.mpr ⟨e45 c X G, (List.forall_mem_cons.mpr ⟨e46 c X G, (List.forall_mem_cons.mpr ⟨e47 c X G, (List.forall_mem_cons.mpr ⟨e48 c X G, (List.forall_mem_cons.mpr ⟨e49 c X G, (List.forall_mem_cons.mpr ⟨e50 c X G, (List.forall_mem_cons.mpr ⟨e51 c X G, (List.forall_mem_cons.mpr ⟨e52 c X G, (List.forall_mem_cons.mpr ⟨e53 c X G, (List.forall_mem_cons.mpr ⟨e54 c X G, (List.forall_mem_cons.mpr ⟨e55 c X G, (List.forall_mem_cons.mpr ⟨e56 c X G, (fun _ h => (List.not_mem_nil h).elim)⟩)⟩)⟩)⟩)⟩)⟩)⟩)⟩)⟩)⟩)⟩)⟩)⟩)⟩)⟩)⟩)⟩)⟩)⟩)⟩)⟩)⟩)⟩)⟩)⟩)⟩)⟩)⟩)⟩)⟩)⟩)⟩)⟩)⟩)⟩)⟩)⟩)⟩)⟩)⟩)⟩)⟩)⟩)⟩)⟩)⟩)⟩)⟩)⟩)⟩)⟩)⟩)⟩)⟩)⟩)⟩)⟩)
  exact fun x m ks order hm => all _ hm
theorem md (cx : Hd.mx K = true) : Md pg K mg := by
  obtain ⟨cx, m4⟩ := Bool.and_eq_true_iff.mp cx
  obtain ⟨cx, m3⟩ := Bool.and_eq_true_iff.mp cx
  obtain ⟨cx, m2⟩ := Bool.and_eq_true_iff.mp cx
  obtain ⟨cx, m1⟩ := Bool.and_eq_true_iff.mp cx
  have m0 := cx
  refine ⟨?_, (List.forall_mem_cons.mpr ⟨(PySem.W.mg_of X G (He.eqO_ok m0)), (List.forall_mem_cons.mpr ⟨(PySem.W.mg_of X G (He.eqO_ok m1)), (fun _ h => (List.not_mem_nil h).elim)⟩)⟩), ?_⟩
  · exact (List.forall_mem_cons.mpr ⟨He.free_ok X G (c.fact 55), (List.forall_mem_cons.mpr ⟨He.free_ok X G (c.fact 56), (List.forall_mem_cons.mpr ⟨He.free_ok X G (c.fact 57), (List.forall_mem_cons.mpr ⟨He.free_ok X G (c.fact 58), (List.forall_mem_cons.mpr ⟨He.free_ok X G (c.fact 59), (List.forall_mem_cons.mpr ⟨He.free_ok X G (c.fact 60), (List.forall_mem_cons.mpr ⟨He.free_ok X G (c.fact 61), (List.forall_mem_cons.mpr ⟨He.free_ok X G (c.fact 62), (List.forall_mem_cons.mpr ⟨He.free_ok X G (c.fact 63), (List.forall_mem_cons.mpr ⟨He.free_ok X G (c.fact 64), (List.forall_mem_cons.mpr ⟨He.free_ok X G (c.fact 65), (List.forall_mem_cons.mpr ⟨He.free_ok X G (c.fact 66), (List.forall_mem_cons.mpr ⟨He.free_ok X G (c.fact 67), (List.forall_mem_cons.mpr ⟨He.free_ok X G (c.fact 68), (List.forall_mem_cons.mpr ⟨He.free_ok X G (c.fact 69), (List.forall_mem_cons.mpr ⟨He.free_ok X G (c.fact 70), (List.forall_mem_cons.mpr ⟨He.free_ok X G (c.fact 71), (fun _ h => (List.not_mem_nil h).elim)⟩)⟩)⟩)⟩)⟩)⟩)⟩)⟩)⟩)⟩)⟩)⟩)⟩)⟩)⟩)⟩)⟩)
  · exact (List.forall_mem_cons.mpr ⟨(cstB_ok X G m2), (List.forall_mem_cons.mpr ⟨(let ⟨t, e⟩ := He.int_ok X G (c.fact 72); ⟨_, .int _, e, ⟨t, rfl⟩, fun _ => rfl⟩), (List.forall_mem_cons.mpr ⟨(let ⟨t, e⟩ := He.int_ok X G (c.fact 73); ⟨_, .int _, e, ⟨t, rfl⟩, fun _ => rfl⟩), (List.forall_mem_cons.mpr ⟨(cstB_ok X G m3), (List.forall_mem_cons.mpr ⟨(cstB_ok X G m4), (fun _ h => (List.not_mem_nil h).elim)⟩)⟩)⟩)⟩)⟩)
end
open PySem.W PySem.Calls in
theorem main (N : Nat) (hN : Room (N + 1) callerA) (F : ∀ ns : List Int, ns.length ≤ 63 → ∃ hp', callN prog (N + 1) "law" [.scr ns] [] = some (rD (.bool true), hp')) : PySem.Challenge.rw_calledpapers_k90_whole_consistent_shares.Holds := by
  w_on; o_law
  refine HandSHeadRun.head_imp (r := OpenLaw.row PySem.Challenge.rw_calledpapers_k90_whole_consistent_shares) (q := view (OpenLaw.row PySem.Challenge.rw_calledpapers_k90_whole_consistent_shares).prog [0, 71]) (H := Hd.hk) (ob := Hd.ob) (M := 4000) (loose := Hd.loose) (d := HandSHeadRun.topDef (OpenLaw.row PySem.Challenge.rw_calledpapers_k90_whole_consistent_shares).prog 71) (kwd := []) Hd.ob_eq
    Hd.run (by kernel_rfl) (by kernel_rfl) (by kernel_rfl) (by rfl) (by first | assumption | decide +kernel) (by decide +kernel) ⟨rfl, rfl, rfl, rfl, rfl, by decide +kernel⟩ ?hw ?hc
  case hw => w_witness2
  case hc =>
    refine walkG (l := PySem.Challenge.rw_calledpapers_k90_whole_consistent_shares) (n := 63) (k := N + 1) (x := "script") rfl (by decide) (by kernel_rfl) hN fun w mg fa h Y G hmg0 => ?_
    have hmg : mg ("law" : PySem.Str) = some (.ref fa) := by
      have e : (HandSHeadRun.topDef (OpenLaw.row PySem.Challenge.rw_calledpapers_k90_whole_consistent_shares).prog 71).name = ("law" : PySem.Str) := by kernel_rfl
      rw [← e]
      exact hmg0
    obtain ⟨K, X, c⟩ := Y
    have cx : Hd.mx K = true := c.more
    have c : He.SaysD Hd.fa Hd.fn K := congrArg Prod.fst (show He.obsT Hd.fa Hd.fn [] K = He.valT Hd.fn [] w from c.t)
    obtain ⟨fd, FD⟩ := c.def_ 54
    have ef : He.ga K "law" = fa := by
      have := He.glo_ok X G (c.fact 54)
      rw [hmg] at this
      cases this
      rfl
    have FD2 : FunD K "law" "law" (defArgs (Hd.top 71)) (defBody (Hd.top 71)) (defScope (Hd.top 71)) [] [] fa fd := by
      rw [← ef]
      exact FD
    have M := md c X G cx
    refine ⟨K, fd, spN K prog (N + 1) "law", X, fun s u => ?_, fun H a ns hl scr => law_sp (P := pg) scr (F ns hl), fun base kin gl => ?_⟩
    · have sh1 := shape_of (m := 1) (ks := []) (ps := ["script"]) (order := [0]) FD2 fun _ _ _ _ _ _ us ws zs h1 h2 h3 => by
        match us, h1, ws, h2 with
        | [a0], _, [], _ =>
          have e : zs = [a0] := (Option.some.inj (show some [a0] = some zs from h3)).symm
          subst e
          rfl
      exact sh1 s [u] [] [u] rfl rfl rfl
    · exact def_step (P := pg) (d := d_law) M FD2 ck_law (by rfl) (sh_all M (shOk c X G) N)
end Lw

set_option linter.all false
set_option Elab.async false
set_option maxRecDepth 100000
set_option maxHeartbeats 1000000
/-! R1: running the evaluator by equations. -/
namespace Ev
open PySem
theorem nr {α : Sort _} {a b : α} (h : a = b) : a = b := by
  cases h
  rfl
section
variable {α β γ : Type}
theorem bnd_ret (a : α) (f : α → M β) : bnd (ret a) f = f a := nr rfl
theorem bnd_assoc (m : M α) (f : α → M β) (g : β → M γ) : bnd (bnd m f) g = bnd m fun x => bnd (f x) g := by
  funext h
  unfold bnd
  cases m h <;> rfl
theorem bnd_id (m : M α) : bnd m ret = m := by
  funext h
  unfold bnd ret
  cases m h <;> rfl
theorem lift_some' (a : α) : lift (some a) = (ret a : M α) := nr rfl
theorem look_some' (a : α) : look (fun _ => some a) = (ret a : M α) := nr rfl
theorem chk_true : chk true = ret () := nr rfl
theorem ret_inj {a b : α} (h : Hp) : (ret a : M α) h = some (a, h) := nr rfl
end
/-! ### lists of data -/
theorem allData_map : ∀ ds : List PyData, allData (ds.map .d) = some ds
  | [] => rfl
  | d :: ds => by simp only [List.map_cons, allData, allData_map ds]
theorem ints_map : ∀ is : List Int, ints? ((is.map PyData.int).map .d) = some is
  | [] => rfl
  | i :: is => by simp only [List.map_cons, ints?, ints_map is]
theorem bools_map : ∀ is : List Bool, bools? ((is.map PyData.bool).map .d) = some is
  | [] => rfl
  | i :: is => by simp only [List.map_cons, bools?, bools_map is]
theorem datas_map : ∀ ds : List PyData, datas? (ds.map fun d => .hv (.d d)) = some ds
  | [] => rfl
  | d :: ds => by simp only [List.map_cons, datas?, datas_map ds]
theorem hvs_map : ∀ ds : List HV, hvs? (ds.map .hv) = some ds
  | [] => rfl
  | d :: ds => by simp only [List.map_cons, hvs?, hvs_map ds]
theorem noRef_map : ∀ ds : List PyData, noRef (ds.map .d) = true
  | [] => rfl
  | d :: ds => by simp only [List.map_cons, noRef, noRef_map ds]
/-! shapes -/
def D1 (d : PyData) : Prop := d.canLay0 = true ∧ d.depth ≤ 1
theorem canLay_ints : ∀ is : List Int, PyData.canLayAll0 (is.map .int) = true
  | [] => rfl
  | i :: is => by simp only [List.map_cons, PyData.canLayAll0, PyData.canLay0, canLay_ints is, Bool.and_self]
theorem depth_ints : ∀ is : List Int, PyData.depthAll (is.map .int) ≤ 1
  | [] => by simp [PyData.depthAll]
  | i :: is => by
    have := depth_ints is
    simp only [List.map_cons, PyData.depthAll, PyData.depth]
    omega
theorem shaped_ints (is : List Int) : SeqAt.shaped (.list (is.map .int)) = true := by
  unfold SeqAt.shaped
  have h1 := canLay_ints is
  have h2 := depth_ints is
  have h3 : PyData.depth (.list (is.map .int)) ≤ 64 := by
    have e : PyData.depth (.list (is.map .int)) = PyData.depthAll (is.map .int) + 1 := by rfl
    omega
  have h4 : PyData.canLay0 (.list (is.map .int)) = true := h1
  rw [h4, decide_eq_true h3]
  rfl
theorem shaped_int (i : Int) : SeqAt.shaped (.int i) = true := nr rfl
theorem eqv_int (i j : Int) : PyData.eqv (.int i) (.int j) = decide (i = j) := by
  show (i == j) = decide (i = j)
  exact Bool.beq_eq_decide_eq i j
theorem inB_ints (a : Int) (is : List Int) : inB (.int a) (is.map .int) = decide (a ∈ is) := by
  unfold inB
  induction is with
  | nil => rfl
  | cons i is ih =>
    rw [List.map_cons, List.any_cons, ih, eqv_int]
    by_cases h : i = a
    · simp [h]
    · have h2 : a ≠ i := fun z => h z.symm
      simp [h, h2]
/-! ### comprehensions -/
theorem compSeq_ret {turn : HV → M (Option HV)} {g : HV → Option HV} : ∀ {xs : List HV}, (∀ x ∈ xs, turn x = ret (g x)) → compSeq turn xs = ret (xs.filterMap g)
  | [], _ => rfl
  | x :: xs, h => by
    unfold compSeq
    rw [h x List.mem_cons_self, bnd_ret, compSeq_ret fun y hy => h y (List.mem_cons_of_mem _ hy), bnd_ret]
    cases e : g x with
    | none => rw [List.filterMap_cons_none e]
    | some y => rw [List.filterMap_cons_some e]
/-- over data, each giving a value -/
theorem comp_map {δ : Type} {turn : HV → M (Option HV)} {f : δ → HV} {g : δ → HV} {xs : List δ} (h : ∀ x ∈ xs, turn (f x) = ret (some (g x))) : compSeq turn (xs.map f) = ret (xs.map g) := by
  induction xs with
  | nil => rfl
  | cons x xs ih =>
    rw [List.map_cons]
    unfold compSeq
    rw [h x List.mem_cons_self, bnd_ret, ih fun y hy => h y (List.mem_cons_of_mem _ hy), bnd_ret, List.map_cons]
/-- .. some of them left out -/
theorem comp_filter {δ : Type} {turn : HV → M (Option HV)} {f : δ → HV} {g : δ → HV} {p : δ → Bool} {xs : List δ} (h : ∀ x ∈ xs, turn (f x) = ret (if p x then some (g x) else none)) : compSeq turn (xs.map f) = ret ((xs.filter p).map g) := by
  induction xs with
  | nil => rfl
  | cons x xs ih =>
    rw [List.map_cons]
    unfold compSeq
    rw [h x List.mem_cons_self, bnd_ret, ih fun y hy => h y (List.mem_cons_of_mem _ hy), bnd_ret]
    cases e : p x with
    | true => rw [List.filter_cons_of_pos e]; rfl
    | false => rw [List.filter_cons_of_neg (by rw [e]; exact Bool.false_ne_true)]; rfl
/-! ### calls -/
/-- what a pure call may give: it stays what it is -/
def outOk : RV → Bool
  | .hv (.d _) => true
  | .fresh xs => (allData xs).isSome
  | _ => false
theorem runCall_ret {C : CallT} {f : Str} {args : List HV} {r : RV} (hn : noRef args = true) (e : C f args = ret r) (ho : outOk r = true) : runCall C f true args = ret r := by
  funext h
  unfold runCall
  rw [if_pos rfl, if_pos hn, e]
  show (match outP (r, []) with | some x => some (x, h) | none => none) = some (r, h)
  cases r with
  | hv x =>
    cases x with
    | d x => rfl
    | _ => cases ho
  | fresh xs =>
    have h2 : (allData xs).isSome = true := ho
    cases q : allData xs with
    | none => rw [q] at h2; cases h2
    | some ds => simp only [outP, q]
/-- .. from the empty heap -/
theorem runCall_at {C : CallT} {f : Str} {args : List HV} {r x : RV} {h1 : Hp} (hn : noRef args = true) (e : C f args [] = some (r, h1)) (ho : outP (r, h1) = some x) : runCall C f true args = ret x := by
  funext h
  unfold runCall
  rw [if_pos rfl, if_pos hn, e]
  dsimp only
  rw [ho]
  rfl
theorem outOk_data (xs : List PyData) : outOk (.fresh (xs.map .d)) = true := by
  show (allData (xs.map .d)).isSome = true
  rw [allData_map]
  rfl
/-! ### one step of each term -/
section
variable {C : CallT} {env : Env}
theorem ev_var {i : Nat} : ev C (.var i) env = bnd (lift (getVar env i)) fun v => ret (.hv v) := nr rfl
theorem ev_lit {x : PyData} : ev C (.lit x) env = ret (rD x) := nr rfl
theorem ev_glob {g : Str} {x : PyData} : ev C (.glob g x) env = ret (rD x) := nr rfl
theorem ev_bin {op : BOp} {a b : E} : ev C (.bin op a b) env = bnd (ev C a env) fun x => bnd (ev C b env) fun y => look fun h => binV h op x y := nr rfl
theorem ev_neg {a : E} : ev C (.neg a) env = bnd (ev C a env) fun x => bnd (lift (toInt x)) fun i => ret (rD (.int (-i))) := nr rfl
theorem ev_cmp {op : COp} {a b : E} : ev C (.cmp op a b) env = bnd (ev C a env) fun x => bnd (ev C b env) fun y => bnd (look fun h => cmpV h op x y) fun r => ret (rD (.bool r)) := nr rfl
theorem ev_chain {op op' : COp} {a b c : E} : ev C (.chain op op' a b c) env = bnd (ev C a env) fun x => bnd (ev C b env) fun y => bnd (look fun h => cmpV h op x y) fun r =>
      if r then bnd (ev C c env) fun z => bnd (look fun h => cmpV h op' y z) fun r' => ret (rD (.bool r')) else ret (rD (.bool false)) := nr rfl
theorem ev_not {a : E} : ev C (.not a) env = bnd (ev C a env) fun x => bnd (lift (toBool x)) fun b => ret (rD (.bool !b)) := nr rfl
theorem ev_and {a b : E} : ev C (.and a b) env = bnd (ev C a env) fun x => bnd (lift (toBool x)) fun r => if r then ev C b env else ret (rD (.bool false)) := nr rfl
theorem ev_or {a b : E} : ev C (.or a b) env = bnd (ev C a env) fun x => bnd (lift (toBool x)) fun r => if r then ret (rD (.bool true)) else ev C b env := nr rfl
theorem ev_ite {c a b : E} : ev C (.ite c a b) env = bnd (ev C c env) fun x => bnd (lift (toBool x)) fun r => if r then ev C a env else ev C b env := nr rfl
theorem ev_tup {es : List E} : ev C (.tup es) env = bnd (evs C es env) fun xs => bnd (lift (datas? xs)) fun ds => bnd (chk (lenOk ds.length)) fun _ => ret (rD (.tuple ds)) := nr rfl
theorem ev_lst {es : List E} : ev C (.lst es) env = bnd (evs C es env) fun xs => bnd (lift (hvs? xs)) fun vs => bnd (chk (lenOk vs.length)) fun _ => ret (.fresh vs) := nr rfl
theorem ev_frz {e : E} : ev C (.frz e) env = bnd (ev C e env) frzV := nr rfl
theorem ev_new {e : E} : ev C (.new e) env = bnd (ev C e env) newV := nr rfl
theorem ev_ix {a i : E} : ev C (.ix a i) env = bnd (ev C a env) fun x => bnd (ev C i env) fun y => bnd (lift (toInt y)) fun j => look fun h => ixV h x j := nr rfl
theorem ev_sl {a : E} {lo hi : Option E} : ev C (.sl a lo hi) env = bnd (ev C a env) fun x => bnd (evO C lo env) fun l => bnd (evO C hi env) fun u => look fun h => slV h x l u := nr rfl
theorem ev_bi {b : Bi} {es : List E} : ev C (.bi b es) env = bnd (evs C es env) fun vs => look fun h => biV h b vs := nr rfl
theorem ev_isi {a : E} {ts : List String} {t : Bool} : ev C (.isi a ts t) env = bnd (ev C a env) fun x => bnd (look fun h => isiV h x ts) fun r => ret (rD (.bool r)) := nr rfl
theorem ev_lr {tup : Bool} {e : E} : ev C (.listRange tup e) env = bnd (ev C e env) fun x => bnd (lift (toInt x)) fun n => bnd (chk (decide (-16777216 ≤ n ∧ n ≤ 16777216))) fun _ =>
      ret (if tup then rD (.tuple ((List.range n.toNat).map fun (i : Nat) => .int i)) else .fresh (rangeL 0 n.toNat)) := nr rfl
theorem ev_call {f : Str} {p : Bool} {order : List Nat} {es : List E} : ev C (.call f p order es) env = bnd (evs C es env) fun xs => bnd (lift (hvs? xs)) fun vs => bnd (lift (permute order vs)) fun args => runCall C f p args := nr rfl
theorem ev_mth {m : Mt} {o : E} {es : List E} : ev C (.mth m o es) env = bnd (ev C o env) fun x => bnd (evs C es env) fun vs => mtV m x vs := nr rfl
theorem evs_nil : evs C [] env = ret [] := nr rfl
theorem evs_cons {e : E} {es : List E} : evs C (e :: es) env = bnd (ev C e env) fun x => bnd (evs C es env) fun xs => ret (x :: xs) := nr rfl
theorem evO_none : evO C none env = ret none := nr rfl
theorem evO_some {e : E} : evO C (some e) env = bnd (ev C e env) fun x => bnd (lift (toInt x)) fun i => ret (some i) := nr rfl
theorem evT_none : evO' C none env = ret true := nr rfl
theorem evT_some {e : E} : evO' C (some e) env = bnd (ev C e env) fun x => lift (toBool x) := nr rfl
theorem evI_seq {e : E} : evI C (.seq e) env = bnd (ev C e env) fun x => look fun h => itsOf h x := nr rfl
theorem evI_r1 {a : E} : evI C (.range1 a) env = bnd (ev C a env) fun x => bnd (lift (toInt x)) fun n => bnd (chk (decide (-(2 ^ 62) ≤ n ∧ n < 2 ^ 62))) fun _ => ret (.seq (rangeL 0 n.toNat)) := nr rfl
theorem evI_enum {e : E} : evI C (.enum e) env = bnd (ev C e env) fun x => bnd (look fun h => seqData h x) fun ds => ret (.seq (enumL 0 ds)) := nr rfl
theorem evI_zip {a b : E} : evI C (.zip a b) env = bnd (ev C a env) fun x => bnd (ev C b env) fun y => bnd (look fun h => seqData h x) fun ds => bnd (look fun h => seqData h y) fun es => ret (.seq (zipL ds es)) := nr rfl
theorem exs_nil : exs C [] env = ret (.nx, env) := nr rfl
theorem exs_cons {s : S} {r : List S} : exs C (s :: r) env = bnd (ex C s env) fun p => match p.1 with
    | .nx => exs C r p.2
    | .rt v => ret (.rt v, p.2)
    | .bk => ret (.bk, p.2)
    | .ct => ret (.ct, p.2) := nr rfl
theorem ex_asg {t : At} {e : E} : ex C (.asg t e) env = bnd (ev C e env) fun x => bnd (lift (hvOf x)) fun v => bnd (storeTop C t v env) fun env1 => ret (.nx, env1) := nr rfl
theorem ex_par {sw : Bool} {ts : List At} {es : List E} : ex C (.par sw ts es) env = bnd (evs C es env) fun xs => bnd (lift (hvs? xs)) fun vs => bnd (chk (lenOk vs.length && decide (vs.length = ts.length))) fun _ => bnd (if sw then storeAts C ts.reverse vs.reverse env else storeAts C ts vs env) fun env1 => ret (.nx, env1) := nr rfl
theorem ex_expr {e : E} : ex C (.expr e) env = bnd (ev C e env) fun _ => ret (.nx, env) := nr rfl
theorem ex_ret {e : E} : ex C (.ret e) env = bnd (ev C e env) fun x => ret (.rt x, env) := nr rfl
theorem ex_ite {c : E} {a b : List S} : ex C (.ite c a b) env = bnd (ev C c env) fun x => bnd (lift (toBool x)) fun r => if r then exs C a env else exs C b env := nr rfl
theorem ex_for {t : Tg} {it : I} {b : List S} : ex C (.for_ t it b) env = bnd (evI C it env) fun its => forV (fun x env => bnd (lift (store t x env)) fun env1 => exs C b env1) its env := nr rfl
/-- the turn of a comprehension -/
abbrev turnOf (C : CallT) (elt : E) (tg : Tg) (test : Option E) (own : List Nat) (env : Env) (x : HV) : M (Option HV) := bnd (lift (store tg x (wipe env own))) fun env1 => bnd (evO' C test env1) fun b =>
      if b then bnd (ev C elt env1) fun y => bnd (lift (hvOf y)) fun v => ret (some v) else ret none
theorem lenOk_of {n : Nat} (h : n ≤ 16777216) : lenOk n = true := Nat.ble_eq_true_of_le h
theorem ev_comp {δ : Type} {elt : E} {tg : Tg} {it : I} {test : Option E} {own : List Nat} (xs : List δ) (f g : δ → HV) (p : δ → Bool) (hI : evI C it env = ret (.seq (xs.map f))) (hT : ∀ x ∈ xs, turnOf C elt tg test own env (f x) = ret (if p x then some (g x) else none))
    (hl : xs.length ≤ 16777216) : ev C (.comp elt tg it test own) env = ret (.fresh ((xs.filter p).map g)) := by
  show bnd (evI C it env) (fun its => bnd (compV (turnOf C elt tg test own env) its) fun ys => bnd (chk (lenOk ys.length)) fun _ => ret (RV.fresh ys)) = _
  rw [hI, bnd_ret]
  show bnd (compSeq (turnOf C elt tg test own env) (xs.map f)) _ = _
  rw [comp_filter hT, bnd_ret, List.length_map, lenOk_of (Nat.le_trans (List.length_filter_le ..) hl)]
  rfl
theorem ev_compM {δ : Type} {elt : E} {tg : Tg} {it : I} {test : Option E} {own : List Nat} (xs : List δ) (f g : δ → HV) (hI : evI C it env = ret (.seq (xs.map f))) (hT : ∀ x ∈ xs, turnOf C elt tg test own env (f x) = ret (some (g x)))
    (hl : xs.length ≤ 16777216) : ev C (.comp elt tg it test own) env = ret (.fresh (xs.map g)) := by
  have h := ev_comp (C := C) (env := env) (elt := elt) (tg := tg) (it := it) (test := test) (own := own) xs f g (fun _ => true) hI (fun x hx => hT x hx) hl
  rw [List.filter_eq_self.mpr (fun _ _ => rfl)] at h
  exact h
end
/-! ### small readings -/
theorem tB (b : Bool) : toBool (rD (.bool b)) = some b := nr rfl
theorem tI (i : Int) : toInt (rD (.int i)) = some i := nr rfl
theorem hO (x : HV) : hvOf (.hv x) = some x := nr rfl
theorem frz_d (x : PyData) : frzV (rD x) = ret (rD x) := nr rfl
theorem frz_f (ds : List PyData) : frzV (.fresh (ds.map .d)) = ret (rD (.list ds)) := by
  funext h
  simp only [frzV, allData_map]
  rfl
theorem its_list (ds : List PyData) (h : Hp) : itsOf h (rD (.list ds)) = some (.seq (ds.map .d)) := nr rfl
theorem its_tup (ds : List PyData) (h : Hp) : itsOf h (rD (.tuple ds)) = some (.seq (ds.map .d)) := nr rfl
theorem its_fresh (xs : List HV) (h : Hp) : itsOf h (.fresh xs) = some (.seq xs) := nr rfl
theorem store_name {i : Nat} {v : HV} {env : Env} : store (.name i) v env = setAt env i v := nr rfl
theorem len_fresh (xs : List HV) (h : Hp) : biV h .len [.fresh xs] = some (rD (.int xs.length)) := nr rfl
theorem len_tup (ds : List PyData) (h : Hp) : biV h .len [rD (.tuple ds)] = some (rD (.int ds.length)) := by
  simp only [biV, getAny, getSeq, List.length_map]
theorem len_list (ds : List PyData) (h : Hp) : biV h .len [rD (.list ds)] = some (rD (.int ds.length)) := by
  simp only [biV, getAny, getSeq, getLst, List.length_map]
theorem all_fresh (bs : List Bool) (h : Hp) : biV h .all [.fresh ((bs.map PyData.bool).map .d)] = some (rD (.bool (bs.all id))) := by
  simp only [biV, getLst, bools_map]
theorem tuple_fresh (ds : List PyData) (h : Hp) : biV h .tuple [.fresh (ds.map .d)] = some (rD (.tuple ds)) := by
  simp only [biV, getSeq, getLst, allData_map]
theorem bin_addI (a b : Int) (h : Hp) : binV h .add (rD (.int a)) (rD (.int b)) = some (rD (.int (a + b))) := nr rfl
theorem bin_subI (a b : Int) (h : Hp) : binV h .sub (rD (.int a)) (rD (.int b)) = some (rD (.int (a - b))) := nr rfl
theorem max2_run (a b : Int) (h : Hp) : biV h .max2 [rD (.int a), rD (.int b)] = some (rD (.int (if b > a then b else a))) := nr rfl
theorem min2_run (a b : Int) (h : Hp) : biV h .min2 [rD (.int a), rD (.int b)] = some (rD (.int (if b < a then b else a))) := nr rfl
theorem ix_list {ds : List PyData} {i : Int} {d : PyData} (h0 : 0 ≤ i) (h : ds[i.toNat]? = some d) (hp : Hp) : ixV hp (rD (.list ds)) i = some (rD d) := by
  have hi := (List.getElem?_eq_some_iff.mp h).1
  simp only [ixV, getAny, getSeq, getLst, place, List.length_map, h0, if_true, show i < (ds.length : Int) by omega, List.getElem?_map, h]
  rfl
theorem ix_tup {ds : List PyData} {i : Int} {d : PyData} (h0 : 0 ≤ i) (h : ds[i.toNat]? = some d) (hp : Hp) : ixV hp (rD (.tuple ds)) i = some (rD d) := by
  have hi := (List.getElem?_eq_some_iff.mp h).1
  simp only [ixV, getAny, getSeq, getLst, place, List.length_map, h0, if_true, show i < (ds.length : Int) by omega, List.getElem?_map, h]
  rfl
end Ev

set_option linter.all false
set_option Elab.async false
set_option maxRecDepth 100000
set_option maxHeartbeats 4000000
/-! Rep: what can be shown. -/
namespace Ev
open PySem
/-- data of depth at most k whose text has at most w signs -/
structure Sh (d : PyData) (k w : Nat) : Prop where
  dp : d.depth ≤ k
  nd : d.hasDict = false
  sb : d.showable = true
  ln : d.shown.length ≤ w
  so : PyData.strOk d.shown = true
theorem so_append {a b : Str} (ha : PyData.strOk a = true) (hb : PyData.strOk b = true) : PyData.strOk (a ++ b) = true := by
  unfold PyData.strOk at *
  rw [show (a ++ b).cps = a.cps ++ b.cps from rfl, Array.all_append, ha, hb]
  rfl
theorem so_string (s : String) : PyData.strOk (Str.ofString s) = true := by
  unfold PyData.strOk
  rw [Str.ofString_eq_toList]
  simp only [List.all_toArray, List.all_map, List.all_eq_true, Function.comp, decide_eq_true_eq]
  intro c _
  have := c.valid
  have h2 : c.toNat < 0x110000 := by
    rcases this with h | ⟨_, h⟩
    · exact Nat.lt_trans h (by decide)
    · exact h
  exact h2
theorem so_join {sep : Str} (hs : PyData.strOk sep = true) : ∀ {ts : List Str}, (∀ t ∈ ts, PyData.strOk t = true) → PyData.strOk (Str.join sep ts) = true
  | [], _ => so_string ""
  | [x], h => h x List.mem_cons_self
  | x :: y :: r, h => so_append (so_append (h x List.mem_cons_self) hs) (so_join hs (ts := y :: r) fun t ht => h t (List.mem_cons_of_mem _ ht))
theorem so_textFrom : ∀ (ts : List Str) (k : Nat) (acc : Str), PyData.strOk acc = true → (∀ t ∈ ts, PyData.strOk t = true) → PyData.strOk (textFrom k acc ts) = true
  | [], _, _, ha, _ => ha
  | t :: ts, k, acc, ha, h => so_textFrom ts (k + 1) _ (so_append (so_append ha (so_string _)) (h t List.mem_cons_self)) fun u hu => h u (List.mem_cons_of_mem _ hu)
theorem so_list {ts : List Str} (h : ∀ t ∈ ts, PyData.strOk t = true) : PyData.strOk (listText ts) = true := so_append (so_textFrom ts 0 _ (so_string _) h) (so_string _)
theorem so_tuple {ts : List Str} (h : ∀ t ∈ ts, PyData.strOk t = true) : PyData.strOk (tupleText ts) = true := so_append (so_append (so_string _) (so_join (so_string _) h)) (so_string _)
theorem mem_shownAll {t : Str} : ∀ {xs : List PyData}, t ∈ PyData.shownAll xs → ∃ x ∈ xs, t = x.shown
  | [], h => by
    simp [PyData.shownAll] at h
  | x :: xs, h => by
    simp only [PyData.shownAll] at h
    rcases List.mem_cons.mp h with h | h
    · exact ⟨x, List.mem_cons_self, h⟩
    · obtain ⟨y, hy, e⟩ := mem_shownAll h
      exact ⟨y, List.mem_cons_of_mem _ hy, e⟩
theorem Sh.ok {d : PyData} {k w : Nat} (h : Sh d k w) (hk : k ≤ 64) (hw : w ≤ 16777216) : showOk d = true := by
  unfold showOk
  rw [decide_eq_true (Nat.le_trans h.dp hk), h.nd, h.sb]
  exact Nat.ble_eq_true_of_le (Nat.le_trans h.ln hw)
theorem Sh.mono {d : PyData} {k w k' w' : Nat} (h : Sh d k w) (hk : k ≤ k') (hw : w ≤ w') : Sh d k' w' := ⟨Nat.le_trans h.dp hk, h.nd, h.sb, Nat.le_trans h.ln hw, h.so⟩
theorem Sh.none : Sh .none 0 4 := ⟨by simp [PyData.depth], by simp [PyData.hasDict], by simp [PyData.showable], by simp only [PyData.shown]; decide, by simp only [PyData.shown]; exact so_string _⟩
theorem Sh.bool (b : Bool) : Sh (.bool b) 0 5 := ⟨by simp [PyData.depth], by simp [PyData.hasDict], by simp [PyData.showable], by simp only [PyData.shown]; cases b <;> decide, by simp only [PyData.shown]; cases b <;> exact so_string _⟩
theorem Sh.int {i : Int} (h : i.natAbs < 2 ^ 1000) : Sh (.int i) 0 1921 := by
  have hl : i.natAbs.log2 < 1920 := by
    by_cases z : i.natAbs = 0
    · rw [z]; decide
    · have := (Nat.log2_lt z).mpr h
      omega
  refine ⟨by simp [PyData.depth], by simp [PyData.hasDict], by simp only [PyData.showable]; exact decide_eq_true hl, ?_, by simp only [PyData.shown]; exact so_string _⟩
  simp only [PyData.shown]
  show (Str.ofString (toString i)).length ≤ 1921
  rw [ofString_length]
  exact int_text_length_le (k := 1920) (by decide) hl
theorem depthAll_le {k : Nat} : ∀ {xs : List PyData}, (∀ x ∈ xs, x.depth ≤ k) → PyData.depthAll xs ≤ k
  | [], _ => by simp [PyData.depthAll]
  | x :: xs, h => by
    simp only [PyData.depthAll]
    exact Nat.max_le.mpr ⟨h x List.mem_cons_self, depthAll_le fun y hy => h y (List.mem_cons_of_mem _ hy)⟩
theorem hasDictAll_of : ∀ {xs : List PyData}, (∀ x ∈ xs, x.hasDict = false) → PyData.hasDictAll xs = false
  | [], _ => by simp [PyData.hasDictAll]
  | x :: xs, h => by
    simp only [PyData.hasDictAll, h x List.mem_cons_self, hasDictAll_of fun y hy => h y (List.mem_cons_of_mem _ hy), Bool.or_self]
theorem showableAll_of : ∀ {xs : List PyData}, (∀ x ∈ xs, x.showable = true) → PyData.showableAll xs = true
  | [], _ => by simp [PyData.showableAll]
  | x :: xs, h => by
    simp only [PyData.showableAll, h x List.mem_cons_self, showableAll_of fun y hy => h y (List.mem_cons_of_mem _ hy), Bool.and_self]
theorem shownAll_sum {w : Nat} : ∀ {xs : List PyData}, (∀ x ∈ xs, x.shown.length ≤ w) → ((PyData.shownAll xs).map (·.length)).sum + 2 * (PyData.shownAll xs).length + 3 ≤ xs.length * (w + 2) + 3
  | [], _ => by simp [PyData.shownAll]
  | x :: xs, h => by
    have h1 := h x List.mem_cons_self
    have h2 := shownAll_sum fun y hy => h y (List.mem_cons_of_mem _ hy)
    simp only [PyData.shownAll, List.map_cons, List.sum_cons, List.length_cons, Nat.add_mul, Nat.one_mul]
    omega
theorem Sh.list {xs : List PyData} {k w : Nat} (h : ∀ x ∈ xs, Sh x k w) : Sh (.list xs) (k + 1) (xs.length * (w + 2) + 3) := by
  refine ⟨?_, ?_, ?_, ?_, ?_⟩
  · simp only [PyData.depth]
    exact Nat.add_le_add_right (depthAll_le fun x hx => (h x hx).dp) 1
  · simp only [PyData.hasDict]
    exact hasDictAll_of fun x hx => (h x hx).nd
  · simp only [PyData.showable]
    exact showableAll_of fun x hx => (h x hx).sb
  · simp only [PyData.shown]
    exact Nat.le_trans (listText_len_le _) (shownAll_sum fun x hx => (h x hx).ln)
  · simp only [PyData.shown]
    exact so_list fun t ht => by
      obtain ⟨x, hx, rfl⟩ := mem_shownAll ht
      exact (h x hx).so
theorem Sh.tuple {xs : List PyData} {k w : Nat} (h : ∀ x ∈ xs, Sh x k w) : Sh (.tuple xs) (k + 1) (xs.length * (w + 2) + 3) := by
  refine ⟨?_, ?_, ?_, ?_, ?_⟩
  · simp only [PyData.depth]
    exact Nat.add_le_add_right (depthAll_le fun x hx => (h x hx).dp) 1
  · simp only [PyData.hasDict]
    exact hasDictAll_of fun x hx => (h x hx).nd
  · simp only [PyData.showable]
    exact showableAll_of fun x hx => (h x hx).sb
  · simp only [PyData.shown]
    exact Nat.le_trans (tupleText_len_le _) (shownAll_sum fun x hx => (h x hx).ln)
  · simp only [PyData.shown]
    exact so_tuple fun t ht => by
      obtain ⟨x, hx, rfl⟩ := mem_shownAll ht
      exact (h x hx).so
theorem repr_d {h : Hp} {d : PyData} (s : showOk d = true) : biV h .repr [rD d] = some (rD (.str d.shown)) := by
  simp only [biV, getDat, s, if_true]
theorem repr_f {δ : Type} {h : Hp} {xs : List δ} {g : δ → PyData} (s : showOk (.list (xs.map g)) = true) : biV h .repr [.fresh (xs.map fun x => .d (g x))] = some (rD (.str (PyData.list (xs.map g)).shown)) := by
  have e : allData (xs.map fun x => HV.d (g x)) = some (xs.map g) := by
    induction xs with
    | nil => rfl
    | cons x xs ih =>
      have : ∀ ys : List δ, allData (ys.map fun x => HV.d (g x)) = some (ys.map g) := fun ys => by
        induction ys with
        | nil => rfl
        | cons y ys ih => simp only [List.map_cons, allData, ih]
      exact this _
  simp only [biV, getDat, e, s, if_true]
theorem repr_2 {h : Hp} {a b : PyData} (s : showOk (.list [a, b]) = true) : biV h .repr [.fresh [.d a, .d b]] = some (rD (.str (PyData.list [a, b]).shown)) := repr_f (xs := [a, b]) (g := id) s
theorem shaped_str {a : Str} (h : PyData.strOk a = true) : SeqAt.shaped (.str a) = true := by
  unfold SeqAt.shaped
  simp [PyData.canLay0, PyData.depth, h]
theorem ne_str {h : Hp} {a b : Str} (ha : PyData.strOk a = true) (hb : PyData.strOk b = true) : cmpV h .ne (rD (.str a)) (rD (.str b)) = some (a != b) := by
  have e3 : PyData.eqv (.str a) (.str b) = (a == b) := by
    simp [PyData.eqv]
  simp only [cmpV, getDat, shaped_str ha, shaped_str hb, e3, Bool.and_self, if_true]
  rfl
theorem eq_str {h : Hp} {a b : Str} (ha : PyData.strOk a = true) (hb : PyData.strOk b = true) : cmpV h .eq (rD (.str a)) (rD (.str b)) = some (a == b) := by
  have e3 : PyData.eqv (.str a) (.str b) = (a == b) := by
    simp [PyData.eqv]
  simp only [cmpV, getDat, shaped_str ha, shaped_str hb, e3, Bool.and_self, if_true]
theorem ne_same {h : Hp} {a : Str} (ha : PyData.strOk a = true) : cmpV h .ne (rD (.str a)) (rD (.str a)) = some false := by
  rw [ne_str ha ha, bne_self_eq_false]
theorem eq_same {h : Hp} {a : Str} (ha : PyData.strOk a = true) : cmpV h .eq (rD (.str a)) (rD (.str a)) = some true := by
  rw [eq_str ha ha, beq_self_eq_true]
end Ev

set_option linter.all false
set_option Elab.async false
set_option maxRecDepth 100000
set_option maxHeartbeats 4000000
/-! G1: what every law's run uses. -/
namespace Lw
open PySem Ev
abbrev I (i : Int) : HV := .d (.int i)
abbrev T (v : List Int) : PyData := .tuple (v.map .int)
section
variable {P : List Fn}
theorem call_ret {x : Str} {f : Fn} {n : Nat} {args : List HV} {v : RV} (h : lookF x P = some f) (hl : (args.length == f.np) = true)
    (e : ∃ env, exs (callN P n) f.body (args.map some ++ List.replicate (f.ns - f.np) none) = Ev.ret (Fl.rt v, env)) : callN P (n + 1) x args = Ev.ret v := by
  obtain ⟨env, e⟩ := e
  funext hp
  simp only [callN, h, runFn, hl, if_true, e]
  rfl
theorem call_none {x : Str} {f : Fn} {n : Nat} {args : List HV} (h : lookF x P = some f) (hl : (args.length == f.np) = true)
    (e : ∃ env, exs (callN P n) f.body (args.map some ++ List.replicate (f.ns - f.np) none) = Ev.ret (Fl.nx, env)) : callN P (n + 1) x args = Ev.ret (rD .none) := by
  obtain ⟨env, e⟩ := e
  funext hp
  simp only [callN, h, runFn, hl, if_true, e]
  rfl
theorem pc {x : Str} {n : Nat} {args : List HV} {v : RV} (e : callN P n x args = Ev.ret v) (hn : noRef args = true) (ho : outOk v = true) : runCall (callN P n) x true args = Ev.ret v := runCall_ret hn e ho
theorem call_at {x : Str} {f : Fn} {n : Nat} {args : List HV} {v : RV} {h h1 : Hp} {env : Ev.Env} (hl : lookF x P = some f) (hnp : (args.length == f.np) = true) (e : exs (callN P n) f.body (args.map some ++ List.replicate (f.ns - f.np) none) h = some ((.rt v, env), h1)) : callN P (n + 1) x args h = some (v, h1) := by
  show (match lookF x P with
    | some f => runFn (callN P n) f args
    | none => fun _ => none) h = _
  rw [hl]
  dsimp only
  unfold runFn
  rw [if_pos hnp, e]
end
theorem runCall_f (C : CallT) (f : Str) (args : List HV) : runCall C f false args = C f args := by
  funext h
  unfold runCall
  rw [if_neg Bool.false_ne_true]
theorem cmp_in {a : Int} {v : List Int} {h : Hp} : cmpV h .in_ (rD (.int a)) (rD (T v)) = some (decide (a ∈ v)) := by
  simp only [cmpV, getDat, getSeq, allData_map, shaped_int, shaped_ints, Bool.and_self, if_true, inB_ints]
theorem cmp_notIn {a : Int} {v : List Int} {h : Hp} : cmpV h .notIn (rD (.int a)) (rD (T v)) = some (!decide (a ∈ v)) := by
  simp only [cmpV, getDat, getSeq, allData_map, shaped_int, shaped_ints, Bool.and_self, if_true, inB_ints]
theorem cmp_lt {a b : Int} {h : Hp} : cmpV h .lt (rD (.int a)) (rD (.int b)) = some (decide (a < b)) := nr rfl
theorem cmp_le {a b : Int} {h : Hp} : cmpV h .le (rD (.int a)) (rD (.int b)) = some (decide (a ≤ b)) := nr rfl
theorem cmp_gt {a b : Int} {h : Hp} : cmpV h .gt (rD (.int a)) (rD (.int b)) = some (decide (b < a)) := nr rfl
theorem cmp_ge {a b : Int} {h : Hp} : cmpV h .ge (rD (.int a)) (rD (.int b)) = some (decide (b ≤ a)) := nr rfl
theorem cmp_eqI {a b : Int} {h : Hp} : cmpV h .eq (rD (.int a)) (rD (.int b)) = some (decide (a = b)) := by
  simp only [cmpV, getDat, shaped_int, Bool.and_self, if_true, eqv_int]
theorem cmp_neI {a b : Int} {h : Hp} : cmpV h .ne (rD (.int a)) (rD (.int b)) = some (!decide (a = b)) := by
  simp only [cmpV, getDat, shaped_int, Bool.and_self, if_true, eqv_int]
theorem mt_index' {a : Int} {v : List Int} (h : a ∈ v) : mtV .index (rD (T v)) [rD (.int a)] = Ev.ret (rD (.int (v.idxOf a : Nat))) := by
  funext hp
  simp only [mtV, getSeq, ints_map, h, if_true]
  rfl
theorem all_run {δ : Type} (xs : List δ) (q : δ → Bool) (h : Hp) : biV h .all [.fresh (xs.map fun x => .d (.bool (q x)))] = some (rD (.bool (xs.all q))) := by
  have e : (xs.map fun x => HV.d (.bool (q x))) = ((xs.map q).map PyData.bool).map .d := by simp [List.map_map]
  rw [e, all_fresh, List.all_map]
  rfl
theorem frz_run {δ : Type} (xs : List δ) (g : δ → PyData) : frzV (.fresh (xs.map fun x => .d (g x))) = Ev.ret (rD (.list (xs.map g))) := by
  have e : (xs.map fun x => HV.d (g x)) = (xs.map g).map .d := by simp [List.map_map]
  rw [e, frz_f]
theorem its_run {δ : Type} (xs : List δ) (g : δ → PyData) (h : Hp) : itsOf h (rD (.list (xs.map g))) = some (.seq (xs.map fun x => .d (g x))) := by
  rw [its_list, List.map_map]
  rfl
theorem itsT_run {δ : Type} (xs : List δ) (g : δ → PyData) (h : Hp) : itsOf h (rD (.tuple (xs.map g))) = some (.seq (xs.map fun x => .d (g x))) := by
  rw [its_tup, List.map_map]
  rfl
theorem tup_run {δ : Type} (xs : List δ) (g : δ → PyData) (h : Hp) : biV h .tuple [.fresh (xs.map fun x => .d (g x))] = some (rD (.tuple (xs.map g))) := by
  have e : (xs.map fun x => HV.d (g x)) = (xs.map g).map .d := by simp [List.map_map]
  rw [e, tuple_fresh]
theorem range_run (n : Nat) : rangeL 0 n = (List.range n).map fun i => I (i : Nat) := by
  unfold rangeL
  congr 1
  funext i
  rw [Int.zero_add]
theorem evI_rn {C : CallT} {env : Ev.Env} {a : E} {n : Nat} (h : ev C a env = Ev.ret (rD (.int n))) (hn : n ≤ 1000) : evI C (.range1 a) env = Ev.ret (.seq ((List.range n).map fun i => I (i : Nat))) := by
  rw [evI_r1, h, bnd_ret, tI, lift_some', bnd_ret, show decide (-(2 ^ 62) ≤ (n : Int) ∧ (n : Int) < 2 ^ 62) = true by rw [decide_eq_true_eq]; omega, chk_true, bnd_ret, Int.toNat_natCast, range_run]
def mxo (xs : List Int) : Int := (maxI xs).getD 0
def mno (xs : List Int) : Int := (minI xs).getD 0
theorem maxI_some : ∀ {xs : List Int}, xs ≠ [] → maxI xs = some (mxo xs)
  | x :: r, _ => by
    unfold mxo maxI
    cases maxI r <;> rfl
theorem minI_some : ∀ {xs : List Int}, xs ≠ [] → minI xs = some (mno xs)
  | x :: r, _ => by
    unfold mno minI
    cases minI r <;> rfl
theorem mxo_ge {t : Int} : ∀ {xs : List Int}, xs ≠ [] → (t ≤ mxo xs ↔ ∃ x ∈ xs, t ≤ x)
  | [], h => absurd rfl h
  | x :: r, _ => by
    by_cases hr : r = []
    · subst hr
      simp [mxo, maxI]
    · have ih := mxo_ge (t := t) hr
      have e : mxo (x :: r) = if mxo r ≤ x then x else mxo r := by
        show (maxI (x :: r)).getD 0 = _
        unfold maxI
        rw [maxI_some hr]
        rfl
      rw [e]
      simp only [List.mem_cons, exists_eq_or_imp]
      rw [← ih]
      split <;> omega
theorem mno_ge {t : Int} : ∀ {xs : List Int}, xs ≠ [] → (t ≤ mno xs ↔ ∀ x ∈ xs, t ≤ x)
  | [], h => absurd rfl h
  | x :: r, _ => by
    by_cases hr : r = []
    · subst hr
      simp [mno, minI]
    · have ih := mno_ge (t := t) hr
      have e : mno (x :: r) = if x ≤ mno r then x else mno r := by
        show (minI (x :: r)).getD 0 = _
        unfold minI
        rw [minI_some hr]
        rfl
      rw [e]
      simp only [List.mem_cons, forall_eq_or_imp]
      rw [← ih]
      split <;> omega
theorem mno_mem : ∀ {xs : List Int}, xs ≠ [] → mno xs ∈ xs
  | [], h => absurd rfl h
  | x :: r, _ => by
    by_cases hr : r = []
    · subst hr
      simp [mno, minI]
    · have ih := mno_mem hr
      have e : mno (x :: r) = if x ≤ mno r then x else mno r := by
        show (minI (x :: r)).getD 0 = _
        unfold minI
        rw [minI_some hr]
        rfl
      rw [e]
      split
      · simp
      · exact List.mem_cons_of_mem _ ih
theorem ints_run {δ : Type} (g : δ → Int) : ∀ xs : List δ, ints? (xs.map fun x => .d (.int (g x))) = some (xs.map g)
  | [] => rfl
  | x :: r => by simp only [List.map_cons, ints?, ints_run g r]
theorem max1_run {δ : Type} (xs : List δ) (g : δ → Int) (h : Hp) (hx : xs ≠ []) : biV h .max1 [.fresh (xs.map fun x => .d (.int (g x)))] = some (rD (.int (mxo (xs.map g)))) := by
  simp only [biV, getLst, ints_run, maxI_some (show xs.map g ≠ [] by simpa using hx)]
theorem min1_run {δ : Type} (xs : List δ) (g : δ → Int) (h : Hp) (hx : xs ≠ []) : biV h .min1 [.fresh (xs.map fun x => .d (.int (g x)))] = some (rD (.int (mno (xs.map g)))) := by
  simp only [biV, getLst, ints_run, minI_some (show xs.map g ≠ [] by simpa using hx)]
theorem outOk_map {δ : Type} (xs : List δ) (g : δ → PyData) : outOk (.fresh (xs.map fun x => .d (g x))) = true := by
  have := outOk_data (xs.map g)
  rw [List.map_map] at this
  exact this
theorem slF_run {δ : Type} (xs : List δ) (g : δ → HV) (h : Hp) : slV h (.fresh (xs.map g)) (some 1) none = some (.fresh ((xs.drop 1).map g)) := by
  simp only [slV, getAnyL, getLst, cutL, sIx, List.length_map, List.map_drop]
  by_cases hx : xs.length = 0
  · rw [List.length_eq_zero_iff.mp hx]
    rfl
  · rw [show min (1 : Int).toNat xs.length = 1 by simp; omega, if_neg (by decide), List.take_of_length_le (by simp)]
theorem ixF0 {δ : Type} (xs : List δ) (g : δ → HV) (h : Hp) {x : δ} (hx : xs[0]? = some x) : ixV h (.fresh (xs.map g)) 0 = some (.hv (g x)) := by
  cases xs with
  | nil => cases hx
  | cons y r =>
    cases hx
    simp only [ixV, getAny, getSeq, getLst, List.map_cons, List.length_cons, place, List.getElem?_cons_zero]
    rw [if_pos (by decide), if_pos (by omega)]
    rfl
theorem lk1 : lenOk 1 = true := rfl
theorem lk2 : lenOk 2 = true := rfl
theorem lk3 : lenOk 3 = true := rfl
theorem bin_addL (d : PyData) (h : Hp) (xs : List HV) (hx : xs.length ≤ 100) : binV h .add (.fresh [.d d]) (.fresh xs) = some (.fresh (.d d :: xs)) := by
  have e : lenOk (1 + xs.length) = true := lenOk_of (by omega)
  have e2 : binLL .add [HV.d d] xs = some (.fresh ([HV.d d] ++ xs)) := by
    unfold binLL
    rw [if_pos ⟨rfl, e⟩]
  exact e2
theorem nodup_lt : ∀ (m : Nat) (l : List Nat), l.Nodup → (∀ x ∈ l, x < m) → l.length ≤ m
  | 0, l, _, h => by
    cases l with
    | nil => exact Nat.le_refl _
    | cons x r => exact absurd (h x List.mem_cons_self) (by omega)
  | m + 1, l, hn, h => by
    have e : ∀ x ∈ l.erase m, x < m := fun x hx => by
      have := (hn.mem_erase_iff).mp hx
      have := h x this.2
      omega
    have ih := nodup_lt m (l.erase m) (hn.erase m) e
    by_cases hm : m ∈ l
    · rw [List.length_erase_of_mem hm] at ih
      omega
    · rw [List.erase_of_not_mem hm] at ih
      omega
theorem nodup_len {m : Nat} {v : List Int} (h : v.Nodup) (r : ∀ a ∈ v, 0 ≤ a ∧ a < (m : Int)) : v.length ≤ m := by
  have h1 : (v.map Int.toNat).Nodup := by
    unfold List.Nodup at h ⊢
    rw [List.pairwise_map]
    refine List.Pairwise.imp_of_mem (fun {a b} ha hb hab => ?_) h
    have := r a ha
    have := r b hb
    omega
  have := nodup_lt m _ h1 fun x hx => by
    obtain ⟨a, ha, e⟩ := List.mem_map.mp hx
    have := r a ha
    omega
  rw [List.length_map] at this
  exact this
theorem nodupI_of : ∀ {v : List Int}, v.Nodup → nodupI v = v
  | [], _ => rfl
  | x :: r, h => by
    obtain ⟨h1, h2⟩ := List.nodup_cons.mp h
    unfold nodupI
    rw [if_neg (by simpa using h1), nodupI_of h2]
theorem lenSet_run (v : List Int) (h : Hp) (hn : v.Nodup) (hl : v.length ≤ 7) : biV h .lenSet [rD (T v)] = some (rD (.int v.length)) := by
  have e : ints? ((v.map PyData.int).map HV.d) = some v := by
    rw [ints_map]
  simp only [biV, getSeq, e, nodupI_of hn]
  rw [if_pos (by unfold Nat.blt; exact Nat.ble_eq_true_of_le (by omega))]
theorem len_T (v : List Int) (h : Hp) : biV h .len [rD (T v)] = some (rD (.int v.length)) := by
  rw [len_tup, List.length_map]
theorem isi_tup (h : Hp) (ds : List PyData) : isiV h (rD (.tuple ds)) ["tuple"] = some true := nr rfl
theorem isi_str (h : Hp) (s : Str) : isiV h (rD (.str s)) ["str"] = some true := nr rfl
theorem alldata_run {δ : Type} (xs : List δ) (q : δ → Bool) (h : Hp) (hq : ∀ x ∈ xs, q x = true) : biV h .all [.fresh (xs.map fun x => .d (.bool (q x)))] = some (rD (.bool true)) := by
  rw [all_run, List.all_eq_true.mpr hq]
theorem seqD_tup {δ : Type} (xs : List δ) (g : δ → PyData) (h : Hp) : seqData h (rD (.tuple (xs.map g))) = some (xs.map g) := by
  simp only [seqData, getSeq, allData_map]
theorem seqD_list {δ : Type} (xs : List δ) (g : δ → PyData) (h : Hp) : seqData h (rD (.list (xs.map g))) = some (xs.map g) := by
  simp only [seqData, getSeq, getLst, allData_map]
theorem enum_map {δ : Type} (g : δ → PyData) : ∀ (xs : List δ) (k : Nat), enumL k (xs.map g) = (xs.zipIdx k).map fun p => .d (.tuple [.int p.2, g p.1])
  | [], _ => rfl
  | x :: r, k => by
    rw [List.map_cons, List.zipIdx_cons, List.map_cons]
    unfold enumL
    rw [enum_map g r (k + 1)]
theorem store2 {i j : Nat} {x y : PyData} {env : Ev.Env} : store (.tup [.name i, .name j]) (.d (.tuple [x, y])) env = match setAt env i (.d x) with
    | some e => setAt e j (.d y)
    | none => none := by
  simp only [store, Ev.storeAll, List.length_cons, List.length_nil, if_true, List.map_cons, List.map_nil]
  cases setAt env i (.d x) with
  | none => rfl
  | some e =>
    dsimp only
    cases setAt e j (.d y) <;> rfl
theorem fresh_map {δ ε : Type} (xs : List δ) (f : δ → ε) (g : ε → HV) : RV.fresh ((xs.map f).map g) = .fresh (xs.map fun x => g (f x)) := by
  rw [List.map_map]
  rfl
theorem its_of_fresh {δ : Type} (xs : List δ) (g : δ → HV) (h : Hp) : itsOf h (.fresh (xs.map g)) = some (.seq (xs.map g)) := nr rfl
theorem forSeq_find {δ : Type} {turn : HV → Ev.Env → M (Fl × Ev.Env)} (R : Ev.Env → Prop) (f : δ → HV) (g : δ → RV) (p : δ → Bool) : ∀ (xs : List δ) (step : ∀ x ∈ xs, ∀ env, R env → ∃ env', R env' ∧ turn (f x) env = Ev.ret (if p x then .rt (g x) else .nx, env')) (env : Ev.Env), R env →
    ∃ env', R env' ∧ forSeq turn (xs.map f) env = Ev.ret (match xs.find? p with
      | some x => .rt (g x)
      | none => .nx, env')
  | [], _, env, hr => ⟨env, hr, rfl⟩
  | x :: r, step, env, hr => by
    obtain ⟨env1, h1, e1⟩ := step x List.mem_cons_self env hr
    rw [List.map_cons]
    unfold forSeq
    rw [e1, bnd_ret]
    cases hp : p x with
    | true =>
      rw [List.find?_cons_of_pos hp]
      exact ⟨env1, h1, rfl⟩
    | false =>
      rw [List.find?_cons_of_neg (by rw [hp]; exact Bool.false_ne_true)]
      exact forSeq_find R f g p r (fun y hy => step y (List.mem_cons_of_mem _ hy)) env1 h1
theorem ex_for_find {β δ : Type} {C : CallT} {t : Tg} {it : Ev.I} {b : List S} {env : Ev.Env} {k : Fl × Ev.Env → M (β × Ev.Env)} {r : β} (R : Ev.Env → Prop) (f : δ → HV) (g : δ → RV) (p : δ → Bool) (xs : List δ) (hI : evI C it env = Ev.ret (.seq (xs.map f))) (h0 : R env)
    (step : ∀ x ∈ xs, ∀ env, R env → ∃ env', R env' ∧ (bnd (lift (store t (f x) env)) fun env1 => exs C b env1) = Ev.ret (if p x then .rt (g x) else .nx, env'))
    (hk : ∀ env', R env' → ∃ env2, k (match xs.find? p with
      | some x => .rt (g x)
      | none => .nx, env') = Ev.ret (r, env2)) : ∃ env2, bnd (ex C (.for_ t it b) env) k = Ev.ret (r, env2) := by
  obtain ⟨env', h1, e⟩ := forSeq_find (turn := fun x env => bnd (lift (store t x env)) fun env1 => exs C b env1) R f g p xs step env h0
  obtain ⟨env2, h2⟩ := hk env' h1
  refine ⟨env2, ?_⟩
  rw [ex_for, hI, bnd_ret]
  show bnd (forSeq _ _ env) k = _
  rw [e, bnd_ret]
  exact h2
theorem shaped_ilist (xs : List Nat) : SeqAt.shaped (.list (xs.map fun i => .int (i : Nat))) = true := by
  have := shaped_ints (xs.map fun i : Nat => (i : Int))
  rw [List.map_map] at this
  exact this
theorem eq_nil_run (xs : List Nat) (h : Hp) : cmpV h .eq (.fresh (xs.map fun i => I (i : Nat))) (.fresh []) = some (xs.isEmpty) := by
  have e : allData (xs.map fun i => I (i : Nat)) = some (xs.map fun i => .int (i : Nat)) := by
    have := allData_map (xs.map fun i : Nat => PyData.int (i : Nat))
    rw [List.map_map] at this
    exact this
  have e2 : SeqAt.shaped (.list []) = true := by rfl
  simp only [cmpV, getDat, e, allData, shaped_ilist, e2, Bool.and_self, if_true]
  cases xs <;> rfl
section
variable {α β δ : Type} {C : CallT} {env : Ev.Env} {h : Hp}
theorem bnd_look (f : Hp → Option α) (k : α → M β) : bnd (look f) k h = match f h with
    | some a => k a h
    | none => none := by
  unfold bnd look
  cases f h <;> rfl
theorem bnd_at {m : M α} {a : α} {h1 : Hp} (k : α → M β) (e : m h = some (a, h1)) : bnd m k h = k a h1 := by
  unfold bnd
  rw [e]
theorem compSeq_at {turn : HV → M (Option HV)} {f g : δ → HV} : ∀ {xs : List δ}, (∀ x ∈ xs, turn (f x) h = some (some (g x), h)) → compSeq turn (xs.map f) h = some (xs.map g, h)
  | [], _ => rfl
  | x :: xs, hT => by
    rw [List.map_cons]
    unfold compSeq
    rw [bnd_at _ (hT x List.mem_cons_self), bnd_at _ (compSeq_at fun y hy => hT y (List.mem_cons_of_mem _ hy))]
    rfl
theorem ev_compM_at {elt : E} {tg : Tg} {it : Ev.I} {test : Option E} {own : List Nat} (xs : List δ) (f g : δ → HV) (hI : evI C it env h = some (.seq (xs.map f), h)) (hT : ∀ x ∈ xs, turnOf C elt tg test own env (f x) h = some (some (g x), h))
    (hl : xs.length ≤ 16777216) : ev C (.comp elt tg it test own) env h = some (.fresh (xs.map g), h) := by
  show bnd (evI C it env) (fun its => bnd (compV (turnOf C elt tg test own env) its) fun ys => bnd (chk (lenOk ys.length)) fun _ => Ev.ret (RV.fresh ys)) h = _
  rw [bnd_at _ hI]
  show bnd (compSeq (turnOf C elt tg test own env) (xs.map f)) _ h = _
  rw [bnd_at _ (compSeq_at hT), List.length_map, lenOk_of hl]
  rfl
theorem forSeq_inv {turn : HV → Ev.Env → M (Fl × Ev.Env)} (f : δ → HV) : ∀ (xs : List δ) (P : Nat → Ev.Env → Hp → Prop) (step : ∀ k x env h, xs[k]? = some x → P k env h → ∃ env' h', turn (f x) env h = some ((.nx, env'), h') ∧ P (k + 1) env' h') (env : Ev.Env) (h : Hp), P 0 env h →
    ∃ env' h', forSeq turn (xs.map f) env h = some ((.nx, env'), h') ∧ P xs.length env' h'
  | [], _, _, env, h, h0 => ⟨env, h, rfl, h0⟩
  | x :: r, P, step, env, h, h0 => by
    obtain ⟨env1, h1, e1, p1⟩ := step 0 x env h rfl h0
    obtain ⟨env2, h2, e2, p2⟩ := forSeq_inv f r (fun k => P (k + 1)) (fun k y env h hk => step (k + 1) y env h (by simpa using hk)) env1 h1 p1
    refine ⟨env2, h2, ?_, p2⟩
    rw [List.map_cons]
    unfold forSeq
    rw [bnd_at _ e1]
    exact e2
theorem ex_for_inv {t : Tg} {it : Ev.I} {b : List S} (f : δ → HV) (xs : List δ) (P : Nat → Ev.Env → Hp → Prop) (hI : evI C it env h = some (.seq (xs.map f), h)) (h0 : P 0 env h)
    (step : ∀ k x env h, xs[k]? = some x → P k env h → ∃ env' h', (bnd (lift (store t (f x) env)) fun env1 => exs C b env1) h = some ((.nx, env'), h') ∧ P (k + 1) env' h') :
    ∃ env' h', ex C (.for_ t it b) env h = some ((.nx, env'), h') ∧ P xs.length env' h' := by
  obtain ⟨env', h', e, p⟩ := forSeq_inv (turn := fun x env => bnd (lift (store t x env)) fun env1 => exs C b env1) f xs P step env h h0
  refine ⟨env', h', ?_, p⟩
  rw [ex_for, bnd_at _ hI]
  exact e
end
theorem set_range {α : Type} (m c : Nat) (g : Nat → α) (v : α) : ((List.range m).map g).set c v = (List.range m).map fun i => if i = c then v else g i := by
  refine List.ext_getElem (by simp) fun i h1 h2 => ?_
  simp only [List.getElem_set, List.getElem_map, List.getElem_range]
  by_cases e : c = i
  · simp [e]
  · rw [if_neg e, if_neg fun z => e z.symm]
theorem zipL_map {δ : Type} (f g : δ → PyData) : ∀ xs : List δ, zipL (xs.map f) (xs.map g) = xs.map fun x => .d (.tuple [f x, g x])
  | [] => rfl
  | x :: r => by simp only [List.map_cons, zipL, zipL_map f g r]
theorem look_at {α : Type} (f : Hp → Option α) (h : Hp) {a : α} (e : f h = some a) : look f h = some (a, h) := by
  unfold look
  rw [e]
theorem allData_map' {δ : Type} (xs : List δ) (g : δ → PyData) : allData (xs.map fun x => .d (g x)) = some (xs.map g) := by
  have := allData_map (xs.map g)
  rw [List.map_map] at this
  exact this
theorem ixFresh {m : Nat} {F : Nat → PyData} {i : Nat} (hi : i < m) (h : Hp) : ixV h (.fresh ((List.range m).map fun i => .d (F i))) (i : Nat) = some (rD (F i)) := by
  simp only [ixV, getAny, getSeq, getLst, List.length_map, List.length_range, place, Int.natCast_nonneg, if_true, List.getElem?_map]
  rw [if_pos (by omega)]
  simp only [Int.toNat_natCast, List.getElem?_range hi, Option.map_some]
theorem lenOk_small {n : Nat} (h : n ≤ 100) : lenOk n = true := lenOk_of (by omega)
abbrev rowD (m : Nat) (F : Nat → Int) : PyData := .list ((List.range m).map fun j => .int (F j))
theorem ixRow {m : Nat} {F : Nat → Int} {j : Nat} (hj : j < m) (h : Hp) : ixV h (rD (rowD m F)) (j : Nat) = some (rD (.int (F j))) :=
  ix_list (Int.natCast_nonneg _) (by rw [Int.toNat_natCast, List.getElem?_map, List.getElem?_range hj]; rfl) h
theorem place_last {α : Type} (A : List α) (z : α) : place (A ++ [z]).length (-1) = some A.length := by
  simp only [List.length_append, List.length_cons, List.length_nil, place]
  rw [if_neg (by omega), if_pos (by omega)]
  congr 1
  omega
theorem addT (a : List Int) (o : Int) (hl : a.length ≤ 90) (h : Hp) : binV h .add (rD (T a)) (rD (.tuple [.int o])) = some (rD (T (a ++ [o]))) := by
  unfold T
  have e : lenOk (a.length + (0 + 1)) = true := lenOk_small (n := a.length + (0 + 1)) (by omega)
  simp only [binV, binTup, List.length_map, List.length_cons, List.length_nil, e, and_self, if_true, List.map_append, List.map_cons, List.map_nil]
theorem forLive_inv {δ : Type} {turn : HV → Ev.Env → M (Fl × Ev.Env)} (f : δ → HV) (n : Nat) (xs : List δ) (P : Nat → Ev.Env → Hp → Prop) (hP : ∀ k env h, P k env h → h[n]? = some (.lst (xs.map f)))
    (step : ∀ k x env h, xs[k]? = some x → P k env h → ∃ env' h', turn (f x) env h = some ((.nx, env'), h') ∧ P (k + 1) env' h') : ∀ (fuel i : Nat) (env : Ev.Env) (h : Hp), i ≤ xs.length → xs.length - i < fuel → P i env h →
    ∃ env' h', forLive turn n fuel i env h = some ((.nx, env'), h') ∧ P xs.length env' h'
  | 0, i, env, h, _, hf, _ => absurd hf (by omega)
  | fuel + 1, i, env, h, hi, hf, p => by
    unfold forLive
    have e := hP i env h p
    rw [e]
    dsimp only
    rw [List.getElem?_map]
    by_cases hlt : i < xs.length
    · rw [List.getElem?_eq_getElem hlt]
      obtain ⟨env1, h1, e1, p1⟩ := step i xs[i] env h (List.getElem?_eq_getElem hlt) p
      obtain ⟨env2, h2, e2, p2⟩ := forLive_inv f n xs P hP step fuel (i + 1) env1 h1 (by omega) (by omega) p1
      refine ⟨env2, h2, ?_, p2⟩
      show bnd (turn (f xs[i]) env) _ h = _
      rw [bnd_at _ e1]
      exact e2
    · have : i = xs.length := by omega
      subst this
      rw [List.getElem?_eq_none (Nat.le_refl _)]
      exact ⟨env, h, rfl, p⟩
def OP (p q : Int) : Ob := .lst [I p, I q]
structure PotAt (h : Hp) (n : Nat) : Prop where
  ex : ∃ p q : Int, h[n]? = some (OP p q) ∧ 0 ≤ p ∧ 0 ≤ q ∧ q < 2 ^ 32
theorem ixP0 {h : Hp} {n : Nat} {p q : Int} (e : h[n]? = some (OP p q)) : ixV h (.hv (.ref n)) 0 = some (rD (.int p)) := by
  unfold OP at e
  simp only [ixV, getAny, getSeq, getLst, e]
  rfl
theorem ixP1 {h : Hp} {n : Nat} {p q : Int} (e : h[n]? = some (OP p q)) : ixV h (.hv (.ref n)) 1 = some (rD (.int q)) := by
  unfold OP at e
  simp only [ixV, getAny, getSeq, getLst, e]
  rfl
theorem setP0 {h : Hp} {n : Nat} {p q : Int} (e : h[n]? = some (OP p q)) (v : Int) : setIx (.hv (.ref n)) 0 (I v) h = some ((), h.set n (OP v q)) := by
  unfold OP at e
  simp only [setIx, e]
  rfl
theorem setP1 {h : Hp} {n : Nat} {p q : Int} (e : h[n]? = some (OP p q)) (v : Int) : setIx (.hv (.ref n)) 1 (I v) h = some ((), h.set n (OP p v)) := by
  unfold OP at e
  simp only [setIx, e]
  rfl
theorem bits_lt {i : Int} {k : Nat} (h0 : 0 ≤ i) (h : i < 2 ^ k) (hk : k ≠ 0) : intBits i < k := by
  unfold intBits
  by_cases hz : i.natAbs = 0
  · rw [hz]
    show 0 < k
    omega
  · rw [Nat.log2_lt hz]
    have : ((i.natAbs : Nat) : Int) < ((2 ^ k : Nat) : Int) := by
      rw [Int.natCast_pow]
      show (i.natAbs : Int) < 2 ^ k
      omega
    omega
theorem bin_mulI (a b : Int) (h : Hp) (ha : intBits a < 1000) (hb : intBits b < 1000) : binV h .mul (rD (.int a)) (rD (.int b)) = some (rD (.int (a * b))) := by
  have e : decide (intBits a + intBits b < 1000000) = true := decide_eq_true (by omega)
  simp only [binV, binInt, e, if_true]
theorem bin_modI (a b : Int) (h : Hp) (hb : 0 < b) : binV h .mod (rD (.int a)) (rD (.int b)) = some (rD (.int (a % b))) := by
  simp only [binV, binInt, decide_eq_true hb, if_true]
theorem bin_divI (a b : Int) (h : Hp) (hb : 0 < b) (hb2 : intBits b < 9000) : binV h .fdiv (rD (.int a)) (rD (.int b)) = some (rD (.int (a / b))) := by
  simp only [binV, binInt, decide_eq_true hb, decide_eq_true hb2, Bool.and_self, if_true]
theorem int_run (a : Int) (h : Hp) : biV h .int [rD (.int a)] = some (rD (.int a)) := nr rfl
theorem divmod_run (a b : Int) (h : Hp) (hb : 0 < b) (hb2 : b < 1073741824) : biV h .divmod [rD (.int a), rD (.int b)] = some (rD (.tuple [.int (a / b), .int (a % b)])) := by
  simp only [biV, decide_eq_true (show 0 < b ∧ b < 1073741824 from ⟨hb, hb2⟩), if_true]
theorem len_scr (ns : List Int) (h : Hp) : biV h .len [.hv (.scr ns)] = some (rD (.int ns.length)) := by
  simp only [biV, getAny, List.length_map]
theorem ix_scr {ns : List Int} {i : Nat} (hi : i < ns.length) (h : Hp) : ixV h (.hv (.scr ns)) (i : Nat) = some (rD (.int ns[i])) := by
  simp only [ixV, getAny, List.length_map, place, Int.natCast_nonneg, if_true, List.getElem?_map]
  rw [if_pos (by omega)]
  simp only [Int.toNat_natCast, List.getElem?_eq_getElem hi, Option.map_some]
theorem sl_scr (ns : List Int) (h : Hp) : slV h (.hv (.scr ns)) none (some 1) = some (.fresh ((ns.take 1).map fun i => .d (.int i))) := by
  simp only [slV, getAnyL, Ev.cutL, sIx, List.drop_zero, List.length_map, Nat.sub_zero]
  cases ns with
  | nil => rfl
  | cons x r =>
    rw [if_neg (by decide), List.length_cons, show min (1 : Int).toNat (r.length + 1) = 1 by simp]
    rfl
theorem sum_run (ns : List Int) (h : Hp) : biV h .sum [.fresh (ns.map fun i => .d (.int i))] = some (rD (.int ns.sum)) := by
  have e : ints? (ns.map fun i => .d (.int i)) = some ns := by
    have := ints_run id ns
    rw [List.map_id] at this
    exact this
  simp only [biV, getSeq, getLst, e]
theorem abs_run (i : Int) (h : Hp) : biV h .abs [rD (.int i)] = some (rD (.int (if i < 0 then -i else i))) := nr rfl
theorem pow_run (h : Hp) : binV h .pow (rD (.int 10)) (rD (.int 18)) = some (rD (.int 1000000000000000000)) := nr rfl
theorem abs_ge (i : Int) : 0 ≤ (if i < 0 then -i else i) := by split <;> omega
theorem len_Li (xs : List Int) (h : Hp) : biV h .len [rD (.list (xs.map .int))] = some (rD (.int xs.length)) := by
  rw [len_list, List.length_map]
def OL (xs : List Int) : Ob := .lst (xs.map fun i => I i)
def OV (vs : List (List Int)) : Ob := .lst (vs.map fun v => .d (T v))
theorem erase_map {α β : Type} (f : α → β) : ∀ (xs : List α) (i : Nat), (xs.map f).eraseIdx i = (xs.eraseIdx i).map f
  | [], _ => rfl
  | _ :: _, 0 => rfl
  | x :: r, i + 1 => by
    rw [List.map_cons, List.eraseIdx_cons_succ, List.eraseIdx_cons_succ, List.map_cons, erase_map f r i]
theorem len_OL {h : Hp} {n : Nat} {xs : List Int} (e : h[n]? = some (OL xs)) : biV h .len [.hv (.ref n)] = some (rD (.int xs.length)) := by
  unfold OL at e
  simp only [biV, getAny, getSeq, getLst, e, List.length_map]
theorem pop_OL {h : Hp} {n : Nat} {xs : List Int} (e : h[n]? = some (OL xs)) {d : Int} (d0 : 0 ≤ d) (d1 : d < xs.length) : mtV .pop1 (.hv (.ref n)) [rD (.int d)] h = some (rD (.int (xs[d.toNat]'(by omega))), h.set n (OL (xs.eraseIdx d.toNat))) := by
  have hd : d.toNat < xs.length := by omega
  unfold OL at e
  unfold mtV
  simp only [e, List.length_map, place, d0, if_true, d1, List.getElem?_map, List.getElem?_eq_getElem hd, Option.map_some]
  unfold OL
  rw [erase_map]
theorem app_OL {h : Hp} {n : Nat} {xs : List Int} (e : h[n]? = some (OL xs)) (a : Int) (hs : xs.length < 1000) : mtV .append (.hv (.ref n)) [rD (.int a)] h = some (rD .none, h.set n (OL (xs ++ [a]))) := by
  unfold OL at e
  unfold mtV
  simp only [e, List.length_map]
  rw [if_pos (by unfold Nat.blt; exact Nat.ble_eq_true_of_le (by omega))]
  unfold OL
  rw [List.map_append]
  rfl
theorem app_OV {h : Hp} {n : Nat} {vs : List (List Int)} (e : h[n]? = some (OV vs)) (a : List Int) (hs : vs.length < 1000) : mtV .append (.hv (.ref n)) [rD (T a)] h = some (rD .none, h.set n (OV (vs ++ [a]))) := by
  unfold OV at e
  unfold mtV
  simp only [e, List.length_map]
  rw [if_pos (by unfold Nat.blt; exact Nat.ble_eq_true_of_le (by omega))]
  unfold OV
  rw [List.map_append]
  rfl
theorem tup_OL {h : Hp} {n : Nat} {xs : List Int} (e : h[n]? = some (OL xs)) : biV h .tuple [.hv (.ref n)] = some (rD (T xs)) := by
  unfold OL at e
  simp only [biV, getSeq, getLst, e, allData_map']
theorem erase_perm {α : Type} : ∀ (xs : List α) (i : Nat) (hi : i < xs.length), List.Perm (xs[i] :: xs.eraseIdx i) xs
  | x :: r, 0, _ => List.Perm.refl _
  | x :: r, i + 1, hi => by
    have := erase_perm r i (by simpa using hi)
    rw [List.getElem_cons_succ, List.eraseIdx_cons_succ]
    exact (List.Perm.swap x _ _).trans (this.cons x)
theorem PotAt.set {h : Hp} {n : Nat} (hp : PotAt h n) {p q : Int} (p0 : 0 ≤ p) (q0 : 0 ≤ q) (q1 : q < 2 ^ 32) : PotAt (h.set n (OP p q)) n := by
  obtain ⟨_, _, e, _⟩ := hp.ex
  exact ⟨p, q, List.getElem?_set_self (List.getElem?_eq_some_iff.mp e).1, p0, q0, q1⟩
theorem PotAt.lt {h : Hp} {n : Nat} (hp : PotAt h n) : n < h.length := by
  obtain ⟨_, _, e, _⟩ := hp.ex
  exact (List.getElem?_eq_some_iff.mp e).1
theorem PotAt.other {h : Hp} {n k : Nat} (hp : PotAt h n) (hk : k ≠ n) (o : Ob) : PotAt (h.set k o) n := by
  obtain ⟨p, q, e, r⟩ := hp.ex
  exact ⟨p, q, by rw [List.getElem?_set_ne hk]; exact e, r⟩
theorem PotAt.app {h : Hp} {n : Nat} (hp : PotAt h n) (t : Hp) : PotAt (h ++ t) n := by
  obtain ⟨p, q, e, r⟩ := hp.ex
  exact ⟨p, q, by rw [List.getElem?_append_left hp.lt]; exact e, r⟩
theorem range_dyn {C : CallT} {e : E} {env : Ev.Env} {h h1 : Hp} {d : Int} (he : ev C e env h = some (rD (.int d), h1)) (d0 : 0 ≤ d) (d1 : d ≤ 1000) : evI C (.range1 e) env h = some (.seq ((List.range d.toNat).map fun i => I (i : Nat)), h1) := by
  rw [evI_r1, bnd_at _ he, tI, lift_some', bnd_ret, show decide (-(2 ^ 62) ≤ d ∧ d < 2 ^ 62) = true by rw [decide_eq_true_eq]; omega, chk_true, bnd_ret, range_run]
  rfl
theorem ex_for_inv' {δ : Type} {C : CallT} {env : Ev.Env} {h0 h : Hp} {t : Tg} {it : Ev.I} {b : List S} (f : δ → HV) (xs : List δ) (P : Nat → Ev.Env → Hp → Prop) (hI : evI C it env h0 = some (.seq (xs.map f), h)) (hP : P 0 env h)
    (step : ∀ k x env h, xs[k]? = some x → P k env h → ∃ env' h', (bnd (lift (store t (f x) env)) fun env1 => exs C b env1) h = some ((.nx, env'), h') ∧ P (k + 1) env' h') :
    ∃ env' h', ex C (.for_ t it b) env h0 = some ((.nx, env'), h') ∧ P xs.length env' h' := by
  obtain ⟨env', h', e, p⟩ := forSeq_inv (turn := fun x env => bnd (lift (store t x env)) fun env1 => exs C b env1) f xs P step env h hP
  refine ⟨env', h', ?_, p⟩
  rw [ex_for, bnd_at _ hI]
  exact e
section
variable {C : CallT}
def Ends (C : CallT) (b : List S) (env : Ev.Env) (h : Hp) (v : RV) (G : Hp → Prop) : Prop := ∃ env' h', exs C b env h = some ((.rt v, env'), h') ∧ G h'
theorem Ends.go {s : S} {r : List S} {env env' : Ev.Env} {h h' : Hp} {v : RV} {G : Hp → Prop} (e : ex C s env h = some ((.nx, env'), h')) (k : Ends C r env' h' v G) : Ends C (s :: r) env h v G := by
  obtain ⟨env2, h2, e2, g⟩ := k
  refine ⟨env2, h2, ?_, g⟩
  rw [exs_cons, bnd_at _ e]
  exact e2
theorem Ends.pure {s : S} {r : List S} {env env' : Ev.Env} {h : Hp} {v : RV} {G : Hp → Prop} (e : ex C s env = Ev.ret (.nx, env')) (k : Ends C r env' h v G) : Ends C (s :: r) env h v G := Ends.go (by rw [e]; rfl) k
theorem Ends.ret {e : E} {r : List S} {env : Ev.Env} {h : Hp} {v : RV} {G : Hp → Prop} (he : ev C e env = Ev.ret v) (g : G h) : Ends C (.ret e :: r) env h v G := by
  refine ⟨env, h, ?_, g⟩
  rw [exs_cons, ex_ret, he]
  rfl
theorem call_ends {P : List Fn} {x : Str} {f : Fn} {n : Nat} {args : List HV} {v : RV} {h : Hp} {G : Hp → Prop} (hl : lookF x P = some f) (hnp : (args.length == f.np) = true) (e : Ends (callN P n) f.body (args.map some ++ List.replicate (f.ns - f.np) none) h v G) : ∃ h', callN P (n + 1) x args h = some (v, h') ∧ G h' := by
  obtain ⟨env, h', e, g⟩ := e
  exact ⟨h', call_at hl hnp e, g⟩
end
theorem shT {l : List Int} (h : ∀ a ∈ l, 0 ≤ a ∧ a < 100) (hl : l.length ≤ 7) : Sh (T l) 1 14000 := by
  have := Sh.tuple (xs := l.map .int) (k := 0) (w := 1921) (fun x hx => by
    obtain ⟨a, ha, rfl⟩ := List.mem_map.mp hx
    have := h a ha
    exact Sh.int (Nat.lt_trans (show a.natAbs < 128 by omega) (by decide)))
  rw [List.length_map] at this
  exact this.mono (Nat.le_refl _) (by omega)
theorem sh2 {a b : PyData} {k w : Nat} (ha : Sh a k w) (hb : Sh b k w) : Sh (.list [a, b]) (k + 1) (2 * (w + 2) + 3) := by
  have := Sh.list (xs := [a, b]) (k := k) (w := w) (fun x hx => by
    simp only [List.mem_cons, List.not_mem_nil, or_false] at hx
    rcases hx with rfl | rfl
    · exact ha
    · exact hb)
  exact this.mono (Nat.le_refl _) (by simp only [List.length_cons, List.length_nil]; omega)
theorem ne_nil_run (xs : List Nat) (h : Hp) : cmpV h .ne (.fresh (xs.map fun i => I (i : Nat))) (.fresh []) = some (!xs.isEmpty) := by
  have e := eq_nil_run xs h
  unfold cmpV at e ⊢
  dsimp only at e ⊢
  split at e
  · split at e
    · rename_i h1
      rw [if_pos h1]
      rw [Option.some.inj e]
    · cases e
  · cases e
theorem eq_tnil (l : List Int) (h : Hp) : cmpV h .eq (rD (T l)) (rD (.tuple [])) = some l.isEmpty := by
  have e1 : SeqAt.shaped (T l) = true := by
    have := shaped_ints l
    unfold SeqAt.shaped at this ⊢
    rw [Bool.and_eq_true] at this ⊢
    refine ⟨this.1, ?_⟩
    have h2 := depth_ints l
    have h3 : PyData.depth (T l) = PyData.depthAll (l.map .int) + 1 := by rfl
    simp only [decide_eq_true_eq]
    omega
  have e2 : SeqAt.shaped (.tuple []) = true := by decide +kernel
  have e3 : PyData.eqv (T l) (.tuple []) = l.isEmpty := by
    cases l <;> rfl
  simp only [cmpV, getDat, e1, e2, e3, Bool.and_self, if_true]
theorem ne0 (h : Hp) : cmpV h .ne (.fresh []) (.fresh []) = some false := ne_nil_run [] h
theorem eq0 (h : Hp) : cmpV h .eq (.fresh []) (.fresh []) = some true := eq_nil_run [] h
theorem isNot_tt (b : Bool) (h : Hp) : cmpV h .isNot (rD (.bool b)) (rD (.bool true)) = some (!b) := by
  cases b <;> rfl
end Lw

set_option linter.all false
set_option Elab.async false
set_option maxRecDepth 100000
set_option maxHeartbeats 4000000
/-! N0: pure runs of bodies. -/
namespace Lw
open PySem Ev
/-- the body ends by giving v, nothing else happens -/
def Gives (C : CallT) (b : List S) (env : Ev.Env) (v : RV) : Prop := ∃ env', exs C b env = Ev.ret (.rt v, env')
section
variable {C : CallT} {s : S} {r b : List S} {env env' : Ev.Env} {v : RV}
theorem Gives.go (e : ex C s env = Ev.ret (.nx, env')) (k : Gives C r env' v) : Gives C (s :: r) env v := by
  obtain ⟨env2, e2⟩ := k
  refine ⟨env2, ?_⟩
  rw [exs_cons, e, bnd_ret]
  exact e2
theorem Gives.stop (e : ex C s env = Ev.ret (.rt v, env')) : Gives C (s :: r) env v := ⟨env', by rw [exs_cons, e, bnd_ret]⟩
theorem Gives.ret {e : E} (he : ev C e env = Ev.ret v) : Gives C (.ret e :: r) env v := ⟨env, by
  rw [exs_cons, ex_ret, he]
  rfl⟩
theorem ex_for_fold {σ δ : Type} {t : Tg} {it : Ev.I} (R : σ → Ev.Env → Prop) (f : δ → HV) (g : σ → δ → σ) (xs : List δ) (hI : evI C it env = Ev.ret (.seq (xs.map f))) (s0 : σ) (h0 : R s0 env)
    (step : ∀ x ∈ xs, ∀ s env, R s env → ∃ env', R (g s x) env' ∧ (bnd (lift (store t (f x) env)) fun env1 => exs C b env1) = Ev.ret (.nx, env')) :
    ∃ env', R (xs.foldl g s0) env' ∧ ex C (.for_ t it b) env = Ev.ret (.nx, env') := by
  rw [ex_for, hI, bnd_ret]
  show ∃ env', R (xs.foldl g s0) env' ∧ forSeq (fun x env => bnd (lift (store t x env)) fun env1 => exs C b env1) (xs.map f) env = Ev.ret (.nx, env')
  clear hI
  induction xs generalizing s0 env with
  | nil => exact ⟨env, h0, rfl⟩
  | cons x xs ih =>
    obtain ⟨env1, r1, e1⟩ := step x List.mem_cons_self s0 env h0
    obtain ⟨env2, r2, e2⟩ := ih (g s0 x) r1 (fun y hy => step y (List.mem_cons_of_mem _ hy))
    refine ⟨env2, r2, ?_⟩
    rw [List.map_cons]
    show bnd ((fun x env => bnd (lift (store t x env)) fun env1 => exs C b env1) (f x) env) _ = _
    dsimp only
    rw [e1, bnd_ret]
    exact e2
end
theorem call_gives {P : List Fn} {x : Str} {f : Fn} {n : Nat} {args : List HV} {v : RV} (h : lookF x P = some f) (hl : (args.length == f.np) = true) (e : Gives (callN P n) f.body (args.map some ++ List.replicate (f.ns - f.np) none) v) : callN P (n + 1) x args = Ev.ret v := call_ret h hl e
theorem isi_int (h : Hp) (i : Int) : isiV h (rD (.int i)) ["int"] = some true := nr rfl
theorem isi_intb (h : Hp) (i : Int) : isiV h (rD (.int i)) ["bool"] = some false := nr rfl
theorem isi_lt1 (h : Hp) (ds : List PyData) : isiV h (rD (.tuple ds)) ["list", "tuple"] = some true := nr rfl
theorem isi_lt2 (h : Hp) (ds : List PyData) : isiV h (rD (.list ds)) ["list", "tuple"] = some true := nr rfl
theorem gcd_run (h : Hp) (i j : Int) : biV h .gcd [rD (.int i), rD (.int j)] = some (rD (.int ((Nat.gcd i.natAbs j.natAbs : Nat) : Int))) := nr rfl
theorem lcm_run (h : Hp) {i j : Int} (hi : i.natAbs < 2 ^ 64) (hj : j.natAbs < 2 ^ 64) : biV h .lcm [rD (.int i), rD (.int j)] = some (rD (.int ((Nat.lcm i.natAbs j.natAbs : Nat) : Int))) := by
  simp only [biV, decide_eq_true (show i.natAbs < 2 ^ 64 ∧ j.natAbs < 2 ^ 64 from ⟨hi, hj⟩), if_true]
theorem bits_abs {i : Int} {k : Nat} (h : i.natAbs < 2 ^ k) (hk : k ≠ 0) : intBits i < k := by
  unfold intBits
  by_cases hz : i.natAbs = 0
  · rw [hz]
    have : Nat.log2 0 = 0 := by decide
    omega
  · exact (Nat.log2_lt hz).mpr h
theorem bin_mulB (a b : Int) (h : Hp) (ha : a.natAbs < 2 ^ 400000) (hb : b.natAbs < 2 ^ 400000) : binV h .mul (rD (.int a)) (rD (.int b)) = some (rD (.int (a * b))) := by
  have h1 := bits_abs ha (by decide)
  have h2 := bits_abs hb (by decide)
  have e : decide (intBits a + intBits b < 1000000) = true := decide_eq_true (by omega)
  simp only [binV, binInt, e, if_true]
end Lw

set_option linter.all false
set_option Elab.async false
set_option maxRecDepth 100000
set_option maxHeartbeats 4000000
/-! G2: data that are alike just if they are the same. -/
namespace Lw
open PySem Ev
mutual
def itr : PyData → Bool
  | .none => true
  | .bool _ => false
  | .int _ => true
  | .str x => PyData.strOk x
  | .list xs => itrAll xs
  | .tuple xs => itrAll xs
  | .dict _ => false
def itrAll : List PyData → Bool
  | [] => true
  | x :: xs => itr x && itrAll xs
end
mutual
theorem itr_lay : ∀ d : PyData, itr d = true → d.canLay0 = true
  | .none, _ => by simp [PyData.canLay0]
  | .bool _, h => by simp [itr] at h
  | .int _, _ => by simp [PyData.canLay0]
  | .str x, h => by simpa [itr, PyData.canLay0] using h
  | .list xs, h => by
    have := itrAll_lay xs (by simpa [itr] using h)
    simpa [PyData.canLay0] using this
  | .tuple xs, h => by
    have := itrAll_lay xs (by simpa [itr] using h)
    simpa [PyData.canLay0] using this
  | .dict _, h => by simp [itr] at h
theorem itrAll_lay : ∀ xs : List PyData, itrAll xs = true → PyData.canLayAll0 xs = true
  | [], _ => by simp [PyData.canLayAll0]
  | x :: xs, h => by
    have h' : itr x = true ∧ itrAll xs = true := by simpa [itrAll] using h
    simp [PyData.canLayAll0, itr_lay x h'.1, itrAll_lay xs h'.2]
end
mutual
theorem eqv_itr : ∀ a b : PyData, itr a = true → itr b = true → (PyData.eqv a b = true ↔ a = b)
  | .none, b, _, hb => by cases b <;> simp [PyData.eqv]
  | .bool _, _, h, _ => by simp [itr] at h
  | .int i, b, _, hb => by
    cases b <;> simp [PyData.eqv]
    simp [itr] at hb
  | .str x, b, _, hb => by cases b <;> simp [PyData.eqv]
  | .list xs, b, ha, hb => by
    cases b with
    | list ys =>
      have := eqvAll_itr xs ys (by simpa [itr] using ha) (by simpa [itr] using hb)
      simpa [PyData.eqv] using this
    | _ => simp [PyData.eqv]
  | .tuple xs, b, ha, hb => by
    cases b with
    | tuple ys =>
      have := eqvAll_itr xs ys (by simpa [itr] using ha) (by simpa [itr] using hb)
      simpa [PyData.eqv] using this
    | _ => simp [PyData.eqv]
  | .dict _, _, h, _ => by simp [itr] at h
theorem eqvAll_itr : ∀ xs ys : List PyData, itrAll xs = true → itrAll ys = true → (PyData.eqvAll xs ys = true ↔ xs = ys)
  | [], [], _, _ => by simp [PyData.eqvAll]
  | [], _ :: _, _, _ => by simp [PyData.eqvAll]
  | _ :: _, [], _, _ => by simp [PyData.eqvAll]
  | x :: xs, y :: ys, ha, hb => by
    have ha' : itr x = true ∧ itrAll xs = true := by simpa [itrAll] using ha
    have hb' : itr y = true ∧ itrAll ys = true := by simpa [itrAll] using hb
    have h1 := eqv_itr x y ha'.1 hb'.1
    have h2 := eqvAll_itr xs ys ha'.2 hb'.2
    simp only [PyData.eqvAll, Bool.and_eq_true, h1, h2, List.cons.injEq]
end
/-- such data of depth at most k -/
structure It (d : PyData) (k : Nat) : Prop where
  i : itr d = true
  d : d.depth ≤ k
theorem It.mono {d : PyData} {k l : Nat} (h : It d k) (hl : k ≤ l) : It d l := ⟨h.i, Nat.le_trans h.d hl⟩
theorem It.sh {d : PyData} {k : Nat} (h : It d k) (hk : k ≤ 64) : SeqAt.shaped d = true := by
  unfold SeqAt.shaped
  rw [itr_lay d h.i, decide_eq_true (Nat.le_trans h.d hk)]
  rfl
theorem It.int (i : Int) : It (.int i) 0 := ⟨by simp [itr], by simp [PyData.depth]⟩
theorem It.none : It .none 0 := ⟨by simp [itr], by simp [PyData.depth]⟩
theorem It.str (s : String) : It (.str (Str.ofString s)) 0 := ⟨by simpa [itr] using so_string s, by simp [PyData.depth]⟩
theorem itrAll_of : ∀ {xs : List PyData}, (∀ x ∈ xs, itr x = true) → itrAll xs = true
  | [], _ => by simp [itrAll]
  | x :: xs, h => by simp [itrAll, h x List.mem_cons_self, itrAll_of fun y hy => h y (List.mem_cons_of_mem _ hy)]
theorem It.list {xs : List PyData} {k : Nat} (h : ∀ x ∈ xs, It x k) : It (.list xs) (k + 1) := ⟨by
  have := itrAll_of fun x hx => (h x hx).i
  simpa [itr] using this, by
  simp only [PyData.depth]
  exact Nat.add_le_add_right (depthAll_le fun x hx => (h x hx).d) 1⟩
theorem It.tuple {xs : List PyData} {k : Nat} (h : ∀ x ∈ xs, It x k) : It (.tuple xs) (k + 1) := ⟨by
  have := itrAll_of fun x hx => (h x hx).i
  simpa [itr] using this, by
  simp only [PyData.depth]
  exact Nat.add_le_add_right (depthAll_le fun x hx => (h x hx).d) 1⟩
section
variable {h : Hp} {x y : RV} {a b : PyData} {k : Nat}
theorem eq_is (hx : getDat h x = some a) (hy : getDat h y = some b) (ia : It a k) (ib : It b k) (hk : k ≤ 64) (e : a = b) : cmpV h .eq x y = some true := by
  simp only [cmpV, hx, hy, ia.sh hk, ib.sh hk, (eqv_itr a b ia.i ib.i).mpr e, Bool.and_self, if_true]
theorem ne_is (hx : getDat h x = some a) (hy : getDat h y = some b) (ia : It a k) (ib : It b k) (hk : k ≤ 64) (e : a = b) : cmpV h .ne x y = some false := by
  simp only [cmpV, hx, hy, ia.sh hk, ib.sh hk, (eqv_itr a b ia.i ib.i).mpr e, Bool.and_self, if_true, Bool.not_true]
theorem eqv_ne (ia : itr a = true) (ib : itr b = true) (e : a ≠ b) : PyData.eqv a b = false := by
  cases q : PyData.eqv a b with
  | false => rfl
  | true => exact absurd ((eqv_itr a b ia ib).mp q) e
theorem eq_not (hx : getDat h x = some a) (hy : getDat h y = some b) (ia : It a k) (ib : It b k) (hk : k ≤ 64) (e : a ≠ b) : cmpV h .eq x y = some false := by
  simp only [cmpV, hx, hy, ia.sh hk, ib.sh hk, eqv_ne ia.i ib.i e, Bool.and_self, if_true]
theorem ne_not (hx : getDat h x = some a) (hy : getDat h y = some b) (ia : It a k) (ib : It b k) (hk : k ≤ 64) (e : a ≠ b) : cmpV h .ne x y = some true := by
  simp only [cmpV, hx, hy, ia.sh hk, ib.sh hk, eqv_ne ia.i ib.i e, Bool.and_self, if_true, Bool.not_false]
end
theorem dat_d {h : Hp} (d : PyData) : getDat h (rD d) = some d := nr rfl
theorem dat_f {δ : Type} {h : Hp} (xs : List δ) (g : δ → PyData) : getDat h (.fresh (xs.map fun x => .d (g x))) = some (.list (xs.map g)) := by
  simp only [getDat, allData_map']
end Lw

set_option linter.all false
set_option Elab.async false
set_option maxRecDepth 100000
set_option maxHeartbeats 4000000
/-! N1: numbers. -/
namespace Lw
open PySem Ev
abbrev rq (x : Rat) : PyData := .tuple [.int x.num, .int (x.den : Nat)]
/-- small enough for every step -/
structure Sm (x : Rat) : Prop where
  n : x.num.natAbs < 2 ^ 200
  d : x.den < 2 ^ 200
theorem rq0 (x : Rat) (h : Hp) : ixV h (rD (rq x)) 0 = some (rD (.int x.num)) := nr rfl
theorem rq1 (x : Rat) (h : Hp) : ixV h (rD (rq x)) 1 = some (rD (.int (x.den : Nat))) := nr rfl
theorem big200 : (2 : Nat) ^ 200 ≤ 2 ^ 400000 := Nat.pow_le_pow_right (by decide) (by decide)
theorem big200' : (2 : Nat) ^ 200 * 2 ^ 200 ≤ 2 ^ 1000 := by decide
theorem Sm.n' {x : Rat} (h : Sm x) : x.num.natAbs < 2 ^ 400000 := Nat.lt_of_lt_of_le h.n big200
theorem Sm.d' {x : Rat} (h : Sm x) : ((x.den : Nat) : Int).natAbs < 2 ^ 400000 := by
  rw [Int.natAbs_natCast]
  exact Nat.lt_of_lt_of_le h.d big200
theorem made_run (n : Nat) (a b : Int) (hb : 0 < b) (hb2 : b.natAbs < 2 ^ 1000) : callN prog (n + 1) "made" [I a, I b] = Ev.ret (rD (rq (Rat.divInt a b))) := by
  refine call_ret (f := f_made) (by rfl) rfl ?_
  have hg : 0 < Nat.gcd a.natAbs b.natAbs := Nat.gcd_pos_of_pos_right _ (by omega)
  have hg2 : Nat.gcd a.natAbs b.natAbs ≤ b.natAbs := Nat.gcd_le_right _ (by omega)
  have hbits : intBits ((Nat.gcd a.natAbs b.natAbs : Nat) : Int) < 9000 := Nat.lt_trans (bits_abs (k := 1000) (by rw [Int.natAbs_natCast]; omega) (by decide)) (by decide)
  have e1 : (Rat.divInt a b).num = a / ((Nat.gcd a.natAbs b.natAbs : Nat) : Int) := by
    rw [Rat.num_divInt, Int.sign_eq_one_of_pos hb, Int.one_mul, Int.gcd_comm]
    rfl
  have e2 : (((Rat.divInt a b).den : Nat) : Int) = b / ((Nat.gcd a.natAbs b.natAbs : Nat) : Int) := by
    rw [Rat.den_divInt, if_neg (by omega), Int.gcd_comm]
    show ((b.natAbs / Nat.gcd a.natAbs b.natAbs : Nat) : Int) = _
    rw [Int.natCast_ediv]
    congr 1
    omega
  have e3 : rq (Rat.divInt a b) = .tuple [.int (a / ((Nat.gcd a.natAbs b.natAbs : Nat) : Int)), .int (b / ((Nat.gcd a.natAbs b.natAbs : Nat) : Int))] := by
    unfold rq
    rw [e1, e2]
  rw [e3]
  simp only [exs_nil, exs_cons, ex_asg, ex_par, ex_expr, ex_ret, ex_ite, ev_var, ev_lit, ev_glob, ev_bin, ev_neg, ev_cmp, ev_chain, ev_not, ev_and, ev_or, ev_ite, ev_tup, ev_lst, ev_frz, ev_ix, ev_sl, ev_bi, ev_isi, ev_lr, ev_call, ev_mth, evs_nil, evs_cons, evO_none, evO_some, evT_none, evT_some, evI_seq, evI_r1, evI_enum, evI_zip, List.map_cons, List.map_nil, List.cons_append, List.nil_append, List.replicate, getVar, List.getElem?_cons_zero, List.getElem?_cons_succ, lift_some', bnd_ret, bnd_assoc, look_some', tB, tI, hO, frz_d, frz_f, its_fresh, storeTop, storeAt, setAt, List.length_cons, List.length_nil, List.set_cons_zero, List.set_cons_succ, Nat.reduceLT, Nat.reduceAdd, Nat.reduceSub, if_true, if_false, Bool.false_eq_true, permute, hvs?, datas?, chk_true, f_made, gcd_run, cmp_gt, decide_eq_true hb, bin_divI _ _ _ (show (0 : Int) < ((Nat.gcd a.natAbs b.natAbs : Nat) : Int) by omega) hbits, lk2]
  exact ⟨_, rfl⟩
theorem add_div (x y : Rat) : x + y = Rat.divInt (x.num * (y.den : Nat) + y.num * (x.den : Nat)) ((x.den : Nat) * (y.den : Nat)) := by
  rw [Rat.add_def', ← Rat.divInt_ofNat]
  rfl
theorem sub_div (x y : Rat) : x - y = Rat.divInt (x.num * (y.den : Nat) - y.num * (x.den : Nat)) ((x.den : Nat) * (y.den : Nat)) := by
  rw [Rat.sub_def', ← Rat.divInt_ofNat]
  rfl
theorem mul_div (x y : Rat) : x * y = Rat.divInt (x.num * y.num) ((x.den : Nat) * (y.den : Nat)) := by
  rw [Rat.mul_def', ← Rat.divInt_ofNat]
  rfl
theorem div_div (x y : Rat) : x / y = Rat.divInt (x.num * (y.den : Nat)) ((x.den : Nat) * y.num) := by
  rw [Rat.div_def]
  have e : y⁻¹ = Rat.divInt (y.den : Nat) y.num := by
    have := Rat.inv_divInt y.num (y.den : Nat)
    rwa [Rat.num_divInt_den] at this
  rw [e, ← Rat.divInt_mul_divInt, Rat.num_divInt_den]
theorem dpos (x : Rat) : (0 : Int) < (x.den : Nat) := by
  have := x.den_pos
  omega
theorem dd_pos (x y : Rat) : (0 : Int) < (x.den : Nat) * (y.den : Nat) := Int.mul_pos (dpos x) (dpos y)
theorem nat_mul_lt {a b : Nat} (ha : a < 2 ^ 200) (hb : b < 2 ^ 200) : a * b < 2 ^ 1000 := Nat.lt_of_le_of_lt (Nat.mul_le_mul (Nat.le_of_lt ha) (Nat.le_of_lt hb)) (by decide)
theorem Sm.dd {x y : Rat} (hx : Sm x) (hy : Sm y) : (((x.den : Nat) : Int) * (y.den : Nat)).natAbs < 2 ^ 1000 := by
  rw [Int.natAbs_mul, Int.natAbs_natCast, Int.natAbs_natCast]
  exact nat_mul_lt hx.d hy.d
theorem rplus_run (n : Nat) {x y : Rat} (hx : Sm x) (hy : Sm y) : callN prog (n + 2) "r_plus" [.d (rq x), .d (rq y)] = Ev.ret (rD (rq (x + y))) := by
  refine call_ret (f := f_r_plus) (by rfl) rfl ?_
  rw [add_div]
  simp only [exs_nil, exs_cons, ex_asg, ex_par, ex_expr, ex_ret, ex_ite, ev_var, ev_lit, ev_glob, ev_bin, ev_neg, ev_cmp, ev_chain, ev_not, ev_and, ev_or, ev_ite, ev_tup, ev_lst, ev_frz, ev_ix, ev_sl, ev_bi, ev_isi, ev_lr, ev_call, ev_mth, evs_nil, evs_cons, evO_none, evO_some, evT_none, evT_some, evI_seq, evI_r1, evI_enum, evI_zip, List.map_cons, List.map_nil, List.cons_append, List.nil_append, List.replicate, getVar, List.getElem?_cons_zero, List.getElem?_cons_succ, lift_some', bnd_ret, bnd_assoc, look_some', tB, tI, hO, frz_d, frz_f, its_fresh, storeTop, storeAt, setAt, List.length_cons, List.length_nil, List.set_cons_zero, List.set_cons_succ, Nat.reduceLT, Nat.reduceAdd, Nat.reduceSub, if_true, if_false, Bool.false_eq_true, permute, hvs?, datas?, chk_true, f_r_plus, rq0, rq1, bin_mulB _ _ _ hx.n' hy.d', bin_mulB _ _ _ hy.n' hx.d', bin_mulB _ _ _ hx.d' hy.d', bin_addI, pc (made_run n _ _ (dd_pos x y) (hx.dd hy)) rfl rfl]
  exact ⟨_, rfl⟩
theorem rminus_run (n : Nat) {x y : Rat} (hx : Sm x) (hy : Sm y) : callN prog (n + 2) "r_minus" [.d (rq x), .d (rq y)] = Ev.ret (rD (rq (x - y))) := by
  refine call_ret (f := f_r_minus) (by rfl) rfl ?_
  rw [sub_div]
  simp only [exs_nil, exs_cons, ex_asg, ex_par, ex_expr, ex_ret, ex_ite, ev_var, ev_lit, ev_glob, ev_bin, ev_neg, ev_cmp, ev_chain, ev_not, ev_and, ev_or, ev_ite, ev_tup, ev_lst, ev_frz, ev_ix, ev_sl, ev_bi, ev_isi, ev_lr, ev_call, ev_mth, evs_nil, evs_cons, evO_none, evO_some, evT_none, evT_some, evI_seq, evI_r1, evI_enum, evI_zip, List.map_cons, List.map_nil, List.cons_append, List.nil_append, List.replicate, getVar, List.getElem?_cons_zero, List.getElem?_cons_succ, lift_some', bnd_ret, bnd_assoc, look_some', tB, tI, hO, frz_d, frz_f, its_fresh, storeTop, storeAt, setAt, List.length_cons, List.length_nil, List.set_cons_zero, List.set_cons_succ, Nat.reduceLT, Nat.reduceAdd, Nat.reduceSub, if_true, if_false, Bool.false_eq_true, permute, hvs?, datas?, chk_true, f_r_minus, rq0, rq1, bin_mulB _ _ _ hx.n' hy.d', bin_mulB _ _ _ hy.n' hx.d', bin_mulB _ _ _ hx.d' hy.d', bin_subI, pc (made_run n _ _ (dd_pos x y) (hx.dd hy)) rfl rfl]
  exact ⟨_, rfl⟩
theorem rtimes_run (n : Nat) {x y : Rat} (hx : Sm x) (hy : Sm y) : callN prog (n + 2) "r_times" [.d (rq x), .d (rq y)] = Ev.ret (rD (rq (x * y))) := by
  refine call_ret (f := f_r_times) (by rfl) rfl ?_
  rw [mul_div]
  simp only [exs_nil, exs_cons, ex_asg, ex_par, ex_expr, ex_ret, ex_ite, ev_var, ev_lit, ev_glob, ev_bin, ev_neg, ev_cmp, ev_chain, ev_not, ev_and, ev_or, ev_ite, ev_tup, ev_lst, ev_frz, ev_ix, ev_sl, ev_bi, ev_isi, ev_lr, ev_call, ev_mth, evs_nil, evs_cons, evO_none, evO_some, evT_none, evT_some, evI_seq, evI_r1, evI_enum, evI_zip, List.map_cons, List.map_nil, List.cons_append, List.nil_append, List.replicate, getVar, List.getElem?_cons_zero, List.getElem?_cons_succ, lift_some', bnd_ret, bnd_assoc, look_some', tB, tI, hO, frz_d, frz_f, its_fresh, storeTop, storeAt, setAt, List.length_cons, List.length_nil, List.set_cons_zero, List.set_cons_succ, Nat.reduceLT, Nat.reduceAdd, Nat.reduceSub, if_true, if_false, Bool.false_eq_true, permute, hvs?, datas?, chk_true, f_r_times, rq0, rq1, bin_mulB _ _ _ hx.n' hy.n', bin_mulB _ _ _ hx.d' hy.d', bin_addI, pc (made_run n _ _ (dd_pos x y) (hx.dd hy)) rfl rfl]
  exact ⟨_, rfl⟩
theorem num_pos {y : Rat} (h : 0 < y) : 0 < y.num := by
  have := (Rat.lt_iff 0 y).mp h
  simpa using this
theorem rover_run (n : Nat) {x y : Rat} (hx : Sm x) (hy : Sm y) (hp : 0 < y) : callN prog (n + 2) "r_over" [.d (rq x), .d (rq y)] = Ev.ret (rD (rq (x / y))) := by
  refine call_ret (f := f_r_over) (by rfl) rfl ?_
  rw [div_div]
  have h1 : (((x.den : Nat) : Int) * y.num).natAbs < 2 ^ 1000 := by
    rw [Int.natAbs_mul, Int.natAbs_natCast]
    exact nat_mul_lt hx.d hy.n
  simp only [exs_nil, exs_cons, ex_asg, ex_par, ex_expr, ex_ret, ex_ite, ev_var, ev_lit, ev_glob, ev_bin, ev_neg, ev_cmp, ev_chain, ev_not, ev_and, ev_or, ev_ite, ev_tup, ev_lst, ev_frz, ev_ix, ev_sl, ev_bi, ev_isi, ev_lr, ev_call, ev_mth, evs_nil, evs_cons, evO_none, evO_some, evT_none, evT_some, evI_seq, evI_r1, evI_enum, evI_zip, List.map_cons, List.map_nil, List.cons_append, List.nil_append, List.replicate, getVar, List.getElem?_cons_zero, List.getElem?_cons_succ, lift_some', bnd_ret, bnd_assoc, look_some', tB, tI, hO, frz_d, frz_f, its_fresh, storeTop, storeAt, setAt, List.length_cons, List.length_nil, List.set_cons_zero, List.set_cons_succ, Nat.reduceLT, Nat.reduceAdd, Nat.reduceSub, if_true, if_false, Bool.false_eq_true, permute, hvs?, datas?, chk_true, f_r_over, rq0, rq1, bin_mulB _ _ _ hx.n' hy.d', bin_mulB _ _ _ hx.d' hy.n', pc (made_run n _ _ (Int.mul_pos (dpos x) (num_pos hp)) h1) rfl rfl]
  exact ⟨_, rfl⟩
theorem rless_run (n : Nat) {x y : Rat} (hx : Sm x) (hy : Sm y) : callN prog (n + 1) "r_less" [.d (rq x), .d (rq y)] = Ev.ret (rD (.bool (decide (x < y)))) := by
  refine call_ret (f := f_r_less) (by rfl) rfl ?_
  rw [show decide (x < y) = decide (x.num * (y.den : Nat) < y.num * (x.den : Nat)) from decide_eq_decide.mpr (Rat.lt_iff x y)]
  simp only [exs_nil, exs_cons, ex_asg, ex_par, ex_expr, ex_ret, ex_ite, ev_var, ev_lit, ev_glob, ev_bin, ev_neg, ev_cmp, ev_chain, ev_not, ev_and, ev_or, ev_ite, ev_tup, ev_lst, ev_frz, ev_ix, ev_sl, ev_bi, ev_isi, ev_lr, ev_call, ev_mth, evs_nil, evs_cons, evO_none, evO_some, evT_none, evT_some, evI_seq, evI_r1, evI_enum, evI_zip, List.map_cons, List.map_nil, List.cons_append, List.nil_append, List.replicate, getVar, List.getElem?_cons_zero, List.getElem?_cons_succ, lift_some', bnd_ret, bnd_assoc, look_some', tB, tI, hO, frz_d, frz_f, its_fresh, storeTop, storeAt, setAt, List.length_cons, List.length_nil, List.set_cons_zero, List.set_cons_succ, Nat.reduceLT, Nat.reduceAdd, Nat.reduceSub, if_true, if_false, Bool.false_eq_true, permute, hvs?, datas?, chk_true, f_r_less, rq0, rq1, bin_mulB _ _ _ hx.n' hy.d', bin_mulB _ _ _ hy.n' hx.d', cmp_lt]
  exact ⟨_, rfl⟩
end Lw

set_option linter.all false
set_option Elab.async false
set_option maxRecDepth 100000
set_option maxHeartbeats 4000000
/-! N2: totals of numbers. -/
namespace Lw
open PySem Ev
/-- x has a bottom that divides D, and is not great -/
structure Nb (D : Nat) (x : Rat) : Prop where
  dv : ∃ k : Int, x * (D : Rat) = (k : Rat)
  lo : -1000000 ≤ x
  hi : x ≤ 1000000
theorem num_den (x : Rat) : x * ((x.den : Nat) : Rat) = ((x.num : Int) : Rat) := by
  have h : Rat.divInt x.num (x.den : Nat) = x := Rat.num_divInt_den x
  rw [Rat.divInt_eq_div] at h
  have hd : ((x.den : Nat) : Rat) ≠ 0 := by
    have := x.den_nz
    intro e
    exact this (by exact_mod_cast e)
  have e : ((((x.den : Nat) : Int)) : Rat) = ((x.den : Nat) : Rat) := Rat.intCast_natCast _
  rw [e] at h
  calc x * ((x.den : Nat) : Rat) = ((x.num : Int) : Rat) / ((x.den : Nat) : Rat) * ((x.den : Nat) : Rat) := by rw [h]
    _ = ((x.num : Int) : Rat) := Rat.div_mul_cancel hd
theorem Nb.den_dvd {D : Nat} {x : Rat} (h : Nb D x) : x.den ∣ D := by
  obtain ⟨k, hk⟩ := h.dv
  have e1 : ((x.num * (D : Int) : Int) : Rat) = ((k * (x.den : Int) : Int) : Rat) := by
    rw [Rat.intCast_mul, Rat.intCast_mul, ← num_den, ← hk, Rat.intCast_natCast, Rat.intCast_natCast]
    grind
  have e2 : x.num * (D : Int) = k * (x.den : Int) := Rat.intCast_inj.mp e1
  have e3 : x.den ∣ x.num.natAbs * D := by
    have : x.num.natAbs * D = k.natAbs * x.den := by
      have := congrArg Int.natAbs e2
      rwa [Int.natAbs_mul, Int.natAbs_mul, Int.natAbs_natCast, Int.natAbs_natCast] at this
    rw [this]
    exact Nat.dvd_mul_left _ _
  exact (Nat.Coprime.dvd_of_dvd_mul_left x.reduced.symm e3)
theorem Nb.den_le {D : Nat} {x : Rat} (hD : 0 < D) (h : Nb D x) : x.den ≤ D := Nat.le_of_dvd hD h.den_dvd
theorem Nb.sm {D : Nat} {x : Rat} (hD : 0 < D) (hD2 : D < 2 ^ 64) (h : Nb D x) : Sm x := by
  have hd := h.den_le hD
  have hp : (0 : Rat) ≤ ((x.den : Nat) : Rat) := Rat.natCast_nonneg
  have e := num_den x
  have h1 : ((x.num : Int) : Rat) ≤ ((1000000 * (x.den : Int) : Int) : Rat) := by
    rw [Rat.intCast_mul, Rat.intCast_natCast, ← e]
    exact Rat.mul_le_mul_of_nonneg_right h.hi hp
  have h2 : ((-1000000 * (x.den : Int) : Int) : Rat) ≤ ((x.num : Int) : Rat) := by
    rw [Rat.intCast_mul, Rat.intCast_natCast, ← e]
    exact Rat.mul_le_mul_of_nonneg_right h.lo hp
  have h3 := Rat.intCast_le_intCast.mp h1
  have h4 := Rat.intCast_le_intCast.mp h2
  have z1 : (2 : Nat) ^ 64 * 1000000 < 2 ^ 200 := by decide
  have z2 : (2 : Nat) ^ 64 < 2 ^ 200 := by decide
  refine ⟨?_, by omega⟩
  have : x.num.natAbs ≤ 1000000 * x.den := by omega
  omega
theorem Nb.int {D : Nat} {i : Int} (h : -1000000 ≤ i) (h2 : i ≤ 1000000) : Nb D (i : Rat) := ⟨⟨i * D, by rw [Rat.intCast_mul, Rat.intCast_natCast]⟩, by
  have := Rat.intCast_le_intCast.mpr h
  exact this, by
  have := Rat.intCast_le_intCast.mpr h2
  exact this⟩
theorem Nb.mul {D E : Nat} {x : Rat} (h : Nb D x) : Nb (D * E) x := by
  obtain ⟨k, hk⟩ := h.dv
  refine ⟨⟨k * E, ?_⟩, h.lo, h.hi⟩
  rw [Rat.natCast_mul, Rat.intCast_mul, Rat.intCast_natCast, ← hk]
  grind
theorem Nb.dvd {D E : Nat} {x : Rat} (h : Nb D x) (hd : D ∣ E) : Nb E x := by
  obtain ⟨F, rfl⟩ := hd
  exact h.mul
theorem Nb.add {D : Nat} {x y : Rat} (hx : Nb D x) (hy : Nb D y) (lo : -1000000 ≤ x + y) (hi : x + y ≤ 1000000) : Nb D (x + y) := by
  obtain ⟨k, hk⟩ := hx.dv
  obtain ⟨l, hl⟩ := hy.dv
  exact ⟨⟨k + l, by rw [Rat.intCast_add, ← hk, ← hl]; grind⟩, lo, hi⟩
theorem Nb.sub {D : Nat} {x y : Rat} (hx : Nb D x) (hy : Nb D y) (lo : -1000000 ≤ x - y) (hi : x - y ≤ 1000000) : Nb D (x - y) := by
  obtain ⟨k, hk⟩ := hx.dv
  obtain ⟨l, hl⟩ := hy.dv
  exact ⟨⟨k - l, by rw [Rat.intCast_sub, ← hk, ← hl]; grind⟩, lo, hi⟩
theorem Nb.times {D E : Nat} {x y : Rat} (hx : Nb D x) (hy : Nb E y) (lo : -1000000 ≤ x * y) (hi : x * y ≤ 1000000) : Nb (D * E) (x * y) := by
  obtain ⟨k, hk⟩ := hx.dv
  obtain ⟨l, hl⟩ := hy.dv
  exact ⟨⟨k * l, by rw [Rat.intCast_mul, ← hk, ← hl, Rat.natCast_mul]; grind⟩, lo, hi⟩
/-- divided by a count -/
theorem Nb.over {D n : Nat} {x : Rat} (hn : 0 < n) (hx : Nb D x) (lo : -1000000 ≤ x / (n : Rat)) (hi : x / (n : Rat) ≤ 1000000) : Nb (D * n) (x / (n : Rat)) := by
  obtain ⟨k, hk⟩ := hx.dv
  have hd : ((n : Nat) : Rat) ≠ 0 := by
    intro e
    have : n = 0 := by exact_mod_cast e
    omega
  refine ⟨⟨k, ?_⟩, lo, hi⟩
  rw [← hk, Rat.natCast_mul]
  grind
/-! ### sums -/
theorem sum_cons (x : Rat) (xs : List Rat) : (x :: xs).sum = x + xs.sum := List.sum_cons
theorem its_rq (xs : List Rat) (h : Hp) : itsOf h (rD (.list (xs.map rq))) = some (.seq (xs.map fun x => .d (rq x))) := its_run xs rq h
def cmn (xs : List Rat) : Nat := xs.foldl (fun a x => Nat.lcm a x.den) 1
theorem cmn_from (D : Nat) : ∀ (xs : List Rat) (a : Nat), a ∣ D → (∀ x ∈ xs, x.den ∣ D) → (xs.foldl (fun a x => Nat.lcm a x.den) a) ∣ D ∧ a ∣ (xs.foldl (fun a x => Nat.lcm a x.den) a) ∧ ∀ x ∈ xs, x.den ∣ (xs.foldl (fun a x => Nat.lcm a x.den) a)
  | [], a, ha, _ => ⟨ha, Nat.dvd_refl _, fun x hx => nomatch hx⟩
  | x :: xs, a, ha, h => by
    obtain ⟨h1, h2, h3⟩ := cmn_from D xs (Nat.lcm a x.den) (Nat.lcm_dvd ha (h x List.mem_cons_self)) (fun y hy => h y (List.mem_cons_of_mem _ hy))
    refine ⟨h1, Nat.dvd_trans (Nat.dvd_lcm_left _ _) h2, fun y hy => ?_⟩
    rcases List.mem_cons.mp hy with rfl | hy
    · exact Nat.dvd_trans (Nat.dvd_lcm_right _ _) h2
    · exact h3 y hy
theorem common_run (n : Nat) (D : Nat) (hD : 0 < D) (hD2 : D < 2 ^ 64) (xs : List Rat) (hx : ∀ x ∈ xs, x.den ∣ D) : callN prog (n + 1) "common" [.d (.list (xs.map rq))] = Ev.ret (rD (.int (cmn xs : Nat))) := by
  refine call_gives (f := f_common) (by rfl) rfl ?_
  unfold f_common
  refine Gives.go (env' := [some (.d (.list (xs.map rq))), some (I 1), none, none]) (by
    simp only [exs_nil, exs_cons, ex_asg, ex_par, ex_expr, ex_ret, ex_ite, ev_var, ev_lit, ev_glob, ev_bin, ev_neg, ev_cmp, ev_chain, ev_not, ev_and, ev_or, ev_ite, ev_tup, ev_lst, ev_frz, ev_ix, ev_sl, ev_bi, ev_isi, ev_lr, ev_call, ev_mth, evs_nil, evs_cons, evO_none, evO_some, evT_none, evT_some, evI_seq, evI_r1, evI_enum, evI_zip, List.map_cons, List.map_nil, List.cons_append, List.nil_append, List.replicate, getVar, List.getElem?_cons_zero, List.getElem?_cons_succ, lift_some', bnd_ret, bnd_assoc, look_some', tB, tI, hO, frz_d, frz_f, its_fresh, storeTop, storeAt, setAt, List.length_cons, List.length_nil, List.set_cons_zero, List.set_cons_succ, Nat.reduceLT, Nat.reduceAdd, Nat.reduceSub, if_true, if_false, Bool.false_eq_true, permute, hvs?, datas?, chk_true]) ?_
  obtain ⟨env', ⟨⟨p, q, rfl⟩, hd⟩, e⟩ := ex_for_fold (C := callN prog n) (t := .tup [.name 2, .name 3]) (it := .seq (.var 0)) (b := [.asg (.name 1) (.bi .lcm [(.var 1), (.var 3)])]) (env := [some (.d (.list (xs.map rq))), some (I 1), none, none])
    (fun (s : Nat) env => (∃ p q, env = [some (.d (.list (xs.map rq))), some (I (s : Nat)), p, q]) ∧ s ∣ D) (fun x => .d (rq x)) (fun a x => Nat.lcm a x.den) xs (by simp only [exs_nil, exs_cons, ex_asg, ex_par, ex_expr, ex_ret, ex_ite, ev_var, ev_lit, ev_glob, ev_bin, ev_neg, ev_cmp, ev_chain, ev_not, ev_and, ev_or, ev_ite, ev_tup, ev_lst, ev_frz, ev_ix, ev_sl, ev_bi, ev_isi, ev_lr, ev_call, ev_mth, evs_nil, evs_cons, evO_none, evO_some, evT_none, evT_some, evI_seq, evI_r1, evI_enum, evI_zip, List.map_cons, List.map_nil, List.cons_append, List.nil_append, List.replicate, getVar, List.getElem?_cons_zero, List.getElem?_cons_succ, lift_some', bnd_ret, bnd_assoc, look_some', tB, tI, hO, frz_d, frz_f, its_fresh, storeTop, storeAt, setAt, List.length_cons, List.length_nil, List.set_cons_zero, List.set_cons_succ, Nat.reduceLT, Nat.reduceAdd, Nat.reduceSub, if_true, if_false, Bool.false_eq_true, permute, hvs?, datas?, chk_true, its_rq]) 1 ⟨⟨none, none, rfl⟩, Nat.one_dvd _⟩ (fun x hxx s env ⟨⟨p, q, he⟩, hs⟩ => by
      subst he
      have h1 := Nat.le_of_dvd hD hs
      have h2 := Nat.le_of_dvd hD (hx x hxx)
      refine ⟨[some (.d (.list (xs.map rq))), some (I (Nat.lcm s x.den : Nat)), some (I x.num), some (I (x.den : Nat))], ⟨⟨_, _, rfl⟩, Nat.lcm_dvd hs (hx x hxx)⟩, ?_⟩
      simp only [exs_nil, exs_cons, ex_asg, ex_par, ex_expr, ex_ret, ex_ite, ev_var, ev_lit, ev_glob, ev_bin, ev_neg, ev_cmp, ev_chain, ev_not, ev_and, ev_or, ev_ite, ev_tup, ev_lst, ev_frz, ev_ix, ev_sl, ev_bi, ev_isi, ev_lr, ev_call, ev_mth, evs_nil, evs_cons, evO_none, evO_some, evT_none, evT_some, evI_seq, evI_r1, evI_enum, evI_zip, List.map_cons, List.map_nil, List.cons_append, List.nil_append, List.replicate, getVar, List.getElem?_cons_zero, List.getElem?_cons_succ, lift_some', bnd_ret, bnd_assoc, look_some', tB, tI, hO, frz_d, frz_f, its_fresh, storeTop, storeAt, setAt, List.length_cons, List.length_nil, List.set_cons_zero, List.set_cons_succ, Nat.reduceLT, Nat.reduceAdd, Nat.reduceSub, if_true, if_false, Bool.false_eq_true, permute, hvs?, datas?, chk_true, store2, lcm_run _ (show ((s : Nat) : Int).natAbs < 2 ^ 64 by rw [Int.natAbs_natCast]; omega) (show ((x.den : Nat) : Int).natAbs < 2 ^ 64 by rw [Int.natAbs_natCast]; omega), Int.natAbs_natCast])
  refine Gives.go e ?_
  exact Gives.ret (by
    simp only [exs_nil, exs_cons, ex_asg, ex_par, ex_expr, ex_ret, ex_ite, ev_var, ev_lit, ev_glob, ev_bin, ev_neg, ev_cmp, ev_chain, ev_not, ev_and, ev_or, ev_ite, ev_tup, ev_lst, ev_frz, ev_ix, ev_sl, ev_bi, ev_isi, ev_lr, ev_call, ev_mth, evs_nil, evs_cons, evO_none, evO_some, evT_none, evT_some, evI_seq, evI_r1, evI_enum, evI_zip, List.map_cons, List.map_nil, List.cons_append, List.nil_append, List.replicate, getVar, List.getElem?_cons_zero, List.getElem?_cons_succ, lift_some', bnd_ret, bnd_assoc, look_some', tB, tI, hO, frz_d, frz_f, its_fresh, storeTop, storeAt, setAt, List.length_cons, List.length_nil, List.set_cons_zero, List.set_cons_succ, Nat.reduceLT, Nat.reduceAdd, Nat.reduceSub, if_true, if_false, Bool.false_eq_true, permute, hvs?, datas?, chk_true]
    rfl)
theorem tops_sum (L : Nat) (hL : 0 < L) : ∀ (xs : List Rat), (∀ x ∈ xs, x.den ∣ L) → xs.sum = Rat.divInt ((xs.map fun x => x.num * (((L / x.den : Nat)) : Int)).sum) (L : Nat)
  | [], _ => by
    simp
  | x :: xs, h => by
    have ih := tops_sum L hL xs fun y hy => h y (List.mem_cons_of_mem _ hy)
    obtain ⟨m, hm⟩ := h x List.mem_cons_self
    have hd : 0 < x.den := x.den_pos
    have hm2 : L / x.den = m := by rw [hm, Nat.mul_div_cancel_left _ hd]
    have hL0 : ((L : Nat) : Rat) ≠ 0 := by
      intro e
      have : L = 0 := by exact_mod_cast e
      omega
    rw [List.sum_cons, List.map_cons, List.sum_cons, ih, hm2, Rat.divInt_eq_div, Rat.divInt_eq_div, Rat.intCast_add, Rat.intCast_mul, Rat.intCast_natCast, Rat.intCast_natCast, ← num_den]
    have e : ((L : Nat) : Rat) = ((x.den : Nat) : Rat) * ((m : Nat) : Rat) := by rw [hm, Rat.natCast_mul]
    generalize ((L : Nat) : Rat) = LL at *
    grind
theorem sumI_run {δ : Type} (xs : List δ) (g : δ → Int) (h : Hp) : biV h .sum [.fresh (xs.map fun x => I (g x))] = some (rD (.int (xs.map g).sum)) := by
  have := sum_run (xs.map g) h
  rw [List.map_map] at this
  exact this
theorem rtotal_run (n : Nat) (D : Nat) (hD : 0 < D) (hD2 : D < 2 ^ 64) (xs : List Rat) (hx : ∀ x ∈ xs, Nb D x) (hl : xs.length ≤ 100) : callN prog (n + 2) "r_total" [.d (.list (xs.map rq))] = Ev.ret (rD (rq xs.sum)) := by
  have hden : ∀ x ∈ xs, x.den ∣ D := fun x h => (hx x h).den_dvd
  obtain ⟨c1, c2, c3⟩ := cmn_from D xs 1 (Nat.one_dvd _) hden
  have hcl : 0 < cmn xs := Nat.pos_of_dvd_of_pos c1 hD
  have hcD := Nat.le_of_dvd hD c1
  refine call_ret (f := f_r_total) (by rfl) rfl ?_
  rw [tops_sum (cmn xs) hcl xs c3]
  simp only [exs_nil, exs_cons, ex_asg, ex_par, ex_expr, ex_ret, ex_ite, ev_var, ev_lit, ev_glob, ev_bin, ev_neg, ev_cmp, ev_chain, ev_not, ev_and, ev_or, ev_ite, ev_tup, ev_lst, ev_frz, ev_ix, ev_sl, ev_bi, ev_isi, ev_lr, ev_call, ev_mth, evs_nil, evs_cons, evO_none, evO_some, evT_none, evT_some, evI_seq, evI_r1, evI_enum, evI_zip, List.map_cons, List.map_nil, List.cons_append, List.nil_append, List.replicate, getVar, List.getElem?_cons_zero, List.getElem?_cons_succ, lift_some', bnd_ret, bnd_assoc, look_some', tB, tI, hO, frz_d, frz_f, its_fresh, storeTop, storeAt, setAt, List.length_cons, List.length_nil, List.set_cons_zero, List.set_cons_succ, Nat.reduceLT, Nat.reduceAdd, Nat.reduceSub, if_true, if_false, Bool.false_eq_true, permute, hvs?, datas?, chk_true, f_r_total, pc (common_run n D hD hD2 xs hden) rfl rfl]
  rw [ev_compM xs (fun x => .d (rq x)) (fun x => I (x.num * (((cmn xs / x.den : Nat)) : Int))) (by simp only [exs_nil, exs_cons, ex_asg, ex_par, ex_expr, ex_ret, ex_ite, ev_var, ev_lit, ev_glob, ev_bin, ev_neg, ev_cmp, ev_chain, ev_not, ev_and, ev_or, ev_ite, ev_tup, ev_lst, ev_frz, ev_ix, ev_sl, ev_bi, ev_isi, ev_lr, ev_call, ev_mth, evs_nil, evs_cons, evO_none, evO_some, evT_none, evT_some, evI_seq, evI_r1, evI_enum, evI_zip, List.map_cons, List.map_nil, List.cons_append, List.nil_append, List.replicate, getVar, List.getElem?_cons_zero, List.getElem?_cons_succ, lift_some', bnd_ret, bnd_assoc, look_some', tB, tI, hO, frz_d, frz_f, its_fresh, storeTop, storeAt, setAt, List.length_cons, List.length_nil, List.set_cons_zero, List.set_cons_succ, Nat.reduceLT, Nat.reduceAdd, Nat.reduceSub, if_true, if_false, Bool.false_eq_true, permute, hvs?, datas?, chk_true, its_rq]) (fun x hxx => by
    have hs := (hx x hxx).sm hD hD2
    have hdl : x.den ≤ D := (hx x hxx).den_le hD
    have hq : cmn xs / x.den ≤ D := Nat.le_trans (Nat.div_le_self _ _) hcD
    unfold turnOf
    simp only [exs_nil, exs_cons, ex_asg, ex_par, ex_expr, ex_ret, ex_ite, ev_var, ev_lit, ev_glob, ev_bin, ev_neg, ev_cmp, ev_chain, ev_not, ev_and, ev_or, ev_ite, ev_tup, ev_lst, ev_frz, ev_ix, ev_sl, ev_bi, ev_isi, ev_lr, ev_call, ev_mth, evs_nil, evs_cons, evO_none, evO_some, evT_none, evT_some, evI_seq, evI_r1, evI_enum, evI_zip, List.map_cons, List.map_nil, List.cons_append, List.nil_append, List.replicate, getVar, List.getElem?_cons_zero, List.getElem?_cons_succ, lift_some', bnd_ret, bnd_assoc, look_some', tB, tI, hO, frz_d, frz_f, its_fresh, storeTop, storeAt, setAt, List.length_cons, List.length_nil, List.set_cons_zero, List.set_cons_succ, Nat.reduceLT, Nat.reduceAdd, Nat.reduceSub, if_true, if_false, Bool.false_eq_true, permute, hvs?, datas?, chk_true, store2, Ev.wipe, bin_divI _ _ _ (dpos x) (Nat.lt_trans (bits_abs (k := 64) (by rw [Int.natAbs_natCast]; omega) (by decide)) (by decide))]
    rw [← Int.natCast_ediv]
    simp only [exs_nil, exs_cons, ex_asg, ex_par, ex_expr, ex_ret, ex_ite, ev_var, ev_lit, ev_glob, ev_bin, ev_neg, ev_cmp, ev_chain, ev_not, ev_and, ev_or, ev_ite, ev_tup, ev_lst, ev_frz, ev_ix, ev_sl, ev_bi, ev_isi, ev_lr, ev_call, ev_mth, evs_nil, evs_cons, evO_none, evO_some, evT_none, evT_some, evI_seq, evI_r1, evI_enum, evI_zip, List.map_cons, List.map_nil, List.cons_append, List.nil_append, List.replicate, getVar, List.getElem?_cons_zero, List.getElem?_cons_succ, lift_some', bnd_ret, bnd_assoc, look_some', tB, tI, hO, frz_d, frz_f, its_fresh, storeTop, storeAt, setAt, List.length_cons, List.length_nil, List.set_cons_zero, List.set_cons_succ, Nat.reduceLT, Nat.reduceAdd, Nat.reduceSub, if_true, if_false, Bool.false_eq_true, permute, hvs?, datas?, chk_true, bin_mulB _ _ _ hs.n' (show ((cmn xs / x.den : Nat) : Int).natAbs < 2 ^ 400000 from by
      rw [Int.natAbs_natCast]
      exact Nat.lt_of_lt_of_le (show cmn xs / x.den < 2 ^ 64 by omega) (Nat.pow_le_pow_right (by decide) (by decide)))]) (by omega)]
  simp only [exs_nil, exs_cons, ex_asg, ex_par, ex_expr, ex_ret, ex_ite, ev_var, ev_lit, ev_glob, ev_bin, ev_neg, ev_cmp, ev_chain, ev_not, ev_and, ev_or, ev_ite, ev_tup, ev_lst, ev_frz, ev_ix, ev_sl, ev_bi, ev_isi, ev_lr, ev_call, ev_mth, evs_nil, evs_cons, evO_none, evO_some, evT_none, evT_some, evI_seq, evI_r1, evI_enum, evI_zip, List.map_cons, List.map_nil, List.cons_append, List.nil_append, List.replicate, getVar, List.getElem?_cons_zero, List.getElem?_cons_succ, lift_some', bnd_ret, bnd_assoc, look_some', tB, tI, hO, frz_d, frz_f, its_fresh, storeTop, storeAt, setAt, List.length_cons, List.length_nil, List.set_cons_zero, List.set_cons_succ, Nat.reduceLT, Nat.reduceAdd, Nat.reduceSub, if_true, if_false, Bool.false_eq_true, permute, hvs?, datas?, chk_true, sumI_run, pc (made_run n _ _ (show (0 : Int) < ((cmn xs : Nat) : Int) by omega) (by
    rw [Int.natAbs_natCast]
    exact Nat.lt_of_lt_of_le (show cmn xs < 2 ^ 64 by show (xs.foldl _ 1) < _; omega) (Nat.pow_le_pow_right (by decide) (by decide)))) rfl rfl]
  exact ⟨_, rfl⟩
end Lw

set_option linter.all false
set_option Elab.async false
/-! A1: equal awards, plain. -/
namespace Lw
/-- the lesser -/
def mn (x l : Rat) : Rat := if l < x then l else x
def sumR (xs : List Rat) : Rat := xs.sum
section
variable {α : Type}
theorem sum_le {f g : α → Rat} : ∀ {xs : List α}, (∀ x ∈ xs, f x ≤ g x) → (xs.map f).sum ≤ (xs.map g).sum
  | [], _ => Rat.le_refl
  | x :: xs, h => by
    have h1 := h x List.mem_cons_self
    have h2 := sum_le fun y hy => h y (List.mem_cons_of_mem _ hy)
    simp only [List.map_cons, List.sum_cons]
    grind
theorem sum_inj {f g : α → Rat} : ∀ {xs : List α}, (∀ x ∈ xs, f x ≤ g x) → (xs.map f).sum = (xs.map g).sum → ∀ x ∈ xs, f x = g x
  | [], _, _, x, hx => nomatch hx
  | x :: xs, h, e, y, hy => by
    have h1 := h x List.mem_cons_self
    have h2 := sum_le fun y hy => h y (List.mem_cons_of_mem _ hy)
    simp only [List.map_cons, List.sum_cons] at e
    rcases List.mem_cons.mp hy with rfl | hy
    · grind
    · exact sum_inj (fun y hy => h y (List.mem_cons_of_mem _ hy)) (by grind) y hy
theorem sum_const (c : Rat) : ∀ (xs : List α), (xs.map fun _ => c).sum = (xs.length : Rat) * c
  | [] => by simp
  | x :: xs => by
    simp only [List.map_cons, List.sum_cons, sum_const c xs, List.length_cons, Rat.natCast_add]
    grind
theorem sum_sub {f g : α → Rat} : ∀ (xs : List α), (xs.map fun x => f x - g x).sum = (xs.map f).sum - (xs.map g).sum
  | [] => by
    simp
    grind
  | x :: xs => by
    simp only [List.map_cons, List.sum_cons, sum_sub xs]
    grind
theorem sum_mul {f : α → Rat} (c : Rat) : ∀ (xs : List α), (xs.map fun x => f x * c).sum = (xs.map f).sum * c
  | [] => by simp
  | x :: xs => by
    simp only [List.map_cons, List.sum_cons, sum_mul c xs]
    grind
theorem sum_nonneg {f : α → Rat} {xs : List α} (h : ∀ x ∈ xs, 0 ≤ f x) : 0 ≤ (xs.map f).sum := by
  have := sum_le (f := fun _ => (0 : Rat)) (g := f) h
  rw [sum_const] at this
  grind
theorem le_sum {f : α → Rat} : ∀ {xs : List α}, (∀ x ∈ xs, 0 ≤ f x) → ∀ x ∈ xs, f x ≤ (xs.map f).sum
  | [], _, x, hx => nomatch hx
  | x :: xs, h, y, hy => by
    have h1 := h x List.mem_cons_self
    have h2 := sum_nonneg fun y hy => h y (List.mem_cons_of_mem _ hy)
    simp only [List.map_cons, List.sum_cons]
    rcases List.mem_cons.mp hy with rfl | hy
    · grind
    · have := le_sum (fun y hy => h y (List.mem_cons_of_mem _ hy)) y hy
      grind
theorem perm_sum {xs ys : List Rat} (h : xs.Perm ys) : xs.sum = ys.sum := by
  induction h with
  | nil => rfl
  | cons x _ ih => rw [List.sum_cons, List.sum_cons, ih]
  | swap x y l =>
    simp only [List.sum_cons]
    grind
  | trans _ _ h1 h2 => rw [h1, h2]
end
def sm (ys : List Rat) (l : Rat) : Rat := (ys.map fun y => mn y l).sum
theorem mn_mono {y l k : Rat} (h : l ≤ k) : mn y l ≤ mn y k := by
  unfold mn
  grind
theorem mn_le_l (y l : Rat) : mn y l ≤ l := by
  unfold mn
  grind
theorem mn_le_y (y l : Rat) : mn y l ≤ y := by
  unfold mn
  grind
theorem mn_nonneg {y l : Rat} (hy : 0 ≤ y) (hl : 0 ≤ l) : 0 ≤ mn y l := by
  unfold mn
  grind
theorem mn_self {y l : Rat} (h : y ≤ l) : mn y l = y := by
  unfold mn
  grind
theorem mn_l {y l : Rat} (h : l ≤ y) : mn y l = l := by
  unfold mn
  grind
theorem sm_mono {ys : List Rat} {l k : Rat} (h : l ≤ k) : sm ys l ≤ sm ys k := sum_le fun _ _ => mn_mono h
theorem sm_le_len (ys : List Rat) (l : Rat) : sm ys l ≤ (ys.length : Rat) * l := by
  have := sum_le (xs := ys) (f := fun y => mn y l) (g := fun _ => l) fun y _ => mn_le_l y l
  rw [sum_const] at this
  exact this
theorem sm_le_sum (ys : List Rat) (l : Rat) : sm ys l ≤ ys.sum := by
  have := sum_le (xs := ys) (f := fun y => mn y l) (g := fun y => y) fun y _ => mn_le_y y l
  rwa [List.map_id'] at this
theorem sm_nonneg {ys : List Rat} {l : Rat} (h : ∀ y ∈ ys, 0 ≤ y) (hl : 0 ≤ l) : 0 ≤ sm ys l := sum_nonneg fun y hy => mn_nonneg (h y hy) hl
theorem sm_inj {ys : List Rat} {l k : Rat} (h : sm ys l = sm ys k) : ∀ y ∈ ys, mn y l = mn y k := by
  rcases Rat.le_total (a := l) (b := k) with c | c
  · exact sum_inj (fun y _ => mn_mono c) h
  · intro y hy
    exact (sum_inj (fun y _ => mn_mono c) h.symm y hy).symm
theorem sm_perm {xs ys : List Rat} (h : xs.Perm ys) (l : Rat) : sm xs l = sm ys l := perm_sum (h.map _)
theorem sm_full {ys : List Rat} {l : Rat} (h : sm ys l = ys.sum) : ∀ y ∈ ys, mn y l = y := by
  refine sum_inj (fun y _ => mn_le_y y l) ?_
  rw [List.map_id']
  exact h
/-! ### in sequence -/
def insR (x : Rat) (l : List Rat) : List Rat := l.take (l.countP fun y => !decide (x < y)) ++ x :: l.drop (l.countP fun y => !decide (x < y))
def sq (xs : List Rat) : List Rat := xs.foldl (fun acc x => insR x acc) []
def Up (l : List Rat) : Prop := l.Pairwise (· ≤ ·)
theorem insR_perm (x : Rat) (l : List Rat) : (insR x l).Perm (x :: l) := by
  unfold insR
  refine List.perm_middle.trans ?_
  rw [List.take_append_drop]
theorem countP_zero {x : Rat} {l : List Rat} (h : ∀ y ∈ l, x < y) : (l.countP fun y => !decide (x < y)) = 0 := by
  rw [List.countP_eq_zero]
  intro y hy
  simp [h y hy]
theorem insR_split (x : Rat) : ∀ {l : List Rat}, Up l → (∀ y ∈ l.take (l.countP fun y => !decide (x < y)), y ≤ x) ∧ ∀ y ∈ l.drop (l.countP fun y => !decide (x < y)), x < y
  | [], _ => ⟨fun y hy => by simp at hy, fun y hy => by simp at hy⟩
  | z :: l, h => by
    obtain ⟨h1, h2⟩ := List.pairwise_cons.mp h
    by_cases c : x < z
    · have e : ((z :: l).countP fun y => !decide (x < y)) = 0 := countP_zero fun y hy => by
        rcases List.mem_cons.mp hy with rfl | hy
        · exact c
        · have := h1 y hy
          grind
      rw [e]
      refine ⟨fun y hy => by simp at hy, fun y hy => ?_⟩
      rw [List.drop_zero] at hy
      rcases List.mem_cons.mp hy with rfl | hy
      · exact c
      · have := h1 y hy
        grind
    · have e : ((z :: l).countP fun y => !decide (x < y)) = (l.countP fun y => !decide (x < y)) + 1 := by
        rw [List.countP_cons_of_pos (by simp [c])]
      obtain ⟨i1, i2⟩ := insR_split x h2
      rw [e, List.take_succ_cons, List.drop_succ_cons]
      refine ⟨fun y hy => ?_, i2⟩
      rcases List.mem_cons.mp hy with rfl | hy
      · grind
      · exact i1 y hy
theorem insR_up (x : Rat) {l : List Rat} (h : Up l) : Up (insR x l) := by
  obtain ⟨i1, i2⟩ := insR_split x h
  unfold insR Up at *
  rw [List.pairwise_append]
  have h' := h
  rw [← List.take_append_drop (l.countP fun y => !decide (x < y)) l, List.pairwise_append] at h'
  refine ⟨h'.1, List.pairwise_cons.mpr ⟨fun y hy => ?_, h'.2.1⟩, fun a ha b hb => ?_⟩
  · have := i2 y hy
    grind
  · have ha2 := i1 a ha
    rcases List.mem_cons.mp hb with rfl | hb
    · exact ha2
    · have := i2 b hb
      grind
theorem sq_from : ∀ (xs acc : List Rat), Up acc → Up (xs.foldl (fun acc x => insR x acc) acc) ∧ (xs.foldl (fun acc x => insR x acc) acc).Perm (acc ++ xs)
  | [], acc, h => ⟨h, by simp⟩
  | x :: xs, acc, h => by
    obtain ⟨h1, h2⟩ := sq_from xs (insR x acc) (insR_up x h)
    refine ⟨h1, h2.trans ?_⟩
    refine ((insR_perm x acc).append_right xs).trans ?_
    exact List.perm_middle.symm
theorem sq_up (xs : List Rat) : Up (sq xs) := (sq_from xs [] List.Pairwise.nil).1
theorem sq_perm (xs : List Rat) : (sq xs).Perm xs := by
  have := (sq_from xs [] List.Pairwise.nil).2
  rwa [List.nil_append] at this
theorem sq_len (xs : List Rat) : (sq xs).length = xs.length := (sq_perm xs).length_eq
/-! ### levels -/
def lvl : List Rat → Rat → Rat
  | [], E => E
  | y :: ys, E => if y * ((ys.length + 1 : Nat) : Rat) < E then lvl ys (E - y) else E / ((ys.length + 1 : Nat) : Rat)
theorem nat_pos (n : Nat) : (0 : Rat) < ((n + 1 : Nat) : Rat) := Rat.natCast_pos.mpr (Nat.succ_pos n)
theorem div_le_of {a b c : Rat} (hb : 0 < b) (h : a ≤ c * b) : a / b ≤ c := by
  have h2 : a / b * b ≤ c * b := by
    rw [Rat.div_mul_cancel (by grind)]
    exact h
  exact Rat.le_of_mul_le_mul_right h2 hb
theorem le_div_of {a b c : Rat} (hb : 0 < b) (h : c * b ≤ a) : c ≤ a / b := by
  have h2 : c * b ≤ a / b * b := by
    rw [Rat.div_mul_cancel (by grind)]
    exact h
  exact Rat.le_of_mul_le_mul_right h2 hb
theorem lvl_spec : ∀ (ys : List Rat) (E : Rat), Up ys → (∀ y ∈ ys, 0 ≤ y) → 0 ≤ E → E ≤ ys.sum → sm ys (lvl ys E) = E ∧ 0 ≤ lvl ys E ∧ lvl ys E ≤ E
  | [], E, _, _, h1, h2 => by
    have e : E = 0 := by
      have h2 : E ≤ 0 := h2
      grind
    subst e
    exact ⟨rfl, Rat.le_refl, Rat.le_refl⟩
  | y :: ys, E, hu, hp, h1, h2 => by
    obtain ⟨u1, u2⟩ := List.pairwise_cons.mp hu
    have hy := hp y List.mem_cons_self
    have hn := nat_pos ys.length
    rw [List.sum_cons] at h2
    unfold lvl
    by_cases c : y * ((ys.length + 1 : Nat) : Rat) < E
    · rw [if_pos c]
      have e1 : ((ys.length + 1 : Nat) : Rat) = (ys.length : Rat) + 1 := by rw [Rat.natCast_add]; rfl
      have hn0 : (0 : Rat) ≤ (ys.length : Rat) := Rat.natCast_nonneg
      have hm : 0 ≤ y * (ys.length : Rat) := Rat.mul_nonneg hy hn0
      rw [e1, Rat.mul_add, Rat.mul_one] at c
      obtain ⟨i1, i2, i3⟩ := lvl_spec ys (E - y) u2 (fun z hz => hp z (List.mem_cons_of_mem _ hz)) (by grind) (by grind)
      have hle : y ≤ lvl ys (E - y) := by
        apply Rat.not_lt.mp
        intro hlt
        have h3 := sm_le_len ys (lvl ys (E - y))
        have h4 : (ys.length : Rat) * lvl ys (E - y) ≤ (ys.length : Rat) * y := Rat.mul_le_mul_of_nonneg_left (Rat.le_of_lt hlt) hn0
        grind
      refine ⟨?_, i2, by grind⟩
      show (List.map (fun z => mn z (lvl ys (E - y))) (y :: ys)).sum = E
      rw [List.map_cons, List.sum_cons]
      have : (List.map (fun z => mn z (lvl ys (E - y))) ys).sum = E - y := i1
      rw [this, mn_self hle]
      grind
    · rw [if_neg c]
      have c' : E ≤ y * ((ys.length + 1 : Nat) : Rat) := Rat.not_lt.mp c
      have hle : E / ((ys.length + 1 : Nat) : Rat) ≤ y := div_le_of hn c'
      have hge : 0 ≤ E / ((ys.length + 1 : Nat) : Rat) := le_div_of hn (by grind)
      refine ⟨?_, hge, ?_⟩
      · have e2 : sm (y :: ys) (E / ((ys.length + 1 : Nat) : Rat)) = ((y :: ys).map fun _ => E / ((ys.length + 1 : Nat) : Rat)).sum := by
          unfold sm
          congr 1
          refine List.map_congr_left fun z hz => mn_l ?_
          rcases List.mem_cons.mp hz with rfl | hz
          · exact hle
          · have := u1 z hz
            grind
        rw [e2, sum_const, List.length_cons, Rat.mul_comm, Rat.div_mul_cancel (by grind)]
      · refine div_le_of hn ?_
        have e1 : ((ys.length + 1 : Nat) : Rat) = (ys.length : Rat) + 1 := by rw [Rat.natCast_add]; rfl
        have hn0 : (0 : Rat) ≤ (ys.length : Rat) := Rat.natCast_nonneg
        have hm : 0 ≤ E * (ys.length : Rat) := Rat.mul_nonneg h1 hn0
        rw [e1, Rat.mul_add, Rat.mul_one]
        grind
end Lw

set_option linter.all false
set_option Elab.async false
/-! A2: the four rules, plain. -/
namespace Lw
inductive Ru where
  | a | l | g | p
  deriving DecidableEq
def hf (c : List Rat) : List Rat := c.map fun x => 1 / 2 * x
/-- what the rule gives one who asks x -/
def phi : Ru → List Rat → Rat → Rat → Rat
  | .a, c, E, x => mn x (lvl (sq c) E)
  | .l, c, E, x => x - mn x (lvl (sq c) (c.sum - E))
  | .g, c, E, x => if (hf c).sum < E then x - mn (1 / 2 * x) (lvl (sq (hf c)) (c.sum - E)) else mn (1 / 2 * x) (lvl (sq (hf c)) E)
  | .p, c, E, x => x * (E / c.sum)
def shr (r : Ru) (c : List Rat) (E : Rat) : List Rat := c.map (phi r c E)
theorem sum_id (c : List Rat) : (c.map fun x => x).sum = c.sum := by rw [List.map_id']
theorem lvl_sq (c : List Rat) (E : Rat) (hp : ∀ y ∈ c, 0 ≤ y) (h1 : 0 ≤ E) (h2 : E ≤ c.sum) : sm c (lvl (sq c) E) = E ∧ 0 ≤ lvl (sq c) E ∧ lvl (sq c) E ≤ E := by
  obtain ⟨i1, i2, i3⟩ := lvl_spec (sq c) E (sq_up c) (fun y hy => hp y ((sq_perm c).mem_iff.mp hy)) h1 (by rw [perm_sum (sq_perm c)]; exact h2)
  rw [sm_perm (sq_perm c)] at i1
  exact ⟨i1, i2, i3⟩
theorem hf_sum (c : List Rat) : (hf c).sum = c.sum * (1 / 2) := by
  unfold hf
  have := sum_mul (f := fun x => x) (1 / 2) c
  rw [sum_id] at this
  rw [← this]
  congr 1
  refine List.map_congr_left fun x _ => ?_
  grind
theorem hf_pos {c : List Rat} (hp : ∀ y ∈ c, 0 ≤ y) : ∀ y ∈ hf c, 0 ≤ y := by
  intro y hy
  obtain ⟨x, hx, rfl⟩ := List.mem_map.mp hy
  have := hp x hx
  grind
theorem hf_sm (c : List Rat) (l : Rat) : sm (hf c) l = (c.map fun x => mn (1 / 2 * x) l).sum := by
  unfold sm hf
  rw [List.map_map]
  rfl
structure Ok (c : List Rat) (E : Rat) : Prop where
  p : ∀ y ∈ c, 0 < y
  n : c ≠ []
  lo : 0 ≤ E
  hi : E ≤ c.sum
theorem Ok.p0 {c : List Rat} {E : Rat} (h : Ok c E) : ∀ y ∈ c, 0 ≤ y := fun y hy => Rat.le_of_lt (h.p y hy)
theorem Ok.spos {c : List Rat} {E : Rat} (h : Ok c E) : 0 < c.sum := by
  obtain ⟨x, hx⟩ := List.exists_mem_of_ne_nil _ h.n
  have h1 := le_sum (f := fun x => x) h.p0 x hx
  rw [sum_id] at h1
  have := h.p x hx
  grind
theorem div_mul (a b : Rat) (h : b ≠ 0) : a / b * b = a := Rat.div_mul_cancel h
/-- what is given together -/
theorem sh_sum (r : Ru) {c : List Rat} {E : Rat} (h : Ok c E) : (shr r c E).sum = E := by
  unfold shr
  have hs := h.spos
  have hlo := h.lo
  have hhi := h.hi
  cases r with
  | a => exact (lvl_sq c E h.p0 h.lo h.hi).1
  | l =>
    show (c.map fun x => x - mn x (lvl (sq c) (c.sum - E))).sum = E
    rw [sum_sub, sum_id]
    have : (c.map fun x => mn x (lvl (sq c) (c.sum - E))).sum = c.sum - E := (lvl_sq c (c.sum - E) h.p0 (by grind) (by grind)).1
    rw [this]
    grind
  | g =>
    have e := hf_sum c
    by_cases q : (hf c).sum < E
    · have e2 : c.map (phi .g c E) = c.map fun x => x - mn (1 / 2 * x) (lvl (sq (hf c)) (c.sum - E)) := List.map_congr_left fun x _ => by
        show (if _ then _ else _) = _
        rw [if_pos q]
      rw [e2, sum_sub, sum_id, ← hf_sm, (lvl_sq (hf c) (c.sum - E) (hf_pos h.p0) (by grind) (by grind)).1]
      grind
    · have e2 : c.map (phi .g c E) = c.map fun x => mn (1 / 2 * x) (lvl (sq (hf c)) E) := List.map_congr_left fun x _ => by
        show (if _ then _ else _) = _
        rw [if_neg q]
      rw [e2, ← hf_sm, (lvl_sq (hf c) E (hf_pos h.p0) (by grind) (by grind)).1]
  | p =>
    show (c.map fun x => x * (E / c.sum)).sum = E
    rw [sum_mul (f := fun x => x), sum_id, Rat.mul_comm, Rat.div_mul_cancel (by grind)]
theorem phi_range (r : Ru) {c : List Rat} {E : Rat} (h : Ok c E) {x : Rat} (hx : x ∈ c) : 0 ≤ phi r c E x ∧ phi r c E x ≤ x := by
  have hs := h.spos
  have hlo := h.lo
  have hhi := h.hi
  have hxp := h.p x hx
  cases r with
  | a =>
    have l0 := (lvl_sq c E h.p0 h.lo h.hi).2.1
    exact ⟨mn_nonneg (by grind) l0, mn_le_y _ _⟩
  | l =>
    have l0 := (lvl_sq c (c.sum - E) h.p0 (by grind) (by grind)).2.1
    have := mn_nonneg (y := x) (Rat.le_of_lt hxp) l0
    have := mn_le_y x (lvl (sq c) (c.sum - E))
    show 0 ≤ x - _ ∧ x - _ ≤ x
    grind
  | g =>
    have e := hf_sum c
    show 0 ≤ (if (hf c).sum < E then x - mn (1 / 2 * x) (lvl (sq (hf c)) (c.sum - E)) else mn (1 / 2 * x) (lvl (sq (hf c)) E)) ∧ (if (hf c).sum < E then x - mn (1 / 2 * x) (lvl (sq (hf c)) (c.sum - E)) else mn (1 / 2 * x) (lvl (sq (hf c)) E)) ≤ x
    by_cases q : (hf c).sum < E
    · have l0 := (lvl_sq (hf c) (c.sum - E) (hf_pos h.p0) (by grind) (by grind)).2.1
      rw [if_pos q]
      have := mn_nonneg (y := 1 / 2 * x) (by grind) l0
      have := mn_le_y (1 / 2 * x) (lvl (sq (hf c)) (c.sum - E))
      grind
    · have l0 := (lvl_sq (hf c) E (hf_pos h.p0) (by grind) (by grind)).2.1
      rw [if_neg q]
      have := mn_nonneg (y := 1 / 2 * x) (by grind) l0
      have := mn_le_y (1 / 2 * x) (lvl (sq (hf c)) E)
      grind
  | p =>
    show 0 ≤ x * (E / c.sum) ∧ x * (E / c.sum) ≤ x
    have h1 : 0 ≤ E / c.sum := le_div_of hs (by grind)
    have h2 : E / c.sum ≤ 1 := div_le_of hs (by grind)
    refine ⟨Rat.mul_nonneg (by grind) h1, ?_⟩
    have := Rat.mul_le_mul_of_nonneg_left h2 (Rat.le_of_lt hxp)
    grind
/-- those of some, who share what they got together, get the same -/
theorem sub_ok (r : Ru) {c s : List Rat} {E : Rat} (h : Ok c E) (hs : ∀ x ∈ s, x ∈ c) (hn : s ≠ []) : Ok s ((s.map (phi r c E)).sum) := by
  refine ⟨fun y hy => h.p y (hs y hy), hn, sum_nonneg fun y hy => (phi_range r h (hs y hy)).1, ?_⟩
  have := sum_le (xs := s) (f := phi r c E) (g := fun x => x) fun y hy => (phi_range r h (hs y hy)).2
  rwa [sum_id] at this
theorem consistent (r : Ru) {c s : List Rat} {E : Rat} (h : Ok c E) (hs : ∀ x ∈ s, x ∈ c) (hn : s ≠ []) : shr r s ((s.map (phi r c E)).sum) = s.map (phi r c E) := by
  have o := sub_ok r h hs hn
  have hlo := h.lo
  have hhi := h.hi
  unfold shr
  refine List.map_congr_left fun x hx => ?_
  cases r with
  | a =>
    have e := (lvl_sq s _ o.p0 o.lo o.hi).1
    exact sm_inj e x hx
  | l =>
    have e := (lvl_sq s (s.sum - (s.map (phi .l c E)).sum) o.p0 (by have := o.hi; grind) (by have := o.lo; grind)).1
    have e2 : (s.map (phi .l c E)).sum = s.sum - sm s (lvl (sq c) (c.sum - E)) := by
      show (s.map fun x => x - mn x (lvl (sq c) (c.sum - E))).sum = _
      rw [sum_sub, sum_id]
      rfl
    have e3 : sm s (lvl (sq s) (s.sum - (s.map (phi .l c E)).sum)) = sm s (lvl (sq c) (c.sum - E)) := by rw [e, e2]; grind
    have := sm_inj e3 x hx
    show x - mn x (lvl (sq s) (s.sum - (s.map (phi .l c E)).sum)) = x - mn x (lvl (sq c) (c.sum - E))
    rw [this]
  | g =>
    have hxp := o.p x hx
    have hh : 1 / 2 * x ∈ hf s := List.mem_map.mpr ⟨x, hx, rfl⟩
    have f1 := hf_sum s
    have f2 := hf_sum c
    have olo := o.lo
    have ohi := o.hi
    by_cases q : (hf c).sum < E
    · have e2 : s.map (phi .g c E) = s.map fun x => x - mn (1 / 2 * x) (lvl (sq (hf c)) (c.sum - E)) := List.map_congr_left fun x _ => by
        show (if _ then _ else _) = _
        rw [if_pos q]
      have e3 : (s.map (phi .g c E)).sum = s.sum - sm (hf s) (lvl (sq (hf c)) (c.sum - E)) := by
        rw [e2, sum_sub, sum_id, ← hf_sm]
      have b := sm_le_sum (hf s) (lvl (sq (hf c)) (c.sum - E))
      have gx : phi .g c E x = x - mn (1 / 2 * x) (lvl (sq (hf c)) (c.sum - E)) := by
        show (if _ then _ else _) = _
        rw [if_pos q]
      rw [gx]
      generalize (s.map (phi .g c E)).sum = E' at *
      show (if _ then _ else _) = _
      by_cases q2 : (hf s).sum < E'
      · rw [if_pos q2]
        have e4 := (lvl_sq (hf s) (s.sum - E') (hf_pos o.p0) (by grind) (by grind)).1
        have := sm_inj (e4.trans (show s.sum - E' = sm (hf s) (lvl (sq (hf c)) (c.sum - E)) by grind)) _ hh
        rw [this]
      · rw [if_neg q2]
        have e5 : sm (hf s) (lvl (sq (hf c)) (c.sum - E)) = (hf s).sum := by grind
        have e4 := (lvl_sq (hf s) E' (hf_pos o.p0) (by grind) (by grind)).1
        have e6 : sm (hf s) (lvl (sq (hf s)) E') = (hf s).sum := by grind
        have g1 := sm_full e5 _ hh
        have g2 := sm_full e6 _ hh
        grind
    · have e2 : s.map (phi .g c E) = s.map fun x => mn (1 / 2 * x) (lvl (sq (hf c)) E) := List.map_congr_left fun x _ => by
        show (if _ then _ else _) = _
        rw [if_neg q]
      have e3 : (s.map (phi .g c E)).sum = sm (hf s) (lvl (sq (hf c)) E) := by rw [e2, ← hf_sm]
      have b := sm_le_sum (hf s) (lvl (sq (hf c)) E)
      have gx : phi .g c E x = mn (1 / 2 * x) (lvl (sq (hf c)) E) := by
        show (if _ then _ else _) = _
        rw [if_neg q]
      rw [gx]
      generalize (s.map (phi .g c E)).sum = E' at *
      show (if _ then _ else _) = _
      rw [if_neg (by grind)]
      have e4 := (lvl_sq (hf s) E' (hf_pos o.p0) (by grind) (by grind)).1
      exact sm_inj (e4.trans e3) _ hh
  | p =>
    have ss := o.spos
    have e : (s.map (phi .p c E)).sum = s.sum * (E / c.sum) := by
      show (s.map fun x => x * (E / c.sum)).sum = _
      rw [sum_mul (f := fun x => x), sum_id]
    show x * ((s.map (phi .p c E)).sum / s.sum) = x * (E / c.sum)
    rw [e]
    congr 1
    generalize E / c.sum = z at *
    have : s.sum * z / s.sum * s.sum = z * s.sum := by rw [Rat.div_mul_cancel (by grind)]; grind
    have h2 := congrArg (fun w => w / s.sum) this
    grind
/-! ### the contested garment -/
def cg1 (x y e : Rat) : Rat := (e - mn y e) + 1 / 2 * (e - ((e - mn y e) + (e - mn x e)))
def cg2 (x y e : Rat) : Rat := (e - mn x e) + 1 / 2 * (e - ((e - mn y e) + (e - mn x e)))
theorem cg_swap (x y e : Rat) : cg2 x y e = cg1 y x e := by
  unfold cg1 cg2
  grind
theorem cg_mono {x y e k : Rat} (hx : 0 ≤ x) (hy : 0 ≤ y) (h : e ≤ k) : cg1 x y e ≤ cg1 x y k := by
  unfold cg1 mn
  grind
theorem pair_g {c : List Rat} {E : Rat} (h : Ok c E) {x y : Rat} (hx : x ∈ c) (hy : y ∈ c) : cg1 x y (phi .g c E x + phi .g c E y) = phi .g c E x ∧ cg2 x y (phi .g c E x + phi .g c E y) = phi .g c E y := by
  have hxp := h.p x hx
  have hyp := h.p y hy
  have f2 := hf_sum c
  have hlo := h.lo
  have hhi := h.hi
  by_cases q : (hf c).sum < E
  · have l0 := (lvl_sq (hf c) (c.sum - E) (hf_pos h.p0) (by grind) (by grind)).2.1
    have gx : phi .g c E x = x - mn (1 / 2 * x) (lvl (sq (hf c)) (c.sum - E)) := by
      show (if _ then _ else _) = _
      rw [if_pos q]
    have gy : phi .g c E y = y - mn (1 / 2 * y) (lvl (sq (hf c)) (c.sum - E)) := by
      show (if _ then _ else _) = _
      rw [if_pos q]
    rw [gx, gy]
    generalize lvl (sq (hf c)) (c.sum - E) = l at *
    unfold cg1 cg2 mn
    grind
  · have l0 := (lvl_sq (hf c) E (hf_pos h.p0) (by grind) (by grind)).2.1
    have gx : phi .g c E x = mn (1 / 2 * x) (lvl (sq (hf c)) E) := by
      show (if _ then _ else _) = _
      rw [if_neg q]
    have gy : phi .g c E y = mn (1 / 2 * y) (lvl (sq (hf c)) E) := by
      show (if _ then _ else _) = _
      rw [if_neg q]
    rw [gx, gy]
    generalize lvl (sq (hf c)) E = l at *
    unfold cg1 cg2 mn
    grind
theorem sums_differ : ∀ {w t : List Rat}, w.length = t.length → w.sum = t.sum → w ≠ t → (∃ (i : Nat) (x y : Rat), w[i]? = some x ∧ t[i]? = some y ∧ y < x) ∧ ∃ (j : Nat) (x y : Rat), w[j]? = some x ∧ t[j]? = some y ∧ x < y := by
  have le : ∀ {w t : List Rat}, w.length = t.length → (¬ ∃ (i : Nat) (x y : Rat), w[i]? = some x ∧ t[i]? = some y ∧ y < x) → w.sum ≤ t.sum ∧ (t.sum ≤ w.sum → w = t) := by
    intro w
    induction w with
    | nil =>
      intro t hl _
      have : t = [] := List.length_eq_zero_iff.mp hl.symm
      subst this
      exact ⟨Rat.le_refl, fun _ => rfl⟩
    | cons x w ih =>
      intro t hl hn
      cases t with
      | nil => cases hl
      | cons y t =>
        obtain ⟨i1, i2⟩ := ih (t := t) (by simpa using hl) fun ⟨i, a, b, h1, h2, h3⟩ => hn ⟨i + 1, a, b, by simpa using h1, by simpa using h2, h3⟩
        have hxy : x ≤ y := by
          apply Rat.not_lt.mp
          intro h
          exact hn ⟨0, x, y, rfl, rfl, h⟩
        rw [List.sum_cons, List.sum_cons]
        refine ⟨by grind, fun h => ?_⟩
        have e1 := i2 (by grind)
        have e2 : x = y := by
          subst e1
          grind
        rw [e1, e2]
  intro w t hl hs hne
  refine ⟨Classical.byContradiction fun hn => hne ((le hl hn).2 (by grind)), Classical.byContradiction fun hn => ?_⟩
  refine hne ((le hl.symm fun ⟨i, x, y, h1, h2, h3⟩ => hn ⟨i, y, x, h2, h1, h3⟩).2 (by grind)).symm
/-- pair by pair shared so: garment awards -/
theorem pairs_unique {c w : List Rat} {E : Rat} (h : Ok c E) (hl : w.length = c.length) (hs : w.sum = E)
    (hp : ∀ (i j : Nat) (x y a b : Rat), i < j → c[i]? = some x → c[j]? = some y → w[i]? = some a → w[j]? = some b → cg1 x y (a + b) = a ∧ cg2 x y (a + b) = b) : w = shr .g c E := by
  have hlen : (shr .g c E).length = c.length := by
    unfold shr
    rw [List.length_map]
  apply Classical.byContradiction
  intro hne
  obtain ⟨⟨i, a, b, hi1, hi2, hi3⟩, j, a2, b2, hj1, hj2, hj3⟩ := sums_differ (hl.trans hlen.symm) (hs.trans (sh_sum .g h).symm) hne
  have key : ∀ k z, (shr .g c E)[k]? = some z → ∃ x, c[k]? = some x ∧ z = phi .g c E x := fun k z hz => by
    unfold shr at hz
    rw [List.getElem?_map] at hz
    cases e : c[k]? with
    | none =>
      rw [e] at hz
      cases hz
    | some x =>
      rw [e] at hz
      exact ⟨x, e, (Option.some.inj hz).symm⟩
  obtain ⟨x, hx, rfl⟩ := key i b hi2
  obtain ⟨y, hy, rfl⟩ := key j b2 hj2
  have mx := List.mem_of_getElem? hx
  have my := List.mem_of_getElem? hy
  have px := h.p0 x mx
  have py := h.p0 y my
  have t1 := pair_g h mx my
  have w1 : cg1 x y (a + a2) = a ∧ cg2 x y (a + a2) = a2 := by
    rcases Nat.lt_trichotomy i j with c1 | c1 | c1
    · exact hp i j x y a a2 c1 hx hy hi1 hj1
    · subst c1
      rw [hi1] at hj1
      have e1 := Option.some.inj hj1
      rw [hx] at hy
      have e2 := Option.some.inj hy
      subst e1
      subst e2
      grind
    · have := hp j i y x a2 a c1 hy hx hj1 hi1
      rw [cg_swap] at this
      rw [cg_swap, Rat.add_comm]
      exact ⟨this.2, this.1⟩
  rcases Rat.le_total (a := a + a2) (b := phi .g c E x + phi .g c E y) with q | q
  · have := cg_mono px py q
    rw [w1.1, t1.1] at this
    grind
  · have := cg_mono py px q
    rw [← cg_swap, ← cg_swap, w1.2, t1.2] at this
    grind
/-! ### least amounts -/
theorem sm_lt {ys : List Rat} {l k : Rat} (h : sm ys l < sm ys k) : l < k := by
  apply Rat.not_le.mp
  intro c
  have := sm_mono (ys := ys) c
  grind
theorem least_a {c : List Rat} {E x num : Rat} (h : Ok c E) (hx : x ∈ c) (hn : num ≤ x) (hE : E = sm c num) : phi .a c E x = num := by
  have e := (lvl_sq c E h.p0 h.lo h.hi).1
  have := sm_inj (e.trans hE) x hx
  rw [mn_l hn] at this
  exact this
theorem less_a {c : List Rat} {E x num : Rat} (h : Ok c E) (hE : E < sm c num) : phi .a c E x < num := by
  have e := (lvl_sq c E h.p0 h.lo h.hi).1
  rw [← e] at hE
  have := sm_lt hE
  have h2 := mn_le_l x (lvl (sq c) E)
  show mn x _ < num
  grind
theorem least_l {c : List Rat} {E x line : Rat} (h : Ok c E) (hx : x ∈ c) (hn : line ≤ x) (hE : E = c.sum - sm c line) : phi .l c E x = x - line := by
  have hlo := h.lo
  have hhi := h.hi
  have e := (lvl_sq c (c.sum - E) h.p0 (by grind) (by grind)).1
  have := sm_inj (e.trans (show c.sum - E = sm c line by grind)) x hx
  rw [mn_l hn] at this
  show x - mn x _ = x - line
  rw [this]
theorem less_l {c : List Rat} {E x line : Rat} (h : Ok c E) (hx : x ∈ c) (hn : line < x) (hE : E < c.sum - sm c line) : phi .l c E x < x - line := by
  have hlo := h.lo
  have hhi := h.hi
  have e := (lvl_sq c (c.sum - E) h.p0 (by grind) (by grind)).1
  have h2 : line < lvl (sq c) (c.sum - E) := sm_lt (ys := c) (by rw [e]; grind)
  show x - mn x _ < x - line
  unfold mn
  grind
end Lw

set_option linter.all false
set_option Elab.async false
set_option maxRecDepth 100000
set_option maxHeartbeats 4000000
/-! N3: loops with an end of their own; sequences, levels. -/
namespace Lw
open PySem Ev
def loopS {σ δ : Type} (step : σ → δ → σ ⊕ RV) : σ → List δ → σ ⊕ RV
  | s, [] => .inl s
  | s, x :: xs => match step s x with
    | .inl s' => loopS step s' xs
    | .inr v => .inr v
def flOf {σ : Type} : σ ⊕ RV → Fl
  | .inl _ => .nx
  | .inr v => .rt v
theorem ex_for_loop {C : CallT} {env : Ev.Env} {b : List S} {σ δ : Type} {t : Tg} {it : Ev.I} (R : σ → Ev.Env → Prop) (f : δ → HV) (step : σ → δ → σ ⊕ RV) (xs : List δ) (hI : evI C it env = Ev.ret (.seq (xs.map f))) (s0 : σ) (h0 : R s0 env)
    (hs : ∀ x ∈ xs, ∀ s env, R s env → ∃ env', (bnd (lift (store t (f x) env)) fun env1 => exs C b env1) = Ev.ret (flOf (step s x), env') ∧ ∀ s', step s x = .inl s' → R s' env') :
    ∃ env', ex C (.for_ t it b) env = Ev.ret (flOf (loopS step s0 xs), env') ∧ ∀ s', loopS step s0 xs = .inl s' → R s' env' := by
  rw [ex_for, hI, bnd_ret]
  show ∃ env', forSeq (fun x env => bnd (lift (store t x env)) fun env1 => exs C b env1) (xs.map f) env = Ev.ret (flOf (loopS step s0 xs), env') ∧ _
  clear hI
  induction xs generalizing s0 env with
  | nil => exact ⟨env, rfl, fun s' e => by
      cases e
      exact h0⟩
  | cons x xs ih =>
    obtain ⟨env1, e1, r1⟩ := hs x List.mem_cons_self s0 env h0
    cases q : step s0 x with
    | inl s' =>
      rw [q] at e1
      obtain ⟨env2, e2, r2⟩ := ih s' (r1 s' q) fun y hy => hs y (List.mem_cons_of_mem _ hy)
      have el : loopS step s0 (x :: xs) = loopS step s' xs := by
        show (match step s0 x with | .inl s' => loopS step s' xs | .inr v => .inr v) = _
        rw [q]
      rw [el]
      refine ⟨env2, ?_, r2⟩
      rw [List.map_cons]
      show bnd ((fun x env => bnd (lift (store t x env)) fun env1 => exs C b env1) (f x) env) _ = _
      dsimp only
      rw [e1, bnd_ret]
      exact e2
    | inr v =>
      rw [q] at e1
      have el : loopS step s0 (x :: xs) = .inr v := by
        show (match step s0 x with | .inl s' => loopS step s' xs | .inr v => .inr v) = _
        rw [q]
      rw [el]
      refine ⟨env1, ?_, fun s' e => nomatch e⟩
      rw [List.map_cons]
      show bnd ((fun x env => bnd (lift (store t x env)) fun env1 => exs C b env1) (f x) env) _ = _
      dsimp only
      rw [e1, bnd_ret]
      rfl
theorem Gives.loop {C : CallT} {b r : List S} {env env' : Ev.Env} {v : RV} {t : Tg} {it : Ev.I} {σ : Type} {o : σ ⊕ RV} (e : ex C (.for_ t it b) env = Ev.ret (flOf o, env')) (k : match o with
    | .inl _ => Gives C r env' v
    | .inr w => w = v) : Gives C (.for_ t it b :: r) env v := by
  cases o with
  | inl s => exact Gives.go e k
  | inr w =>
    have k : w = v := k
    subst k
    exact Gives.stop e
theorem evI_r2 {C : CallT} {env : Ev.Env} {a b : E} {m n : Int} (ha : ev C a env = Ev.ret (rD (.int m))) (hb : ev C b env = Ev.ret (rD (.int n))) (h1 : -1000 ≤ m ∧ m ≤ 1000) (h2 : -1000 ≤ n ∧ n ≤ 1000) : evI C (.range2 a b) env = Ev.ret (.seq ((List.range (n - m).toNat).map fun i => I (m + (i : Nat)))) := by
  have e : evI C (.range2 a b) env = bnd (ev C a env) fun x => bnd (ev C b env) fun y => bnd (lift (toInt x)) fun m => bnd (lift (toInt y)) fun n =>
      bnd (chk (decide ((-(2 ^ 62) ≤ m ∧ m < 2 ^ 62) ∧ (-(2 ^ 62) ≤ n ∧ n < 2 ^ 62)))) fun _ => Ev.ret (.seq (rangeL m (n - m).toNat)) := nr rfl
  rw [e, ha, bnd_ret, hb, bnd_ret, tI, tI, lift_some', bnd_ret, lift_some', bnd_ret, show decide ((-(2 ^ 62) ≤ m ∧ m < 2 ^ 62) ∧ (-(2 ^ 62) ≤ n ∧ n < 2 ^ 62)) = true by rw [decide_eq_true_eq]; omega, chk_true, bnd_ret]
  rfl
theorem compLive_at {δ : Type} {turn : HV → M (Option HV)} {f g : δ → HV} {p : δ → Bool} {xs : List δ} {h : Hp} {n : Nat} (hn : h[n]? = some (.lst (xs.map f))) (hT : ∀ x ∈ xs, turn (f x) h = some (if p x then some (g x) else none, h)) :
    ∀ fuel i, i ≤ xs.length → xs.length - i < fuel → compLive turn n fuel i h = some (((xs.drop i).filter p).map g, h)
  | 0, i, _, hf => absurd hf (by omega)
  | fuel + 1, i, hi, hf => by
    unfold compLive
    simp only [hn, List.getElem?_map]
    by_cases c : i < xs.length
    · rw [List.getElem?_eq_getElem c]
      simp only [Option.map_some]
      rw [bnd_at _ (hT _ (List.getElem_mem c)), bnd_at _ (compLive_at hn hT fuel (i + 1) (by omega) (by omega)), List.drop_eq_getElem_cons c]
      cases q : p xs[i] with
      | true => rw [List.filter_cons_of_pos q]; rfl
      | false => rw [List.filter_cons_of_neg (by rw [q]; exact Bool.false_ne_true)]; rfl
    · rw [List.getElem?_eq_none (by omega), List.drop_eq_nil_of_le (by omega)]
      rfl
theorem ev_comp_live {δ : Type} {C : CallT} {env : Ev.Env} {h : Hp} {elt : E} {tg : Tg} {it : Ev.I} {test : Option E} {own : List Nat} (xs : List δ) (f g : δ → HV) (p : δ → Bool) (n : Nat) (hI : evI C it env h = some (.live n, h)) (hn : h[n]? = some (.lst (xs.map f))) (hT : ∀ x ∈ xs, turnOf C elt tg test own env (f x) h = some (if p x then some (g x) else none, h))
    (hl : xs.length ≤ 10000) : ev C (.comp elt tg it test own) env h = some (.fresh ((xs.filter p).map g), h) := by
  show bnd (evI C it env) (fun its => bnd (compV (turnOf C elt tg test own env) its) fun ys => bnd (chk (lenOk ys.length)) fun _ => Ev.ret (RV.fresh ys)) h = _
  rw [bnd_at _ hI]
  show bnd (compLive (turnOf C elt tg test own env) n 16777217 0) _ h = _
  rw [bnd_at _ (compLive_at hn hT 16777217 0 (by omega) (by omega)), List.drop_zero, List.length_map, lenOk_of (Nat.le_trans (List.length_filter_le ..) (by omega))]
  rfl
/-! ### in sequence -/
def ORq (xs : List Rat) : Ob := .lst (xs.map fun x => .d (rq x))
theorem insq_run (n : Nat) (xs : List Rat) (hx : ∀ x ∈ xs, Sm x) (hl : xs.length ≤ 100) : callN prog (n + 2) "in_sequence" [.d (.list (xs.map rq))] [] = some (.hv (.ref 0), [ORq (sq xs)]) := by
  have main : ∃ h', callN prog (n + 2) "in_sequence" [.d (.list (xs.map rq))] [] = some (.hv (.ref 0), h') ∧ h' = [ORq (sq xs)] := by
    refine call_ends (f := f_in_sequence) (by rfl) rfl ?_
    unfold f_in_sequence
    refine Ends.go (env' := [some (.d (.list (xs.map rq))), some (.ref 0), none, none]) (h' := [ORq []]) (by
      simp only [exs_nil, exs_cons, ex_asg, ex_par, ex_expr, ex_ret, ex_ite, ev_var, ev_lit, ev_glob, ev_bin, ev_neg, ev_cmp, ev_chain, ev_not, ev_and, ev_or, ev_ite, ev_tup, ev_lst, ev_frz, ev_ix, ev_sl, ev_bi, ev_isi, ev_lr, ev_call, ev_mth, evs_nil, evs_cons, evO_none, evO_some, evT_none, evT_some, evI_seq, evI_r1, evI_enum, evI_zip, List.map_cons, List.map_nil, List.cons_append, List.nil_append, List.replicate, getVar, List.getElem?_cons_zero, List.getElem?_cons_succ, lift_some', bnd_ret, bnd_assoc, look_some', tB, tI, hO, frz_d, frz_f, its_fresh, storeTop, storeAt, setAt, List.length_cons, List.length_nil, List.set_cons_zero, List.set_cons_succ, Nat.reduceLT, Nat.reduceAdd, Nat.reduceSub, if_true, if_false, Bool.false_eq_true, permute, hvs?, datas?, chk_true, ev_new, show lenOk 0 = true from rfl]
      rfl) ?_
    obtain ⟨env', h', e, ⟨a, b, rfl⟩, hh⟩ := ex_for_inv (C := callN prog (n + 1)) (t := .name 2) (it := .seq (.var 0)) (b := [.expr (.mth .insert (.var 1) [(.bi .len [(.comp (.var 3) (.name 3) (.seq (.var 1)) (some (.not (.call "r_less" true [0, 1] [(.var 2), (.var 3)]))) [3])]), (.var 2)])]) (env := [some (.d (.list (xs.map rq))), some (.ref 0), none, none]) (h := [ORq []]) (fun x => .d (rq x)) xs
      (fun k env h => (∃ a b, env = [some (.d (.list (xs.map rq))), some (.ref 0), a, b]) ∧ h = [ORq ((xs.take k).foldl (fun acc x => insR x acc) [])]) (by simp only [exs_nil, exs_cons, ex_asg, ex_par, ex_expr, ex_ret, ex_ite, ev_var, ev_lit, ev_glob, ev_bin, ev_neg, ev_cmp, ev_chain, ev_not, ev_and, ev_or, ev_ite, ev_tup, ev_lst, ev_frz, ev_ix, ev_sl, ev_bi, ev_isi, ev_lr, ev_call, ev_mth, evs_nil, evs_cons, evO_none, evO_some, evT_none, evT_some, evI_seq, evI_r1, evI_enum, evI_zip, List.map_cons, List.map_nil, List.cons_append, List.nil_append, List.replicate, getVar, List.getElem?_cons_zero, List.getElem?_cons_succ, lift_some', bnd_ret, bnd_assoc, look_some', tB, tI, hO, frz_d, frz_f, its_fresh, storeTop, storeAt, setAt, List.length_cons, List.length_nil, List.set_cons_zero, List.set_cons_succ, Nat.reduceLT, Nat.reduceAdd, Nat.reduceSub, if_true, if_false, Bool.false_eq_true, permute, hvs?, datas?, chk_true, its_rq] <;> rfl) ⟨⟨_, _, rfl⟩, rfl⟩ (fun k x env h hk ⟨⟨a, b, he⟩, hh⟩ => by
        subst he
        subst hh
        have hxm : x ∈ xs := List.mem_of_getElem? hk
        have hkl : k < xs.length := (List.getElem?_eq_some_iff.mp hk).1
        have hacc : ∀ y ∈ (xs.take k).foldl (fun acc x => insR x acc) [], y ∈ xs ∧ True := fun y hy => by
          have := ((sq_from (xs.take k) [] List.Pairwise.nil).2).mem_iff.mp hy
          rw [List.nil_append] at this
          exact ⟨List.mem_of_mem_take this, trivial⟩
        have hal : ((xs.take k).foldl (fun acc x => insR x acc) []).length ≤ 100 := by
          rw [((sq_from (xs.take k) [] List.Pairwise.nil).2).length_eq, List.nil_append, List.length_take]
          omega
        have hnext : (xs.take (k + 1)).foldl (fun acc x => insR x acc) [] = insR x ((xs.take k).foldl (fun acc x => insR x acc) []) := by
          rw [List.take_add_one, hk, List.foldl_append]
          rfl
        rw [hnext]
        generalize (xs.take k).foldl (fun acc x => insR x acc) [] = acc at *
        refine ⟨[some (.d (.list (xs.map rq))), some (.ref 0), some (.d (rq x)), b], [ORq (insR x acc)], ?_, ⟨_, _, rfl⟩, rfl⟩
        have hc := ev_comp_live (C := callN prog (n + 1)) (env := [some (.d (.list (xs.map rq))), some (.ref 0), some (.d (rq x)), b]) (h := [ORq acc]) (elt := .var 3) (tg := .name 3) (it := .seq (.var 1)) (test := some (.not (.call "r_less" true [0, 1] [(.var 2), (.var 3)]))) (own := [3]) acc (fun x => .d (rq x)) (fun x => .d (rq x)) (fun y => !decide (x < y)) 0 (by simp only [exs_nil, exs_cons, ex_asg, ex_par, ex_expr, ex_ret, ex_ite, ev_var, ev_lit, ev_glob, ev_bin, ev_neg, ev_cmp, ev_chain, ev_not, ev_and, ev_or, ev_ite, ev_tup, ev_lst, ev_frz, ev_ix, ev_sl, ev_bi, ev_isi, ev_lr, ev_call, ev_mth, evs_nil, evs_cons, evO_none, evO_some, evT_none, evT_some, evI_seq, evI_r1, evI_enum, evI_zip, List.map_cons, List.map_nil, List.cons_append, List.nil_append, List.replicate, getVar, List.getElem?_cons_zero, List.getElem?_cons_succ, lift_some', bnd_ret, bnd_assoc, look_some', tB, tI, hO, frz_d, frz_f, its_fresh, storeTop, storeAt, setAt, List.length_cons, List.length_nil, List.set_cons_zero, List.set_cons_succ, Nat.reduceLT, Nat.reduceAdd, Nat.reduceSub, if_true, if_false, Bool.false_eq_true, permute, hvs?, datas?, chk_true] <;> rfl) rfl (fun y hy => by
          unfold turnOf
          simp only [exs_nil, exs_cons, ex_asg, ex_par, ex_expr, ex_ret, ex_ite, ev_var, ev_lit, ev_glob, ev_bin, ev_neg, ev_cmp, ev_chain, ev_not, ev_and, ev_or, ev_ite, ev_tup, ev_lst, ev_frz, ev_ix, ev_sl, ev_bi, ev_isi, ev_lr, ev_call, ev_mth, evs_nil, evs_cons, evO_none, evO_some, evT_none, evT_some, evI_seq, evI_r1, evI_enum, evI_zip, List.map_cons, List.map_nil, List.cons_append, List.nil_append, List.replicate, getVar, List.getElem?_cons_zero, List.getElem?_cons_succ, lift_some', bnd_ret, bnd_assoc, look_some', tB, tI, hO, frz_d, frz_f, its_fresh, storeTop, storeAt, setAt, List.length_cons, List.length_nil, List.set_cons_zero, List.set_cons_succ, Nat.reduceLT, Nat.reduceAdd, Nat.reduceSub, if_true, if_false, Bool.false_eq_true, permute, hvs?, datas?, chk_true, store_name, Ev.wipe, pc (rless_run n (hx x hxm) (hx y (hacc y hy).1)) rfl rfl]
          cases decide (x < y) <;> rfl) (by omega)
        simp only [exs_nil, exs_cons, ex_asg, ex_par, ex_expr, ex_ret, ex_ite, ev_var, ev_lit, ev_glob, ev_bin, ev_neg, ev_cmp, ev_chain, ev_not, ev_and, ev_or, ev_ite, ev_tup, ev_lst, ev_frz, ev_ix, ev_sl, ev_bi, ev_isi, ev_lr, ev_call, ev_mth, evs_nil, evs_cons, evO_none, evO_some, evT_none, evT_some, evI_seq, evI_r1, evI_enum, evI_zip, List.map_cons, List.map_nil, List.cons_append, List.nil_append, List.replicate, getVar, List.getElem?_cons_zero, List.getElem?_cons_succ, lift_some', bnd_ret, bnd_assoc, look_some', tB, tI, hO, frz_d, frz_f, its_fresh, storeTop, storeAt, setAt, List.length_cons, List.length_nil, List.set_cons_zero, List.set_cons_succ, Nat.reduceLT, Nat.reduceAdd, Nat.reduceSub, if_true, if_false, Bool.false_eq_true, permute, hvs?, datas?, chk_true, store_name]
        rw [bnd_at _ hc]
        simp only [exs_nil, exs_cons, ex_asg, ex_par, ex_expr, ex_ret, ex_ite, ev_var, ev_lit, ev_glob, ev_bin, ev_neg, ev_cmp, ev_chain, ev_not, ev_and, ev_or, ev_ite, ev_tup, ev_lst, ev_frz, ev_ix, ev_sl, ev_bi, ev_isi, ev_lr, ev_call, ev_mth, evs_nil, evs_cons, evO_none, evO_some, evT_none, evT_some, evI_seq, evI_r1, evI_enum, evI_zip, List.map_cons, List.map_nil, List.cons_append, List.nil_append, List.replicate, getVar, List.getElem?_cons_zero, List.getElem?_cons_succ, lift_some', bnd_ret, bnd_assoc, look_some', tB, tI, hO, frz_d, frz_f, its_fresh, storeTop, storeAt, setAt, List.length_cons, List.length_nil, List.set_cons_zero, List.set_cons_succ, Nat.reduceLT, Nat.reduceAdd, Nat.reduceSub, if_true, if_false, Bool.false_eq_true, permute, hvs?, datas?, chk_true, len_fresh, List.length_map]
        have e2 : mtV .insert (.hv (.ref 0)) [rD (.int (((acc.filter fun y => !decide (x < y)).length : Nat) : Int)), rD (rq x)] [ORq acc] = some (rD .none, [ORq (insR x acc)]) := by
          have hfl := List.length_filter_le (fun y => !decide (x < y)) acc
          unfold mtV ORq
          simp only [List.getElem?_cons_zero, List.length_map]
          rw [if_pos (by
            rw [Bool.and_eq_true, decide_eq_true_eq, Nat.blt_eq]
            omega)]
          unfold insR
          rw [List.countP_eq_length_filter, Int.toNat_natCast, List.map_append, List.map_take, List.map_cons, List.map_drop]
          rfl
        rw [bnd_at _ e2]
        rfl)
    refine Ends.go e ?_
    refine Ends.ret (by simp only [exs_nil, exs_cons, ex_asg, ex_par, ex_expr, ex_ret, ex_ite, ev_var, ev_lit, ev_glob, ev_bin, ev_neg, ev_cmp, ev_chain, ev_not, ev_and, ev_or, ev_ite, ev_tup, ev_lst, ev_frz, ev_ix, ev_sl, ev_bi, ev_isi, ev_lr, ev_call, ev_mth, evs_nil, evs_cons, evO_none, evO_some, evT_none, evT_some, evI_seq, evI_r1, evI_enum, evI_zip, List.map_cons, List.map_nil, List.cons_append, List.nil_append, List.replicate, getVar, List.getElem?_cons_zero, List.getElem?_cons_succ, lift_some', bnd_ret, bnd_assoc, look_some', tB, tI, hO, frz_d, frz_f, its_fresh, storeTop, storeAt, setAt, List.length_cons, List.length_nil, List.set_cons_zero, List.set_cons_succ, Nat.reduceLT, Nat.reduceAdd, Nat.reduceSub, if_true, if_false, Bool.false_eq_true, permute, hvs?, datas?, chk_true] <;> rfl) ?_
    rw [hh, List.take_length]
    rfl
  obtain ⟨h', e, rfl⟩ := main
  exact e
theorem insq_pure (n : Nat) (xs : List Rat) (hx : ∀ x ∈ xs, Sm x) (hl : xs.length ≤ 100) : runCall (callN prog (n + 2)) "in_sequence" true [.d (.list (xs.map rq))] = Ev.ret (.fresh ((sq xs).map fun x => .d (rq x))) := by
  refine runCall_at rfl (insq_run n xs hx hl) ?_
  unfold ORq outP
  simp only [List.getElem?_cons_zero, allData_map']
theorem leastone_run (n : Nat) {x l : Rat} (hx : Sm x) (hl : Sm l) : callN prog (n + 2) "least_one" [.d (rq x), .d (rq l)] = Ev.ret (rD (rq (mn x l))) := by
  refine call_ret (f := f_least_one) (by rfl) rfl ?_
  unfold mn
  simp only [exs_nil, exs_cons, ex_asg, ex_par, ex_expr, ex_ret, ex_ite, ev_var, ev_lit, ev_glob, ev_bin, ev_neg, ev_cmp, ev_chain, ev_not, ev_and, ev_or, ev_ite, ev_tup, ev_lst, ev_frz, ev_ix, ev_sl, ev_bi, ev_isi, ev_lr, ev_call, ev_mth, evs_nil, evs_cons, evO_none, evO_some, evT_none, evT_some, evI_seq, evI_r1, evI_enum, evI_zip, List.map_cons, List.map_nil, List.cons_append, List.nil_append, List.replicate, getVar, List.getElem?_cons_zero, List.getElem?_cons_succ, lift_some', bnd_ret, bnd_assoc, look_some', tB, tI, hO, frz_d, frz_f, its_fresh, storeTop, storeAt, setAt, List.length_cons, List.length_nil, List.set_cons_zero, List.set_cons_succ, Nat.reduceLT, Nat.reduceAdd, Nat.reduceSub, if_true, if_false, Bool.false_eq_true, permute, hvs?, datas?, chk_true, f_least_one, pc (rless_run n hl hx) rfl rfl]
  by_cases c : l < x
  · simp only [exs_nil, exs_cons, ex_asg, ex_par, ex_expr, ex_ret, ex_ite, ev_var, ev_lit, ev_glob, ev_bin, ev_neg, ev_cmp, ev_chain, ev_not, ev_and, ev_or, ev_ite, ev_tup, ev_lst, ev_frz, ev_ix, ev_sl, ev_bi, ev_isi, ev_lr, ev_call, ev_mth, evs_nil, evs_cons, evO_none, evO_some, evT_none, evT_some, evI_seq, evI_r1, evI_enum, evI_zip, List.map_cons, List.map_nil, List.cons_append, List.nil_append, List.replicate, getVar, List.getElem?_cons_zero, List.getElem?_cons_succ, lift_some', bnd_ret, bnd_assoc, look_some', tB, tI, hO, frz_d, frz_f, its_fresh, storeTop, storeAt, setAt, List.length_cons, List.length_nil, List.set_cons_zero, List.set_cons_succ, Nat.reduceLT, Nat.reduceAdd, Nat.reduceSub, if_true, if_false, Bool.false_eq_true, permute, hvs?, datas?, chk_true, decide_eq_true c, if_pos c]
    exact ⟨_, rfl⟩
  · simp only [exs_nil, exs_cons, ex_asg, ex_par, ex_expr, ex_ret, ex_ite, ev_var, ev_lit, ev_glob, ev_bin, ev_neg, ev_cmp, ev_chain, ev_not, ev_and, ev_or, ev_ite, ev_tup, ev_lst, ev_frz, ev_ix, ev_sl, ev_bi, ev_isi, ev_lr, ev_call, ev_mth, evs_nil, evs_cons, evO_none, evO_some, evT_none, evT_some, evI_seq, evI_r1, evI_enum, evI_zip, List.map_cons, List.map_nil, List.cons_append, List.nil_append, List.replicate, getVar, List.getElem?_cons_zero, List.getElem?_cons_succ, lift_some', bnd_ret, bnd_assoc, look_some', tB, tI, hO, frz_d, frz_f, its_fresh, storeTop, storeAt, setAt, List.length_cons, List.length_nil, List.set_cons_zero, List.set_cons_succ, Nat.reduceLT, Nat.reduceAdd, Nat.reduceSub, if_true, if_false, Bool.false_eq_true, permute, hvs?, datas?, chk_true, decide_eq_false c, if_neg c]
    exact ⟨_, rfl⟩
/-! ### levels -/
structure Cx (D : Nat) (c : List Rat) (E : Rat) : Prop where
  D0 : 0 < D
  D1 : D < 2 ^ 40
  nc : ∀ x ∈ c, Nb D x
  nE : Nb D E
  p0 : ∀ x ∈ c, 0 ≤ x
  le : ∀ x ∈ c, x ≤ 1000
  lo : 0 ≤ E
  hi : E ≤ c.sum
  E1 : E ≤ 100000
  len : c.length ≤ 8
  ne : c ≠ []
theorem Cx.sc {D : Nat} {c : List Rat} {E : Rat} (h : Cx D c E) : ∀ x ∈ c, Sm x := fun x hx => (h.nc x hx).sm h.D0 (by have := h.D1; omega)
theorem Cx.sE {D : Nat} {c : List Rat} {E : Rat} (h : Cx D c E) : Sm E := h.nE.sm h.D0 (by have := h.D1; omega)
theorem rq_nat (n : Nat) : rq ((n : Nat) : Rat) = .tuple [.int (n : Nat), .int 1] := by
  unfold rq
  rw [Rat.num_natCast, Rat.den_natCast]
  rfl
theorem rq_int (n : Int) : rq ((n : Int) : Rat) = .tuple [.int n, .int 1] := by
  unfold rq
  rw [Rat.num_intCast, Rat.den_intCast]
  rfl
theorem nb_nat {D n : Nat} (h : n ≤ 1000000) : Nb D ((n : Nat) : Rat) := by
  have := Nb.int (D := D) (i := (n : Int)) (by omega) (by omega)
  rwa [Rat.intCast_natCast] at this
def stepV (N : Nat) (s : Rat) (p : Rat × Nat) : Rat ⊕ RV := if p.1 * ((N - p.2 : Nat) : Rat) < s then .inl (s - p.1) else .inr (rD (rq (s / ((N - p.2 : Nat) : Rat))))
theorem loop_lvl (N : Nat) : ∀ (ys : List Rat) (k : Nat) (s : Rat), k + ys.length = N → ys ≠ [] → (∀ y ∈ ys, 0 ≤ y) → s ≤ ys.sum → loopS (stepV N) s (ys.zipIdx k) = .inr (rD (rq (lvl ys s)))
  | [], _, _, _, h, _, _ => absurd rfl h
  | y :: ys, k, s, hk, _, hp, hs => by
    have e : N - k = ys.length + 1 := by
      rw [List.length_cons] at hk
      omega
    rw [List.sum_cons] at hs
    rw [List.zipIdx_cons]
    unfold loopS lvl stepV
    simp only [e]
    have hy := hp y List.mem_cons_self
    have hn := nat_pos ys.length
    by_cases c : y * ((ys.length + 1 : Nat) : Rat) < s
    · rw [if_pos c, if_pos c]
      have hne : ys ≠ [] := by
        intro q
        subst q
        have e2 : y * (([] : List Rat).length + 1 : Nat) = y := by
          show y * ((1 : Nat) : Rat) = y
          exact Rat.mul_one y
        rw [e2] at c
        have e3 : ([] : List Rat).sum = 0 := rfl
        grind
      exact loop_lvl N ys (k + 1) (s - y) (by rw [List.length_cons] at hk; omega) hne (fun z hz => hp z (List.mem_cons_of_mem _ hz)) (by grind)
    · rw [if_neg c, if_neg c]
theorem level_run (n D : Nat) {c : List Rat} {E : Rat} (h : Cx D c E) : callN prog (n + 4) "award_level" [.d (.list (c.map rq)), .d (rq E)] = Ev.ret (rD (rq (lvl (sq c) E))) := by
  have hlen := h.len
  have hsl := sq_len c
  have hD1 := h.D1
  refine call_gives (f := f_award_level) (by rfl) rfl ?_
  unfold f_award_level
  refine Gives.go (env' := [some (.d (.list (c.map rq))), some (.d (rq E)), some (.d (rq E)), some (.d (.list ((sq c).map rq))), none, none, none]) (by
    simp only [exs_nil, exs_cons, ex_asg, ex_par, ex_expr, ex_ret, ex_ite, ev_var, ev_lit, ev_glob, ev_bin, ev_neg, ev_cmp, ev_chain, ev_not, ev_and, ev_or, ev_ite, ev_tup, ev_lst, ev_frz, ev_ix, ev_sl, ev_bi, ev_isi, ev_lr, ev_call, ev_mth, evs_nil, evs_cons, evO_none, evO_some, evT_none, evT_some, evI_seq, evI_r1, evI_enum, evI_zip, List.map_cons, List.map_nil, List.cons_append, List.nil_append, List.replicate, getVar, List.getElem?_cons_zero, List.getElem?_cons_succ, lift_some', bnd_ret, bnd_assoc, look_some', tB, tI, hO, frz_d, frz_f, its_fresh, storeTop, storeAt, setAt, List.length_cons, List.length_nil, List.set_cons_zero, List.set_cons_succ, Nat.reduceLT, Nat.reduceAdd, Nat.reduceSub, if_true, if_false, Bool.false_eq_true, permute, hvs?, datas?, chk_true, ex_par, insq_pure (n + 1) c h.sc (by omega), frz_run, lk2, decide_true, Bool.and_self, List.reverse_cons, List.reverse_nil, storeAts] <;> rfl) ?_
  have hmem : ∀ y ∈ sq c, y ∈ c := fun y hy => (sq_perm c).mem_iff.mp hy
  obtain ⟨env', e, _⟩ := ex_for_loop (C := callN prog (n + 3)) (t := .tup [(.name 4), (.name 5)]) (it := .enum (.var 3)) (b := [.asg (.name 6) (.tup [(.bin .sub (.bi .len [(.var 3)]) (.var 4)), (.lit (.int 1))]), .ite (.not (.call "r_less" true [0, 1] [(.frz (.call "r_times" true [0, 1] [(.var 5), (.var 6)])), (.var 2)])) [.ret (.call "r_over" true [0, 1] [(.var 2), (.var 6)])] [], .asg (.name 2) (.frz (.call "r_minus" true [0, 1] [(.var 2), (.var 5)]))])
    (env := [some (.d (.list (c.map rq))), some (.d (rq E)), some (.d (rq E)), some (.d (.list ((sq c).map rq))), none, none, none])
    (fun (s : Rat) env => (∃ a b d, env = [some (.d (.list (c.map rq))), some (.d (rq E)), some (.d (rq s)), some (.d (.list ((sq c).map rq))), a, b, d]) ∧ Nb D s ∧ 0 ≤ s ∧ s ≤ 100000) (fun p => .d (.tuple [.int p.2, rq p.1])) (stepV (sq c).length) ((sq c).zipIdx)
    (by simp only [exs_nil, exs_cons, ex_asg, ex_par, ex_expr, ex_ret, ex_ite, ev_var, ev_lit, ev_glob, ev_bin, ev_neg, ev_cmp, ev_chain, ev_not, ev_and, ev_or, ev_ite, ev_tup, ev_lst, ev_frz, ev_ix, ev_sl, ev_bi, ev_isi, ev_lr, ev_call, ev_mth, evs_nil, evs_cons, evO_none, evO_some, evT_none, evT_some, evI_seq, evI_r1, evI_enum, evI_zip, List.map_cons, List.map_nil, List.cons_append, List.nil_append, List.replicate, getVar, List.getElem?_cons_zero, List.getElem?_cons_succ, lift_some', bnd_ret, bnd_assoc, look_some', tB, tI, hO, frz_d, frz_f, its_fresh, storeTop, storeAt, setAt, List.length_cons, List.length_nil, List.set_cons_zero, List.set_cons_succ, Nat.reduceLT, Nat.reduceAdd, Nat.reduceSub, if_true, if_false, Bool.false_eq_true, permute, hvs?, datas?, chk_true, seqD_list, enum_map]) E ⟨⟨_, _, _, rfl⟩, h.nE, h.lo, h.E1⟩ (fun p hp s env ⟨⟨a, b, d, he⟩, hs1, hs2, hs3⟩ => by
      subst he
      obtain ⟨y, i⟩ := p
      have hi : i < (sq c).length := by
        have := (List.mem_zipIdx hp).2.1
        omega
      have hyc : y ∈ c := hmem y (by
        obtain ⟨_, _, z⟩ := List.mem_zipIdx hp
        rw [z]
        exact List.getElem_mem _)
      have hy0 := h.p0 y hyc
      have hy1 := h.le y hyc
      obtain ⟨m, hm, hm1, hm8⟩ : ∃ m, (sq c).length - i = m ∧ 1 ≤ m ∧ m ≤ 8 := ⟨_, rfl, by omega, by omega⟩
      have hmR : (1 : Rat) ≤ ((m : Nat) : Rat) := by
        have := Rat.natCast_le_natCast.mpr hm1
        exact this
      have hmR8 : ((m : Nat) : Rat) ≤ 8 := by
        have := Rat.natCast_le_natCast.mpr hm8
        exact this
      have sy := h.sc y hyc
      have sm' : Sm ((m : Nat) : Rat) := (nb_nat (D := D) (by omega)).sm h.D0 (by omega)
      have ss := hs1.sm h.D0 (by omega)
      have hb1 : y * ((m : Nat) : Rat) ≤ 8000 := by
        have h1 := Rat.mul_le_mul_of_nonneg_left hmR8 hy0
        grind
      have hb0 : y ≤ y * ((m : Nat) : Rat) := by
        have h1 := Rat.mul_le_mul_of_nonneg_left hmR hy0
        grind
      have hnb : Nb (D * 1) (y * ((m : Nat) : Rat)) := (h.nc y hyc).times (nb_nat (by omega)) (by grind) (by grind)
      have sp := hnb.sm (by have := h.D0; omega) (by omega)
      have eI : (((sq c).length : Nat) : Int) - ((i : Nat) : Int) = ((m : Nat) : Int) := by omega
      have em : HV.d (.tuple [.int ((m : Nat) : Int), .int 1]) = .d (rq ((m : Nat) : Rat)) := by rw [rq_nat]
      have em2 : rD (.tuple [.int ((m : Nat) : Int), .int 1]) = rD (rq ((m : Nat) : Rat)) := by rw [rq_nat]
      show ∃ env', (bnd (lift (store (.tup [(.name 4), (.name 5)]) (.d (.tuple [.int (i : Nat), rq y])) _)) fun env1 => exs _ _ env1) = Ev.ret (flOf (stepV _ s (y, i)), env') ∧ _
      unfold stepV
      simp only [hm]
      by_cases q : y * ((m : Nat) : Rat) < s
      · rw [if_pos q]
        refine ⟨[some (.d (.list (c.map rq))), some (.d (rq E)), some (.d (rq (s - y))), some (.d (.list ((sq c).map rq))), some (I (i : Nat)), some (.d (rq y)), some (.d (rq ((m : Nat) : Rat)))], ?_, fun s' e => ?_⟩
        · simp only [exs_nil, exs_cons, ex_asg, ex_par, ex_expr, ex_ret, ex_ite, ev_var, ev_lit, ev_glob, ev_bin, ev_neg, ev_cmp, ev_chain, ev_not, ev_and, ev_or, ev_ite, ev_tup, ev_lst, ev_frz, ev_ix, ev_sl, ev_bi, ev_isi, ev_lr, ev_call, ev_mth, evs_nil, evs_cons, evO_none, evO_some, evT_none, evT_some, evI_seq, evI_r1, evI_enum, evI_zip, List.map_cons, List.map_nil, List.cons_append, List.nil_append, List.replicate, getVar, List.getElem?_cons_zero, List.getElem?_cons_succ, lift_some', bnd_ret, bnd_assoc, look_some', tB, tI, hO, frz_d, frz_f, its_fresh, storeTop, storeAt, setAt, List.length_cons, List.length_nil, List.set_cons_zero, List.set_cons_succ, Nat.reduceLT, Nat.reduceAdd, Nat.reduceSub, if_true, if_false, Bool.false_eq_true, permute, hvs?, datas?, chk_true, store2, len_list, List.length_map, bin_subI, eI, lk2, em, em2, pc (rtimes_run (n + 1) sy sm') rfl rfl, pc (rless_run (n + 2) sp ss) rfl rfl, decide_eq_true q, Bool.not_true, pc (rminus_run (n + 1) ss sy) rfl rfl]
          rfl
        · cases e
          exact ⟨⟨_, _, _, rfl⟩, hs1.sub (h.nc y hyc) (by grind) (by grind), by grind, by grind⟩
      · rw [if_neg q]
        refine ⟨[some (.d (.list (c.map rq))), some (.d (rq E)), some (.d (rq s)), some (.d (.list ((sq c).map rq))), some (I (i : Nat)), some (.d (rq y)), some (.d (rq ((m : Nat) : Rat)))], ?_, fun s' e => nomatch e⟩
        · simp only [exs_nil, exs_cons, ex_asg, ex_par, ex_expr, ex_ret, ex_ite, ev_var, ev_lit, ev_glob, ev_bin, ev_neg, ev_cmp, ev_chain, ev_not, ev_and, ev_or, ev_ite, ev_tup, ev_lst, ev_frz, ev_ix, ev_sl, ev_bi, ev_isi, ev_lr, ev_call, ev_mth, evs_nil, evs_cons, evO_none, evO_some, evT_none, evT_some, evI_seq, evI_r1, evI_enum, evI_zip, List.map_cons, List.map_nil, List.cons_append, List.nil_append, List.replicate, getVar, List.getElem?_cons_zero, List.getElem?_cons_succ, lift_some', bnd_ret, bnd_assoc, look_some', tB, tI, hO, frz_d, frz_f, its_fresh, storeTop, storeAt, setAt, List.length_cons, List.length_nil, List.set_cons_zero, List.set_cons_succ, Nat.reduceLT, Nat.reduceAdd, Nat.reduceSub, if_true, if_false, Bool.false_eq_true, permute, hvs?, datas?, chk_true, store2, len_list, List.length_map, bin_subI, eI, lk2, em, em2, pc (rtimes_run (n + 1) sy sm') rfl rfl, pc (rless_run (n + 2) sp ss) rfl rfl, decide_eq_false q, Bool.not_false, pc (rover_run (n + 1) ss sm' (by grind)) rfl rfl]
          rfl)
  have hne : sq c ≠ [] := fun q => h.ne (by
    have := sq_perm c
    rw [q] at this
    exact this.symm.eq_nil)
  rw [loop_lvl _ (sq c) 0 E (by omega) hne (fun y hy => h.p0 y (hmem y hy)) (by rw [perm_sum (sq_perm c)]; exact h.hi)] at e
  exact Gives.loop e rfl
end Lw

set_option linter.all false
set_option Elab.async false
set_option maxRecDepth 100000
set_option maxHeartbeats 4000000
/-! N4: the rules. -/
namespace Lw
open PySem Ev
def Ru.name : Ru → Str
  | .a => "awards"
  | .l => "losses"
  | .g => "garment"
  | .p => "parts"
theorem nb_zero {D : Nat} : Nb D 0 := Nb.int (D := D) (i := 0) (by omega) (by omega)
theorem dvd840' : ∀ m, m < 9 → 1 ≤ m → m ∣ 840 := by decide
theorem dvd840 (m : Nat) (h : 1 ≤ m) (h2 : m ≤ 8) : m ∣ 840 := dvd840' m (by omega) h
theorem lvl_nb (D : Nat) : ∀ (ys : List Rat) (s : Rat), ys.length ≤ 8 → (∀ y ∈ ys, Nb D y ∧ 0 ≤ y) → Nb D s → 0 ≤ s → s ≤ 100000 → Nb (D * 840) (lvl ys s)
  | [], s, _, _, h, _, _ => h.mul
  | y :: ys, s, hl, hy, hs, h0, h1 => by
    rw [List.length_cons] at hl
    obtain ⟨y1, y0⟩ := hy y List.mem_cons_self
    have hn := nat_pos ys.length
    have hR : (1 : Rat) ≤ ((ys.length + 1 : Nat) : Rat) := by
      have := Rat.natCast_le_natCast.mpr (show 1 ≤ ys.length + 1 by omega)
      exact this
    unfold lvl
    by_cases c : y * ((ys.length + 1 : Nat) : Rat) < s
    · rw [if_pos c]
      have hb0 : y ≤ y * ((ys.length + 1 : Nat) : Rat) := by
        have h1 := Rat.mul_le_mul_of_nonneg_left hR y0
        grind
      exact lvl_nb D ys (s - y) (by omega) (fun z hz => hy z (List.mem_cons_of_mem _ hz)) (hs.sub y1 (by grind) (by grind)) (by grind) (by grind)
    · rw [if_neg c]
      have l0 : 0 ≤ s / ((ys.length + 1 : Nat) : Rat) := le_div_of hn (by grind)
      have l1 : s / ((ys.length + 1 : Nat) : Rat) ≤ s := div_le_of hn (by
        have := Rat.mul_le_mul_of_nonneg_left hR h0
        grind)
      exact (Nb.over (n := ys.length + 1) (by omega) hs (by grind) (by grind)).dvd (Nat.mul_dvd_mul_left D (dvd840 _ (by omega) (by omega)))
theorem Cx.lv {D : Nat} {c : List Rat} {E : Rat} (h : Cx D c E) : Nb (D * 840) (lvl (sq c) E) ∧ 0 ≤ lvl (sq c) E ∧ lvl (sq c) E ≤ E := by
  obtain ⟨_, i2, i3⟩ := lvl_sq c E h.p0 h.lo h.hi
  refine ⟨lvl_nb D (sq c) E (by rw [sq_len]; exact h.len) (fun y hy => ?_) h.nE h.lo h.E1, i2, i3⟩
  have hy := (sq_perm c).mem_iff.mp hy
  exact ⟨h.nc y hy, h.p0 y hy⟩
theorem Cx.slv {D : Nat} {c : List Rat} {E : Rat} (h : Cx D c E) : Sm (lvl (sq c) E) := h.lv.1.sm (by have := h.D0; omega) (by have := h.D1; omega)
theorem mn_cases (x l : Rat) : mn x l = x ∨ mn x l = l := by
  unfold mn
  split
  · exact .inr rfl
  · exact .inl rfl
theorem mn_nb {D : Nat} {x l : Rat} (hx : Nb D x) (hl : Nb D l) : Nb D (mn x l) := by
  rcases mn_cases x l with e | e <;> rw [e] <;> assumption
theorem its_map (c : List Rat) (f : Rat → Rat) (h : Hp) : itsOf h (rD (.list (c.map fun x => rq (f x)))) = some (.seq (c.map fun x => .d (rq (f x)))) := its_run c (fun x => rq (f x)) h
theorem awardsby_run (n D : Nat) {c : List Rat} {E : Rat} (h : Cx D c E) : callN prog (n + 5) "awards_by" [.d (.list (c.map rq)), .d (rq E)] = Ev.ret (.fresh (c.map fun x => .d (rq (mn x (lvl (sq c) E))))) := by
  have hl := h.len
  refine call_ret (f := f_awards_by) (by rfl) rfl ?_
  simp only [exs_nil, exs_cons, ex_asg, ex_par, ex_expr, ex_ret, ex_ite, ev_var, ev_lit, ev_glob, ev_bin, ev_neg, ev_cmp, ev_chain, ev_not, ev_and, ev_or, ev_ite, ev_tup, ev_lst, ev_frz, ev_ix, ev_sl, ev_bi, ev_isi, ev_lr, ev_call, ev_mth, evs_nil, evs_cons, evO_none, evO_some, evT_none, evT_some, evI_seq, evI_r1, evI_enum, evI_zip, List.map_cons, List.map_nil, List.cons_append, List.nil_append, List.replicate, getVar, List.getElem?_cons_zero, List.getElem?_cons_succ, lift_some', bnd_ret, bnd_assoc, look_some', tB, tI, hO, frz_d, frz_f, its_fresh, storeTop, storeAt, setAt, List.length_cons, List.length_nil, List.set_cons_zero, List.set_cons_succ, Nat.reduceLT, Nat.reduceAdd, Nat.reduceSub, if_true, if_false, Bool.false_eq_true, permute, hvs?, datas?, chk_true, f_awards_by, pc (level_run n D h) rfl rfl]
  rw [ev_compM c (fun x => .d (rq x)) (fun x => .d (rq (mn x (lvl (sq c) E)))) (by simp only [exs_nil, exs_cons, ex_asg, ex_par, ex_expr, ex_ret, ex_ite, ev_var, ev_lit, ev_glob, ev_bin, ev_neg, ev_cmp, ev_chain, ev_not, ev_and, ev_or, ev_ite, ev_tup, ev_lst, ev_frz, ev_ix, ev_sl, ev_bi, ev_isi, ev_lr, ev_call, ev_mth, evs_nil, evs_cons, evO_none, evO_some, evT_none, evT_some, evI_seq, evI_r1, evI_enum, evI_zip, List.map_cons, List.map_nil, List.cons_append, List.nil_append, List.replicate, getVar, List.getElem?_cons_zero, List.getElem?_cons_succ, lift_some', bnd_ret, bnd_assoc, look_some', tB, tI, hO, frz_d, frz_f, its_fresh, storeTop, storeAt, setAt, List.length_cons, List.length_nil, List.set_cons_zero, List.set_cons_succ, Nat.reduceLT, Nat.reduceAdd, Nat.reduceSub, if_true, if_false, Bool.false_eq_true, permute, hvs?, datas?, chk_true, its_rq]) (fun x hx => by
    unfold turnOf
    simp only [exs_nil, exs_cons, ex_asg, ex_par, ex_expr, ex_ret, ex_ite, ev_var, ev_lit, ev_glob, ev_bin, ev_neg, ev_cmp, ev_chain, ev_not, ev_and, ev_or, ev_ite, ev_tup, ev_lst, ev_frz, ev_ix, ev_sl, ev_bi, ev_isi, ev_lr, ev_call, ev_mth, evs_nil, evs_cons, evO_none, evO_some, evT_none, evT_some, evI_seq, evI_r1, evI_enum, evI_zip, List.map_cons, List.map_nil, List.cons_append, List.nil_append, List.replicate, getVar, List.getElem?_cons_zero, List.getElem?_cons_succ, lift_some', bnd_ret, bnd_assoc, look_some', tB, tI, hO, frz_d, frz_f, its_fresh, storeTop, storeAt, setAt, List.length_cons, List.length_nil, List.set_cons_zero, List.set_cons_succ, Nat.reduceLT, Nat.reduceAdd, Nat.reduceSub, if_true, if_false, Bool.false_eq_true, permute, hvs?, datas?, chk_true, store_name, Ev.wipe, pc (leastone_run (n + 2) (h.sc x hx) h.slv) rfl rfl]) (by omega)]
  simp only [exs_nil, exs_cons, ex_asg, ex_par, ex_expr, ex_ret, ex_ite, ev_var, ev_lit, ev_glob, ev_bin, ev_neg, ev_cmp, ev_chain, ev_not, ev_and, ev_or, ev_ite, ev_tup, ev_lst, ev_frz, ev_ix, ev_sl, ev_bi, ev_isi, ev_lr, ev_call, ev_mth, evs_nil, evs_cons, evO_none, evO_some, evT_none, evT_some, evI_seq, evI_r1, evI_enum, evI_zip, List.map_cons, List.map_nil, List.cons_append, List.nil_append, List.replicate, getVar, List.getElem?_cons_zero, List.getElem?_cons_succ, lift_some', bnd_ret, bnd_assoc, look_some', tB, tI, hO, frz_d, frz_f, its_fresh, storeTop, storeAt, setAt, List.length_cons, List.length_nil, List.set_cons_zero, List.set_cons_succ, Nat.reduceLT, Nat.reduceAdd, Nat.reduceSub, if_true, if_false, Bool.false_eq_true, permute, hvs?, datas?, chk_true]
  exact ⟨_, rfl⟩
theorem restby_run (n : Nat) (c : List Rat) (f : Rat → Rat) (hl : c.length ≤ 100) (h1 : ∀ x ∈ c, Sm x ∧ Sm (f x)) : callN prog (n + 3) "rest_by" [.d (.list (c.map rq)), .d (.list (c.map fun x => rq (f x)))] = Ev.ret (.fresh (c.map fun x => .d (rq (x - f x)))) := by
  refine call_ret (f := f_rest_by) (by rfl) rfl ?_
  simp only [exs_nil, exs_cons, ex_asg, ex_par, ex_expr, ex_ret, ex_ite, ev_var, ev_lit, ev_glob, ev_bin, ev_neg, ev_cmp, ev_chain, ev_not, ev_and, ev_or, ev_ite, ev_tup, ev_lst, ev_frz, ev_ix, ev_sl, ev_bi, ev_isi, ev_lr, ev_call, ev_mth, evs_nil, evs_cons, evO_none, evO_some, evT_none, evT_some, evI_seq, evI_r1, evI_enum, evI_zip, List.map_cons, List.map_nil, List.cons_append, List.nil_append, List.replicate, getVar, List.getElem?_cons_zero, List.getElem?_cons_succ, lift_some', bnd_ret, bnd_assoc, look_some', tB, tI, hO, frz_d, frz_f, its_fresh, storeTop, storeAt, setAt, List.length_cons, List.length_nil, List.set_cons_zero, List.set_cons_succ, Nat.reduceLT, Nat.reduceAdd, Nat.reduceSub, if_true, if_false, Bool.false_eq_true, permute, hvs?, datas?, chk_true, f_rest_by]
  rw [ev_compM c (fun x => .d (.tuple [rq x, rq (f x)])) (fun x => .d (rq (x - f x))) (by simp only [exs_nil, exs_cons, ex_asg, ex_par, ex_expr, ex_ret, ex_ite, ev_var, ev_lit, ev_glob, ev_bin, ev_neg, ev_cmp, ev_chain, ev_not, ev_and, ev_or, ev_ite, ev_tup, ev_lst, ev_frz, ev_ix, ev_sl, ev_bi, ev_isi, ev_lr, ev_call, ev_mth, evs_nil, evs_cons, evO_none, evO_some, evT_none, evT_some, evI_seq, evI_r1, evI_enum, evI_zip, List.map_cons, List.map_nil, List.cons_append, List.nil_append, List.replicate, getVar, List.getElem?_cons_zero, List.getElem?_cons_succ, lift_some', bnd_ret, bnd_assoc, look_some', tB, tI, hO, frz_d, frz_f, its_fresh, storeTop, storeAt, setAt, List.length_cons, List.length_nil, List.set_cons_zero, List.set_cons_succ, Nat.reduceLT, Nat.reduceAdd, Nat.reduceSub, if_true, if_false, Bool.false_eq_true, permute, hvs?, datas?, chk_true, seqD_list, zipL_map]) (fun x hx => by
    unfold turnOf
    simp only [exs_nil, exs_cons, ex_asg, ex_par, ex_expr, ex_ret, ex_ite, ev_var, ev_lit, ev_glob, ev_bin, ev_neg, ev_cmp, ev_chain, ev_not, ev_and, ev_or, ev_ite, ev_tup, ev_lst, ev_frz, ev_ix, ev_sl, ev_bi, ev_isi, ev_lr, ev_call, ev_mth, evs_nil, evs_cons, evO_none, evO_some, evT_none, evT_some, evI_seq, evI_r1, evI_enum, evI_zip, List.map_cons, List.map_nil, List.cons_append, List.nil_append, List.replicate, getVar, List.getElem?_cons_zero, List.getElem?_cons_succ, lift_some', bnd_ret, bnd_assoc, look_some', tB, tI, hO, frz_d, frz_f, its_fresh, storeTop, storeAt, setAt, List.length_cons, List.length_nil, List.set_cons_zero, List.set_cons_succ, Nat.reduceLT, Nat.reduceAdd, Nat.reduceSub, if_true, if_false, Bool.false_eq_true, permute, hvs?, datas?, chk_true, store2, Ev.wipe, pc (rminus_run n (h1 x hx).1 (h1 x hx).2) rfl rfl]) (by omega)]
  simp only [exs_nil, exs_cons, ex_asg, ex_par, ex_expr, ex_ret, ex_ite, ev_var, ev_lit, ev_glob, ev_bin, ev_neg, ev_cmp, ev_chain, ev_not, ev_and, ev_or, ev_ite, ev_tup, ev_lst, ev_frz, ev_ix, ev_sl, ev_bi, ev_isi, ev_lr, ev_call, ev_mth, evs_nil, evs_cons, evO_none, evO_some, evT_none, evT_some, evI_seq, evI_r1, evI_enum, evI_zip, List.map_cons, List.map_nil, List.cons_append, List.nil_append, List.replicate, getVar, List.getElem?_cons_zero, List.getElem?_cons_succ, lift_some', bnd_ret, bnd_assoc, look_some', tB, tI, hO, frz_d, frz_f, its_fresh, storeTop, storeAt, setAt, List.length_cons, List.length_nil, List.set_cons_zero, List.set_cons_succ, Nat.reduceLT, Nat.reduceAdd, Nat.reduceSub, if_true, if_false, Bool.false_eq_true, permute, hvs?, datas?, chk_true]
  exact ⟨_, rfl⟩
/-! ### what is asked -/
def cR (as : List Int) : List Rat := as.map fun a => ((a : Int) : Rat)
structure Ax (as : List Int) : Prop where
  l1 : 1 ≤ as.length
  l8 : as.length ≤ 8
  rg : ∀ a ∈ as, 1 ≤ a ∧ a ≤ 99
structure Sx (D : Nat) (as : List Int) (E : Rat) : Prop where
  ax : Ax as
  D0 : 0 < D
  D2 : 2 ∣ D
  D1 : D < 2 ^ 38
  nE : Nb D E
  lo : 0 ≤ E
  hi : E ≤ (cR as).sum
theorem cR_sum : ∀ (as : List Int), (cR as).sum = ((as.sum : Int) : Rat)
  | [] => rfl
  | a :: as => by
    have := cR_sum as
    unfold cR at *
    rw [List.map_cons, List.sum_cons, List.sum_cons, this, Rat.intCast_add]
theorem Ax.sum_le {as : List Int} : (∀ a ∈ as, 1 ≤ a ∧ a ≤ 99) → as.sum ≤ 99 * (as.length : Int) ∧ (as.length : Int) ≤ as.sum := by
  induction as with
  | nil => exact fun _ => ⟨by simp, by simp⟩
  | cons a as ih =>
    intro h
    have h1 := h a List.mem_cons_self
    have h2 := ih fun b hb => h b (List.mem_cons_of_mem _ hb)
    rw [List.sum_cons, List.length_cons]
    omega
theorem mem_cR {as : List Int} {x : Rat} (hx : x ∈ cR as) : ∃ a ∈ as, x = ((a : Int) : Rat) := by
  obtain ⟨a, ha, e⟩ := List.mem_map.mp hx
  exact ⟨a, ha, e.symm⟩
theorem Ax.elt {as : List Int} (h : Ax as) {x : Rat} (hx : x ∈ cR as) : 1 ≤ x ∧ x ≤ 99 ∧ ∀ D, Nb D x := by
  obtain ⟨a, ha, rfl⟩ := mem_cR hx
  obtain ⟨h1, h2⟩ := h.rg a ha
  have e1 := Rat.intCast_le_intCast.mpr h1
  have e2 := Rat.intCast_le_intCast.mpr h2
  exact ⟨e1, e2, fun D => Nb.int (by omega) (by omega)⟩
theorem Ax.ne {as : List Int} (h : Ax as) : cR as ≠ [] := by
  intro e
  have := congrArg List.length e
  unfold cR at this
  rw [List.length_map, List.length_nil] at this
  have := h.l1
  omega
theorem Ax.s792 {as : List Int} (h : Ax as) : (cR as).sum ≤ 792 ∧ 1 ≤ (cR as).sum := by
  obtain ⟨h1, h2⟩ := Ax.sum_le h.rg
  have := h.l8
  have := h.l1
  rw [cR_sum]
  have e1 := Rat.intCast_le_intCast.mpr (show as.sum ≤ 792 by omega)
  have e2 := Rat.intCast_le_intCast.mpr (show 1 ≤ as.sum by omega)
  exact ⟨e1, e2⟩
theorem cR_len (as : List Int) : (cR as).length = as.length := by
  unfold cR
  rw [List.length_map]
theorem Sx.ok {D : Nat} {as : List Int} {E : Rat} (h : Sx D as E) : Ok (cR as) E := ⟨fun y hy => by
  have := (h.ax.elt hy).1
  grind, h.ax.ne, h.lo, h.hi⟩
theorem Sx.nS {D : Nat} {as : List Int} {E : Rat} (h : Sx D as E) (F : Nat) : Nb F (cR as).sum := by
  have := h.ax.s792
  obtain ⟨h1, h2⟩ := Ax.sum_le h.ax.rg
  have := h.ax.l8
  have := h.ax.l1
  rw [cR_sum]
  exact Nb.int (by omega) (by omega)
theorem Sx.cx {D : Nat} {as : List Int} {E : Rat} (h : Sx D as E) : Cx D (cR as) E := by
  have s := h.ax.s792
  have := h.hi
  exact ⟨h.D0, by have := h.D1; omega, fun x hx => (h.ax.elt hx).2.2 D, h.nE, fun x hx => by have := (h.ax.elt hx).1; grind, fun x hx => by have := (h.ax.elt hx).2.1; grind, h.lo, h.hi, by grind, by rw [cR_len]; exact h.ax.l8, h.ax.ne⟩
theorem Sx.rest {D : Nat} {as : List Int} {E : Rat} (h : Sx D as E) : Sx D as ((cR as).sum - E) := by
  have s := h.ax.s792
  have := h.hi
  have := h.lo
  exact ⟨h.ax, h.D0, h.D2, h.D1, (h.nS D).sub h.nE (by grind) (by grind), by grind, by grind⟩
theorem half_nb {D : Nat} (h2 : 2 ∣ D) {a : Int} (h : 0 ≤ a ∧ a ≤ 100000) : Nb D (1 / 2 * ((a : Int) : Rat)) := by
  obtain ⟨F, rfl⟩ := h2
  have e1 := Rat.intCast_le_intCast.mpr h.1
  have e2 := Rat.intCast_le_intCast.mpr h.2
  have e1 : (0 : Rat) ≤ ((a : Int) : Rat) := e1
  have e2 : ((a : Int) : Rat) ≤ 100000 := e2
  refine ⟨⟨a * F, ?_⟩, by grind, by grind⟩
  rw [Rat.intCast_mul, Rat.intCast_natCast, Rat.natCast_mul]
  have : ((2 : Nat) : Rat) = 2 := rfl
  rw [this]
  grind
theorem Sx.hcx {D : Nat} {as : List Int} {E : Rat} (h : Sx D as E) (hh : E ≤ (hf (cR as)).sum) : Cx D (hf (cR as)) E := by
  have s := h.ax.s792
  have := h.hi
  have hm : ∀ x ∈ hf (cR as), Nb D x ∧ 0 ≤ x ∧ x ≤ 1000 := fun x hx => by
    obtain ⟨y, hy, rfl⟩ := List.mem_map.mp hx
    obtain ⟨a, ha, rfl⟩ := mem_cR hy
    obtain ⟨r1, r2⟩ := h.ax.rg a ha
    obtain ⟨e1, e2, _⟩ := h.ax.elt hy
    exact ⟨half_nb h.D2 (by omega), by grind, by grind⟩
  exact ⟨h.D0, by have := h.D1; omega, fun x hx => (hm x hx).1, h.nE, fun x hx => (hm x hx).2.1, fun x hx => (hm x hx).2.2, h.lo, hh, by grind, by unfold hf; rw [List.length_map, cR_len]; exact h.ax.l8, by
    intro e
    unfold hf at e
    exact h.ax.ne (List.map_eq_nil_iff.mp e)⟩
theorem asratios_run (n : Nat) (as : List Int) (hl : as.length ≤ 100) : callN prog (n + 1) "as_ratios" [.d (T as)] = Ev.ret (.fresh ((cR as).map fun x => .d (rq x))) := by
  refine call_ret (f := f_as_ratios) (by rfl) rfl ?_
  simp only [exs_nil, exs_cons, ex_asg, ex_par, ex_expr, ex_ret, ex_ite, ev_var, ev_lit, ev_glob, ev_bin, ev_neg, ev_cmp, ev_chain, ev_not, ev_and, ev_or, ev_ite, ev_tup, ev_lst, ev_frz, ev_ix, ev_sl, ev_bi, ev_isi, ev_lr, ev_call, ev_mth, evs_nil, evs_cons, evO_none, evO_some, evT_none, evT_some, evI_seq, evI_r1, evI_enum, evI_zip, List.map_cons, List.map_nil, List.cons_append, List.nil_append, List.replicate, getVar, List.getElem?_cons_zero, List.getElem?_cons_succ, lift_some', bnd_ret, bnd_assoc, look_some', tB, tI, hO, frz_d, frz_f, its_fresh, storeTop, storeAt, setAt, List.length_cons, List.length_nil, List.set_cons_zero, List.set_cons_succ, Nat.reduceLT, Nat.reduceAdd, Nat.reduceSub, if_true, if_false, Bool.false_eq_true, permute, hvs?, datas?, chk_true, f_as_ratios]
  rw [ev_compM as (fun a => I a) (fun a => .d (rq ((a : Int) : Rat))) (by simp only [exs_nil, exs_cons, ex_asg, ex_par, ex_expr, ex_ret, ex_ite, ev_var, ev_lit, ev_glob, ev_bin, ev_neg, ev_cmp, ev_chain, ev_not, ev_and, ev_or, ev_ite, ev_tup, ev_lst, ev_frz, ev_ix, ev_sl, ev_bi, ev_isi, ev_lr, ev_call, ev_mth, evs_nil, evs_cons, evO_none, evO_some, evT_none, evT_some, evI_seq, evI_r1, evI_enum, evI_zip, List.map_cons, List.map_nil, List.cons_append, List.nil_append, List.replicate, getVar, List.getElem?_cons_zero, List.getElem?_cons_succ, lift_some', bnd_ret, bnd_assoc, look_some', tB, tI, hO, frz_d, frz_f, its_fresh, storeTop, storeAt, setAt, List.length_cons, List.length_nil, List.set_cons_zero, List.set_cons_succ, Nat.reduceLT, Nat.reduceAdd, Nat.reduceSub, if_true, if_false, Bool.false_eq_true, permute, hvs?, datas?, chk_true, itsT_run]) (fun a _ => by
    unfold turnOf
    rw [rq_int]
    simp only [exs_nil, exs_cons, ex_asg, ex_par, ex_expr, ex_ret, ex_ite, ev_var, ev_lit, ev_glob, ev_bin, ev_neg, ev_cmp, ev_chain, ev_not, ev_and, ev_or, ev_ite, ev_tup, ev_lst, ev_frz, ev_ix, ev_sl, ev_bi, ev_isi, ev_lr, ev_call, ev_mth, evs_nil, evs_cons, evO_none, evO_some, evT_none, evT_some, evI_seq, evI_r1, evI_enum, evI_zip, List.map_cons, List.map_nil, List.cons_append, List.nil_append, List.replicate, getVar, List.getElem?_cons_zero, List.getElem?_cons_succ, lift_some', bnd_ret, bnd_assoc, look_some', tB, tI, hO, frz_d, frz_f, its_fresh, storeTop, storeAt, setAt, List.length_cons, List.length_nil, List.set_cons_zero, List.set_cons_succ, Nat.reduceLT, Nat.reduceAdd, Nat.reduceSub, if_true, if_false, Bool.false_eq_true, permute, hvs?, datas?, chk_true, store_name, Ev.wipe, lk2]) (by omega)]
  unfold cR
  rw [List.map_map]
  exact ⟨_, rfl⟩
theorem missing_run (n D : Nat) {as : List Int} {E : Rat} (h : Sx D as E) : callN prog (n + 3) "missing_of" [.d (.list ((cR as).map rq)), .d (rq E)] = Ev.ret (rD (rq ((cR as).sum - E))) := by
  have h1 := h.D1
  have h0 := h.D0
  refine call_ret (f := f_missing_of) (by rfl) rfl ?_
  simp only [exs_nil, exs_cons, ex_asg, ex_par, ex_expr, ex_ret, ex_ite, ev_var, ev_lit, ev_glob, ev_bin, ev_neg, ev_cmp, ev_chain, ev_not, ev_and, ev_or, ev_ite, ev_tup, ev_lst, ev_frz, ev_ix, ev_sl, ev_bi, ev_isi, ev_lr, ev_call, ev_mth, evs_nil, evs_cons, evO_none, evO_some, evT_none, evT_some, evI_seq, evI_r1, evI_enum, evI_zip, List.map_cons, List.map_nil, List.cons_append, List.nil_append, List.replicate, getVar, List.getElem?_cons_zero, List.getElem?_cons_succ, lift_some', bnd_ret, bnd_assoc, look_some', tB, tI, hO, frz_d, frz_f, its_fresh, storeTop, storeAt, setAt, List.length_cons, List.length_nil, List.set_cons_zero, List.set_cons_succ, Nat.reduceLT, Nat.reduceAdd, Nat.reduceSub, if_true, if_false, Bool.false_eq_true, permute, hvs?, datas?, chk_true, f_missing_of, pc (rtotal_run n D h.D0 (by omega) (cR as) h.cx.nc (by rw [cR_len]; have := h.ax.l8; omega)) rfl rfl, pc (rminus_run n ((h.nS D).sm h.D0 (by omega)) h.cx.sE) rfl rfl]
  exact ⟨_, rfl⟩
theorem map_hf (c : List Rat) : (c.map fun x => rq (1 / 2 * x)) = (hf c).map rq := by
  unfold hf
  rw [List.map_map]
  rfl
theorem half_n : (1 / 2 : Rat).num = 1 := by decide +kernel
theorem half_d : (1 / 2 : Rat).den = 2 := by decide +kernel
theorem half_rat : rq (1 / 2) = .tuple [.int 1, .int 2] := by
  unfold rq
  rw [half_n, half_d]
  rfl
theorem sm_half : Sm (1 / 2) := ⟨by rw [half_n]; decide, by rw [half_d]; decide⟩
theorem garments_run (n D : Nat) {as : List Int} {E : Rat} (h : Sx D as E) : callN prog (n + 6) "garments_by" [.d (.list ((cR as).map rq)), .d (rq E)] = Ev.ret (.fresh ((cR as).map fun x => .d (rq (phi .g (cR as) E x)))) := by
  have h1 := h.D1
  have h0 := h.D0
  have hl8 := h.ax.l8
  have hlen := cR_len as
  have s := h.ax.s792
  have hlo := h.lo
  have hhi := h.hi
  have hsum := hf_sum (cR as)
  refine call_gives (f := f_garments_by) (by rfl) rfl ?_
  unfold f_garments_by
  have hnc : ∀ x ∈ hf (cR as), Nb D x := by
    intro x hx
    obtain ⟨y, hy, rfl⟩ := List.mem_map.mp hx
    obtain ⟨a, ha, rfl⟩ := mem_cR hy
    have := h.ax.rg a ha
    exact half_nb h.D2 (by omega)
  refine Gives.go (env' := [some (.d (.list ((cR as).map rq))), some (.d (rq E)), some (.d (.list ((hf (cR as)).map rq))), none]) (by
    simp only [exs_nil, exs_cons, ex_asg, ex_par, ex_expr, ex_ret, ex_ite, ev_var, ev_lit, ev_glob, ev_bin, ev_neg, ev_cmp, ev_chain, ev_not, ev_and, ev_or, ev_ite, ev_tup, ev_lst, ev_frz, ev_ix, ev_sl, ev_bi, ev_isi, ev_lr, ev_call, ev_mth, evs_nil, evs_cons, evO_none, evO_some, evT_none, evT_some, evI_seq, evI_r1, evI_enum, evI_zip, List.map_cons, List.map_nil, List.cons_append, List.nil_append, List.replicate, getVar, List.getElem?_cons_zero, List.getElem?_cons_succ, lift_some', bnd_ret, bnd_assoc, look_some', tB, tI, hO, frz_d, frz_f, its_fresh, storeTop, storeAt, setAt, List.length_cons, List.length_nil, List.set_cons_zero, List.set_cons_succ, Nat.reduceLT, Nat.reduceAdd, Nat.reduceSub, if_true, if_false, Bool.false_eq_true, permute, hvs?, datas?, chk_true]
    rw [ev_compM (cR as) (fun x => .d (rq x)) (fun x => .d (rq (1 / 2 * x))) (by simp only [exs_nil, exs_cons, ex_asg, ex_par, ex_expr, ex_ret, ex_ite, ev_var, ev_lit, ev_glob, ev_bin, ev_neg, ev_cmp, ev_chain, ev_not, ev_and, ev_or, ev_ite, ev_tup, ev_lst, ev_frz, ev_ix, ev_sl, ev_bi, ev_isi, ev_lr, ev_call, ev_mth, evs_nil, evs_cons, evO_none, evO_some, evT_none, evT_some, evI_seq, evI_r1, evI_enum, evI_zip, List.map_cons, List.map_nil, List.cons_append, List.nil_append, List.replicate, getVar, List.getElem?_cons_zero, List.getElem?_cons_succ, lift_some', bnd_ret, bnd_assoc, look_some', tB, tI, hO, frz_d, frz_f, its_fresh, storeTop, storeAt, setAt, List.length_cons, List.length_nil, List.set_cons_zero, List.set_cons_succ, Nat.reduceLT, Nat.reduceAdd, Nat.reduceSub, if_true, if_false, Bool.false_eq_true, permute, hvs?, datas?, chk_true, its_rq]) (fun x hx => by
      unfold turnOf
      rw [← half_rat]
      simp only [exs_nil, exs_cons, ex_asg, ex_par, ex_expr, ex_ret, ex_ite, ev_var, ev_lit, ev_glob, ev_bin, ev_neg, ev_cmp, ev_chain, ev_not, ev_and, ev_or, ev_ite, ev_tup, ev_lst, ev_frz, ev_ix, ev_sl, ev_bi, ev_isi, ev_lr, ev_call, ev_mth, evs_nil, evs_cons, evO_none, evO_some, evT_none, evT_some, evI_seq, evI_r1, evI_enum, evI_zip, List.map_cons, List.map_nil, List.cons_append, List.nil_append, List.replicate, getVar, List.getElem?_cons_zero, List.getElem?_cons_succ, lift_some', bnd_ret, bnd_assoc, look_some', tB, tI, hO, frz_d, frz_f, its_fresh, storeTop, storeAt, setAt, List.length_cons, List.length_nil, List.set_cons_zero, List.set_cons_succ, Nat.reduceLT, Nat.reduceAdd, Nat.reduceSub, if_true, if_false, Bool.false_eq_true, permute, hvs?, datas?, chk_true, store_name, Ev.wipe, pc (rtimes_run (n + 3) sm_half (h.cx.sc x hx)) rfl rfl]) (by omega)]
    simp only [exs_nil, exs_cons, ex_asg, ex_par, ex_expr, ex_ret, ex_ite, ev_var, ev_lit, ev_glob, ev_bin, ev_neg, ev_cmp, ev_chain, ev_not, ev_and, ev_or, ev_ite, ev_tup, ev_lst, ev_frz, ev_ix, ev_sl, ev_bi, ev_isi, ev_lr, ev_call, ev_mth, evs_nil, evs_cons, evO_none, evO_some, evT_none, evT_some, evI_seq, evI_r1, evI_enum, evI_zip, List.map_cons, List.map_nil, List.cons_append, List.nil_append, List.replicate, getVar, List.getElem?_cons_zero, List.getElem?_cons_succ, lift_some', bnd_ret, bnd_assoc, look_some', tB, tI, hO, frz_d, frz_f, its_fresh, storeTop, storeAt, setAt, List.length_cons, List.length_nil, List.set_cons_zero, List.set_cons_succ, Nat.reduceLT, Nat.reduceAdd, Nat.reduceSub, if_true, if_false, Bool.false_eq_true, permute, hvs?, datas?, chk_true, frz_run, map_hf]) ?_
  have hnS : Nb D (hf (cR as)).sum := by
    rw [hsum, cR_sum]
    have := half_nb (D := D) h.D2 (a := as.sum) (by
      obtain ⟨q1, q2⟩ := Ax.sum_le h.ax.rg
      omega)
    rwa [Rat.mul_comm] at this
  have htot := pc (rtotal_run (n + 3) D h0 (by omega) (hf (cR as)) hnc (by unfold hf; rw [List.length_map]; omega)) rfl rfl
  have hless := pc (rless_run (n + 4) (hnS.sm h0 (by omega)) h.cx.sE) rfl rfl
  by_cases q : (hf (cR as)).sum < E
  · refine Gives.go (env' := [some (.d (.list ((cR as).map rq))), some (.d (rq E)), some (.d (.list ((hf (cR as)).map rq))), none]) (by
      simp only [exs_nil, exs_cons, ex_asg, ex_par, ex_expr, ex_ret, ex_ite, ev_var, ev_lit, ev_glob, ev_bin, ev_neg, ev_cmp, ev_chain, ev_not, ev_and, ev_or, ev_ite, ev_tup, ev_lst, ev_frz, ev_ix, ev_sl, ev_bi, ev_isi, ev_lr, ev_call, ev_mth, evs_nil, evs_cons, evO_none, evO_some, evT_none, evT_some, evI_seq, evI_r1, evI_enum, evI_zip, List.map_cons, List.map_nil, List.cons_append, List.nil_append, List.replicate, getVar, List.getElem?_cons_zero, List.getElem?_cons_succ, lift_some', bnd_ret, bnd_assoc, look_some', tB, tI, hO, frz_d, frz_f, its_fresh, storeTop, storeAt, setAt, List.length_cons, List.length_nil, List.set_cons_zero, List.set_cons_succ, Nat.reduceLT, Nat.reduceAdd, Nat.reduceSub, if_true, if_false, Bool.false_eq_true, permute, hvs?, datas?, chk_true, htot, hless, decide_eq_true q, Bool.not_true]) ?_
    have hc := (h.rest).hcx (by grind)
    have e1 : (cR as).map (fun x => HV.d (rq (phi .g (cR as) E x))) = (cR as).map (fun x => HV.d (rq (x - mn (1 / 2 * x) (lvl (sq (hf (cR as))) ((cR as).sum - E))))) := List.map_congr_left fun x _ => by
      show HV.d (rq (if _ then _ else _)) = _
      rw [if_pos q]
    rw [e1]
    have e2 : ((hf (cR as)).map fun x => HV.d (rq (mn x (lvl (sq (hf (cR as))) ((cR as).sum - E))))) = (cR as).map fun x => HV.d (rq (mn (1 / 2 * x) (lvl (sq (hf (cR as))) ((cR as).sum - E)))) := by
      show ((cR as).map fun x => 1 / 2 * x).map _ = _
      rw [List.map_map]
      rfl
    refine Gives.ret (by
      simp only [exs_nil, exs_cons, ex_asg, ex_par, ex_expr, ex_ret, ex_ite, ev_var, ev_lit, ev_glob, ev_bin, ev_neg, ev_cmp, ev_chain, ev_not, ev_and, ev_or, ev_ite, ev_tup, ev_lst, ev_frz, ev_ix, ev_sl, ev_bi, ev_isi, ev_lr, ev_call, ev_mth, evs_nil, evs_cons, evO_none, evO_some, evT_none, evT_some, evI_seq, evI_r1, evI_enum, evI_zip, List.map_cons, List.map_nil, List.cons_append, List.nil_append, List.replicate, getVar, List.getElem?_cons_zero, List.getElem?_cons_succ, lift_some', bnd_ret, bnd_assoc, look_some', tB, tI, hO, frz_d, frz_f, its_fresh, storeTop, storeAt, setAt, List.length_cons, List.length_nil, List.set_cons_zero, List.set_cons_succ, Nat.reduceLT, Nat.reduceAdd, Nat.reduceSub, if_true, if_false, Bool.false_eq_true, permute, hvs?, datas?, chk_true, pc (missing_run (n + 2) D h) rfl rfl, pc (awardsby_run n D hc) rfl (outOk_map _ _), e2, frz_run, pc (restby_run (n + 2) (cR as) (fun x => mn (1 / 2 * x) (lvl (sq (hf (cR as))) ((cR as).sum - E))) (by omega) (fun x hx => ⟨h.cx.sc x hx, by
        rcases mn_cases (1 / 2 * x) (lvl (sq (hf (cR as))) ((cR as).sum - E)) with e | e <;> rw [e]
        · exact (hnc _ (List.mem_map.mpr ⟨x, hx, rfl⟩)).sm h0 (by omega)
        · exact hc.slv⟩)) rfl (outOk_map _ _)])
  · have hc := h.hcx (Rat.not_lt.mp q)
    have e1 : (cR as).map (fun x => HV.d (rq (phi .g (cR as) E x))) = (hf (cR as)).map (fun x => HV.d (rq (mn x (lvl (sq (hf (cR as))) E)))) := by
      show _ = ((cR as).map fun x => 1 / 2 * x).map _
      rw [List.map_map]
      refine List.map_congr_left fun x _ => ?_
      show HV.d (rq (if _ then _ else _)) = _
      rw [if_neg q]
      rfl
    rw [e1]
    refine Gives.stop (env' := [some (.d (.list ((cR as).map rq))), some (.d (rq E)), some (.d (.list ((hf (cR as)).map rq))), none]) (by
      simp only [exs_nil, exs_cons, ex_asg, ex_par, ex_expr, ex_ret, ex_ite, ev_var, ev_lit, ev_glob, ev_bin, ev_neg, ev_cmp, ev_chain, ev_not, ev_and, ev_or, ev_ite, ev_tup, ev_lst, ev_frz, ev_ix, ev_sl, ev_bi, ev_isi, ev_lr, ev_call, ev_mth, evs_nil, evs_cons, evO_none, evO_some, evT_none, evT_some, evI_seq, evI_r1, evI_enum, evI_zip, List.map_cons, List.map_nil, List.cons_append, List.nil_append, List.replicate, getVar, List.getElem?_cons_zero, List.getElem?_cons_succ, lift_some', bnd_ret, bnd_assoc, look_some', tB, tI, hO, frz_d, frz_f, its_fresh, storeTop, storeAt, setAt, List.length_cons, List.length_nil, List.set_cons_zero, List.set_cons_succ, Nat.reduceLT, Nat.reduceAdd, Nat.reduceSub, if_true, if_false, Bool.false_eq_true, permute, hvs?, datas?, chk_true, htot, hless, decide_eq_false q, Bool.not_false, pc (awardsby_run n D hc) rfl (outOk_map _ _)])
end Lw

set_option linter.all false
set_option Elab.async false
set_option maxRecDepth 100000
set_option maxHeartbeats 4000000
/-! N5: looks, what is shared. -/
namespace Lw
open PySem Ev
theorem seq_str (h : Hp) (a b : String) : cmpV h .eq (rD (.str (Str.ofString a))) (rD (.str (Str.ofString b))) = some (Str.ofString a == Str.ofString b) := eq_str (so_string a) (so_string b)
theorem b_la : (Str.ofString "losses" == Str.ofString "awards") = false := by decide +kernel
theorem b_ga : (Str.ofString "garment" == Str.ofString "awards") = false := by decide +kernel
theorem b_gl : (Str.ofString "garment" == Str.ofString "losses") = false := by decide +kernel
theorem b_pa : (Str.ofString "parts" == Str.ofString "awards") = false := by decide +kernel
theorem b_pl : (Str.ofString "parts" == Str.ofString "losses") = false := by decide +kernel
theorem b_pg : (Str.ofString "parts" == Str.ofString "garment") = false := by decide +kernel
theorem map_eta {δ : Type} (xs : List δ) (g : δ → PyData) : (xs.map fun x => g x) = xs.map g := rfl
theorem sharedby_run (r : Ru) (n D : Nat) {as : List Int} {E : Rat} (h : Sx D as E) : callN prog (n + 7) "shared_by" [.d (.str r.name), .d (.list ((cR as).map rq)), .d (rq E)] = Ev.ret (.fresh ((cR as).map fun x => .d (rq (phi r (cR as) E x)))) := by
  have h1 := h.D1
  have h0 := h.D0
  have hl8 := h.ax.l8
  have hlen := cR_len as
  refine call_gives (f := f_shared_by) (by rfl) rfl ?_
  unfold f_shared_by
  cases r with
  | a =>
    simp only [Ru.name]
    refine Gives.stop (env' := [some (.d (.str "awards")), some (.d (.list ((cR as).map rq))), some (.d (rq E)), none, none]) (by
      simp only [exs_nil, exs_cons, ex_asg, ex_par, ex_expr, ex_ret, ex_ite, ev_var, ev_lit, ev_glob, ev_bin, ev_neg, ev_cmp, ev_chain, ev_not, ev_and, ev_or, ev_ite, ev_tup, ev_lst, ev_frz, ev_ix, ev_sl, ev_bi, ev_isi, ev_lr, ev_call, ev_mth, evs_nil, evs_cons, evO_none, evO_some, evT_none, evT_some, evI_seq, evI_r1, evI_enum, evI_zip, List.map_cons, List.map_nil, List.cons_append, List.nil_append, List.replicate, getVar, List.getElem?_cons_zero, List.getElem?_cons_succ, lift_some', bnd_ret, bnd_assoc, look_some', tB, tI, hO, frz_d, frz_f, its_fresh, storeTop, storeAt, setAt, List.length_cons, List.length_nil, List.set_cons_zero, List.set_cons_succ, Nat.reduceLT, Nat.reduceAdd, Nat.reduceSub, if_true, if_false, Bool.false_eq_true, permute, hvs?, datas?, chk_true, seq_str, beq_self_eq_true, pc (awardsby_run (n + 1) D h.cx) rfl (outOk_map _ _)] <;> rfl)
  | l =>
    simp only [Ru.name]
    refine Gives.go (env' := [some (.d (.str "losses")), some (.d (.list ((cR as).map rq))), some (.d (rq E)), none, none]) (by
      simp only [exs_nil, exs_cons, ex_asg, ex_par, ex_expr, ex_ret, ex_ite, ev_var, ev_lit, ev_glob, ev_bin, ev_neg, ev_cmp, ev_chain, ev_not, ev_and, ev_or, ev_ite, ev_tup, ev_lst, ev_frz, ev_ix, ev_sl, ev_bi, ev_isi, ev_lr, ev_call, ev_mth, evs_nil, evs_cons, evO_none, evO_some, evT_none, evT_some, evI_seq, evI_r1, evI_enum, evI_zip, List.map_cons, List.map_nil, List.cons_append, List.nil_append, List.replicate, getVar, List.getElem?_cons_zero, List.getElem?_cons_succ, lift_some', bnd_ret, bnd_assoc, look_some', tB, tI, hO, frz_d, frz_f, its_fresh, storeTop, storeAt, setAt, List.length_cons, List.length_nil, List.set_cons_zero, List.set_cons_succ, Nat.reduceLT, Nat.reduceAdd, Nat.reduceSub, if_true, if_false, Bool.false_eq_true, permute, hvs?, datas?, chk_true, seq_str, b_la] <;> rfl) ?_
    have hr := h.rest.cx
    refine Gives.stop (env' := [some (.d (.str "losses")), some (.d (.list ((cR as).map rq))), some (.d (rq E)), none, none]) (by
      simp only [exs_nil, exs_cons, ex_asg, ex_par, ex_expr, ex_ret, ex_ite, ev_var, ev_lit, ev_glob, ev_bin, ev_neg, ev_cmp, ev_chain, ev_not, ev_and, ev_or, ev_ite, ev_tup, ev_lst, ev_frz, ev_ix, ev_sl, ev_bi, ev_isi, ev_lr, ev_call, ev_mth, evs_nil, evs_cons, evO_none, evO_some, evT_none, evT_some, evI_seq, evI_r1, evI_enum, evI_zip, List.map_cons, List.map_nil, List.cons_append, List.nil_append, List.replicate, getVar, List.getElem?_cons_zero, List.getElem?_cons_succ, lift_some', bnd_ret, bnd_assoc, look_some', tB, tI, hO, frz_d, frz_f, its_fresh, storeTop, storeAt, setAt, List.length_cons, List.length_nil, List.set_cons_zero, List.set_cons_succ, Nat.reduceLT, Nat.reduceAdd, Nat.reduceSub, if_true, if_false, Bool.false_eq_true, permute, hvs?, datas?, chk_true, seq_str, beq_self_eq_true, pc (missing_run (n + 3) D h) rfl rfl, pc (awardsby_run (n + 1) D hr) rfl (outOk_map _ _), frz_run, pc (restby_run (n + 3) (cR as) (fun x => mn x (lvl (sq (cR as)) ((cR as).sum - E))) (by omega) (fun x hx => ⟨h.cx.sc x hx, by
        rcases mn_cases x (lvl (sq (cR as)) ((cR as).sum - E)) with e | e <;> rw [e]
        · exact h.cx.sc x hx
        · exact hr.slv⟩)) rfl (outOk_map _ _)] <;> rfl)
  | g =>
    simp only [Ru.name]
    refine Gives.go (env' := [some (.d (.str "garment")), some (.d (.list ((cR as).map rq))), some (.d (rq E)), none, none]) (by
      simp only [exs_nil, exs_cons, ex_asg, ex_par, ex_expr, ex_ret, ex_ite, ev_var, ev_lit, ev_glob, ev_bin, ev_neg, ev_cmp, ev_chain, ev_not, ev_and, ev_or, ev_ite, ev_tup, ev_lst, ev_frz, ev_ix, ev_sl, ev_bi, ev_isi, ev_lr, ev_call, ev_mth, evs_nil, evs_cons, evO_none, evO_some, evT_none, evT_some, evI_seq, evI_r1, evI_enum, evI_zip, List.map_cons, List.map_nil, List.cons_append, List.nil_append, List.replicate, getVar, List.getElem?_cons_zero, List.getElem?_cons_succ, lift_some', bnd_ret, bnd_assoc, look_some', tB, tI, hO, frz_d, frz_f, its_fresh, storeTop, storeAt, setAt, List.length_cons, List.length_nil, List.set_cons_zero, List.set_cons_succ, Nat.reduceLT, Nat.reduceAdd, Nat.reduceSub, if_true, if_false, Bool.false_eq_true, permute, hvs?, datas?, chk_true, seq_str, b_ga] <;> rfl) ?_
    refine Gives.go (env' := [some (.d (.str "garment")), some (.d (.list ((cR as).map rq))), some (.d (rq E)), none, none]) (by
      simp only [exs_nil, exs_cons, ex_asg, ex_par, ex_expr, ex_ret, ex_ite, ev_var, ev_lit, ev_glob, ev_bin, ev_neg, ev_cmp, ev_chain, ev_not, ev_and, ev_or, ev_ite, ev_tup, ev_lst, ev_frz, ev_ix, ev_sl, ev_bi, ev_isi, ev_lr, ev_call, ev_mth, evs_nil, evs_cons, evO_none, evO_some, evT_none, evT_some, evI_seq, evI_r1, evI_enum, evI_zip, List.map_cons, List.map_nil, List.cons_append, List.nil_append, List.replicate, getVar, List.getElem?_cons_zero, List.getElem?_cons_succ, lift_some', bnd_ret, bnd_assoc, look_some', tB, tI, hO, frz_d, frz_f, its_fresh, storeTop, storeAt, setAt, List.length_cons, List.length_nil, List.set_cons_zero, List.set_cons_succ, Nat.reduceLT, Nat.reduceAdd, Nat.reduceSub, if_true, if_false, Bool.false_eq_true, permute, hvs?, datas?, chk_true, seq_str, b_gl] <;> rfl) ?_
    refine Gives.stop (env' := [some (.d (.str "garment")), some (.d (.list ((cR as).map rq))), some (.d (rq E)), none, none]) (by
      simp only [exs_nil, exs_cons, ex_asg, ex_par, ex_expr, ex_ret, ex_ite, ev_var, ev_lit, ev_glob, ev_bin, ev_neg, ev_cmp, ev_chain, ev_not, ev_and, ev_or, ev_ite, ev_tup, ev_lst, ev_frz, ev_ix, ev_sl, ev_bi, ev_isi, ev_lr, ev_call, ev_mth, evs_nil, evs_cons, evO_none, evO_some, evT_none, evT_some, evI_seq, evI_r1, evI_enum, evI_zip, List.map_cons, List.map_nil, List.cons_append, List.nil_append, List.replicate, getVar, List.getElem?_cons_zero, List.getElem?_cons_succ, lift_some', bnd_ret, bnd_assoc, look_some', tB, tI, hO, frz_d, frz_f, its_fresh, storeTop, storeAt, setAt, List.length_cons, List.length_nil, List.set_cons_zero, List.set_cons_succ, Nat.reduceLT, Nat.reduceAdd, Nat.reduceSub, if_true, if_false, Bool.false_eq_true, permute, hvs?, datas?, chk_true, seq_str, beq_self_eq_true, pc (garments_run n D h) rfl (outOk_map _ _)] <;> rfl)
  | p =>
    simp only [Ru.name]
    refine Gives.go (env' := [some (.d (.str "parts")), some (.d (.list ((cR as).map rq))), some (.d (rq E)), none, none]) (by
      simp only [exs_nil, exs_cons, ex_asg, ex_par, ex_expr, ex_ret, ex_ite, ev_var, ev_lit, ev_glob, ev_bin, ev_neg, ev_cmp, ev_chain, ev_not, ev_and, ev_or, ev_ite, ev_tup, ev_lst, ev_frz, ev_ix, ev_sl, ev_bi, ev_isi, ev_lr, ev_call, ev_mth, evs_nil, evs_cons, evO_none, evO_some, evT_none, evT_some, evI_seq, evI_r1, evI_enum, evI_zip, List.map_cons, List.map_nil, List.cons_append, List.nil_append, List.replicate, getVar, List.getElem?_cons_zero, List.getElem?_cons_succ, lift_some', bnd_ret, bnd_assoc, look_some', tB, tI, hO, frz_d, frz_f, its_fresh, storeTop, storeAt, setAt, List.length_cons, List.length_nil, List.set_cons_zero, List.set_cons_succ, Nat.reduceLT, Nat.reduceAdd, Nat.reduceSub, if_true, if_false, Bool.false_eq_true, permute, hvs?, datas?, chk_true, seq_str, b_pa] <;> rfl) ?_
    refine Gives.go (env' := [some (.d (.str "parts")), some (.d (.list ((cR as).map rq))), some (.d (rq E)), none, none]) (by
      simp only [exs_nil, exs_cons, ex_asg, ex_par, ex_expr, ex_ret, ex_ite, ev_var, ev_lit, ev_glob, ev_bin, ev_neg, ev_cmp, ev_chain, ev_not, ev_and, ev_or, ev_ite, ev_tup, ev_lst, ev_frz, ev_ix, ev_sl, ev_bi, ev_isi, ev_lr, ev_call, ev_mth, evs_nil, evs_cons, evO_none, evO_some, evT_none, evT_some, evI_seq, evI_r1, evI_enum, evI_zip, List.map_cons, List.map_nil, List.cons_append, List.nil_append, List.replicate, getVar, List.getElem?_cons_zero, List.getElem?_cons_succ, lift_some', bnd_ret, bnd_assoc, look_some', tB, tI, hO, frz_d, frz_f, its_fresh, storeTop, storeAt, setAt, List.length_cons, List.length_nil, List.set_cons_zero, List.set_cons_succ, Nat.reduceLT, Nat.reduceAdd, Nat.reduceSub, if_true, if_false, Bool.false_eq_true, permute, hvs?, datas?, chk_true, seq_str, b_pl] <;> rfl) ?_
    refine Gives.go (env' := [some (.d (.str "parts")), some (.d (.list ((cR as).map rq))), some (.d (rq E)), none, none]) (by
      simp only [exs_nil, exs_cons, ex_asg, ex_par, ex_expr, ex_ret, ex_ite, ev_var, ev_lit, ev_glob, ev_bin, ev_neg, ev_cmp, ev_chain, ev_not, ev_and, ev_or, ev_ite, ev_tup, ev_lst, ev_frz, ev_ix, ev_sl, ev_bi, ev_isi, ev_lr, ev_call, ev_mth, evs_nil, evs_cons, evO_none, evO_some, evT_none, evT_some, evI_seq, evI_r1, evI_enum, evI_zip, List.map_cons, List.map_nil, List.cons_append, List.nil_append, List.replicate, getVar, List.getElem?_cons_zero, List.getElem?_cons_succ, lift_some', bnd_ret, bnd_assoc, look_some', tB, tI, hO, frz_d, frz_f, its_fresh, storeTop, storeAt, setAt, List.length_cons, List.length_nil, List.set_cons_zero, List.set_cons_succ, Nat.reduceLT, Nat.reduceAdd, Nat.reduceSub, if_true, if_false, Bool.false_eq_true, permute, hvs?, datas?, chk_true, seq_str, b_pg] <;> rfl) ?_
    have s := h.ax.s792
    have hlo := h.lo
    have hhi := h.hi
    have sS : Sm (cR as).sum := (h.nS D).sm h0 (by omega)
    have hq0 : 0 ≤ E / (cR as).sum := le_div_of (by grind) (by grind)
    have hq1 : E / (cR as).sum ≤ 1 := div_le_of (by grind) (by grind)
    obtain ⟨N, hN, hN1, hN2⟩ : ∃ N : Nat, (cR as).sum = ((N : Nat) : Rat) ∧ 0 < N ∧ N ≤ 792 := by
      obtain ⟨q1, q2⟩ := Ax.sum_le h.ax.rg
      have := h.ax.l1
      refine ⟨as.sum.toNat, ?_, by omega, by omega⟩
      rw [cR_sum, ← Rat.intCast_natCast]
      congr 1
      omega
    have sq' : Sm (E / (cR as).sum) := by
      have := Nb.over (n := N) hN1 h.nE (by rw [← hN]; grind) (by rw [← hN]; grind)
      rw [← hN] at this
      exact this.sm (Nat.mul_pos h0 hN1) (by
        have : D * N ≤ D * 792 := Nat.mul_le_mul_left D hN2
        omega)
    refine Gives.go (env' := [some (.d (.str "parts")), some (.d (.list ((cR as).map rq))), some (.d (rq E)), some (.d (rq (E / (cR as).sum))), none]) (by
      simp only [exs_nil, exs_cons, ex_asg, ex_par, ex_expr, ex_ret, ex_ite, ev_var, ev_lit, ev_glob, ev_bin, ev_neg, ev_cmp, ev_chain, ev_not, ev_and, ev_or, ev_ite, ev_tup, ev_lst, ev_frz, ev_ix, ev_sl, ev_bi, ev_isi, ev_lr, ev_call, ev_mth, evs_nil, evs_cons, evO_none, evO_some, evT_none, evT_some, evI_seq, evI_r1, evI_enum, evI_zip, List.map_cons, List.map_nil, List.cons_append, List.nil_append, List.replicate, getVar, List.getElem?_cons_zero, List.getElem?_cons_succ, lift_some', bnd_ret, bnd_assoc, look_some', tB, tI, hO, frz_d, frz_f, its_fresh, storeTop, storeAt, setAt, List.length_cons, List.length_nil, List.set_cons_zero, List.set_cons_succ, Nat.reduceLT, Nat.reduceAdd, Nat.reduceSub, if_true, if_false, Bool.false_eq_true, permute, hvs?, datas?, chk_true, pc (rtotal_run (n + 4) D h.D0 (by omega) (cR as) h.cx.nc (by omega)) rfl rfl, pc (rover_run (n + 4) h.cx.sE sS (by grind)) rfl rfl] <;> rfl) ?_
    refine Gives.ret ?_
    rw [ev_compM (cR as) (fun x => .d (rq x)) (fun x => .d (rq (x * (E / (cR as).sum)))) (by simp only [exs_nil, exs_cons, ex_asg, ex_par, ex_expr, ex_ret, ex_ite, ev_var, ev_lit, ev_glob, ev_bin, ev_neg, ev_cmp, ev_chain, ev_not, ev_and, ev_or, ev_ite, ev_tup, ev_lst, ev_frz, ev_ix, ev_sl, ev_bi, ev_isi, ev_lr, ev_call, ev_mth, evs_nil, evs_cons, evO_none, evO_some, evT_none, evT_some, evI_seq, evI_r1, evI_enum, evI_zip, List.map_cons, List.map_nil, List.cons_append, List.nil_append, List.replicate, getVar, List.getElem?_cons_zero, List.getElem?_cons_succ, lift_some', bnd_ret, bnd_assoc, look_some', tB, tI, hO, frz_d, frz_f, its_fresh, storeTop, storeAt, setAt, List.length_cons, List.length_nil, List.set_cons_zero, List.set_cons_succ, Nat.reduceLT, Nat.reduceAdd, Nat.reduceSub, if_true, if_false, Bool.false_eq_true, permute, hvs?, datas?, chk_true, its_rq]) (fun x hx => by
      unfold turnOf
      simp only [exs_nil, exs_cons, ex_asg, ex_par, ex_expr, ex_ret, ex_ite, ev_var, ev_lit, ev_glob, ev_bin, ev_neg, ev_cmp, ev_chain, ev_not, ev_and, ev_or, ev_ite, ev_tup, ev_lst, ev_frz, ev_ix, ev_sl, ev_bi, ev_isi, ev_lr, ev_call, ev_mth, evs_nil, evs_cons, evO_none, evO_some, evT_none, evT_some, evI_seq, evI_r1, evI_enum, evI_zip, List.map_cons, List.map_nil, List.cons_append, List.nil_append, List.replicate, getVar, List.getElem?_cons_zero, List.getElem?_cons_succ, lift_some', bnd_ret, bnd_assoc, look_some', tB, tI, hO, frz_d, frz_f, its_fresh, storeTop, storeAt, setAt, List.length_cons, List.length_nil, List.set_cons_zero, List.set_cons_succ, Nat.reduceLT, Nat.reduceAdd, Nat.reduceSub, if_true, if_false, Bool.false_eq_true, permute, hvs?, datas?, chk_true, store_name, Ev.wipe, pc (rtimes_run (n + 4) (h.cx.sc x hx) sq') rfl rfl]) (by omega)]
    rfl
/-! ### looks -/
theorem isint_run (n : Nat) (a : Int) : callN prog (n + 1) "is_integer" [I a] = Ev.ret (rD (.bool true)) := by
  refine call_ret (f := f_is_integer) (by rfl) rfl ⟨[some (I a)], ?_⟩
  rfl
theorem ispos_run (n : Nat) (a m : Int) : callN prog (n + 2) "is_position" [I a, I m] = Ev.ret (rD (.bool (decide (0 ≤ a) && decide (a < m)))) := by
  refine call_ret (f := f_is_position) (by rfl) rfl ?_
  simp only [exs_nil, exs_cons, ex_asg, ex_par, ex_expr, ex_ret, ex_ite, ev_var, ev_lit, ev_glob, ev_bin, ev_neg, ev_cmp, ev_chain, ev_not, ev_and, ev_or, ev_ite, ev_tup, ev_lst, ev_frz, ev_ix, ev_sl, ev_bi, ev_isi, ev_lr, ev_call, ev_mth, evs_nil, evs_cons, evO_none, evO_some, evT_none, evT_some, evI_seq, evI_r1, evI_enum, evI_zip, List.map_cons, List.map_nil, List.cons_append, List.nil_append, List.replicate, getVar, List.getElem?_cons_zero, List.getElem?_cons_succ, lift_some', bnd_ret, bnd_assoc, look_some', tB, tI, hO, frz_d, frz_f, its_fresh, storeTop, storeAt, setAt, List.length_cons, List.length_nil, List.set_cons_zero, List.set_cons_succ, Nat.reduceLT, Nat.reduceAdd, Nat.reduceSub, if_true, if_false, Bool.false_eq_true, permute, hvs?, datas?, chk_true, f_is_position, pc (isint_run n a) rfl rfl, cmp_le]
  by_cases h : 0 ≤ a
  · simp only [exs_nil, exs_cons, ex_asg, ex_par, ex_expr, ex_ret, ex_ite, ev_var, ev_lit, ev_glob, ev_bin, ev_neg, ev_cmp, ev_chain, ev_not, ev_and, ev_or, ev_ite, ev_tup, ev_lst, ev_frz, ev_ix, ev_sl, ev_bi, ev_isi, ev_lr, ev_call, ev_mth, evs_nil, evs_cons, evO_none, evO_some, evT_none, evT_some, evI_seq, evI_r1, evI_enum, evI_zip, List.map_cons, List.map_nil, List.cons_append, List.nil_append, List.replicate, getVar, List.getElem?_cons_zero, List.getElem?_cons_succ, lift_some', bnd_ret, bnd_assoc, look_some', tB, tI, hO, frz_d, frz_f, its_fresh, storeTop, storeAt, setAt, List.length_cons, List.length_nil, List.set_cons_zero, List.set_cons_succ, Nat.reduceLT, Nat.reduceAdd, Nat.reduceSub, if_true, if_false, Bool.false_eq_true, permute, hvs?, datas?, chk_true, h, decide_true, Bool.true_and, cmp_lt]
    exact ⟨_, rfl⟩
  · simp only [exs_nil, exs_cons, ex_asg, ex_par, ex_expr, ex_ret, ex_ite, ev_var, ev_lit, ev_glob, ev_bin, ev_neg, ev_cmp, ev_chain, ev_not, ev_and, ev_or, ev_ite, ev_tup, ev_lst, ev_frz, ev_ix, ev_sl, ev_bi, ev_isi, ev_lr, ev_call, ev_mth, evs_nil, evs_cons, evO_none, evO_some, evT_none, evT_some, evI_seq, evI_r1, evI_enum, evI_zip, List.map_cons, List.map_nil, List.cons_append, List.nil_append, List.replicate, getVar, List.getElem?_cons_zero, List.getElem?_cons_succ, lift_some', bnd_ret, bnd_assoc, look_some', tB, tI, hO, frz_d, frz_f, its_fresh, storeTop, storeAt, setAt, List.length_cons, List.length_nil, List.set_cons_zero, List.set_cons_succ, Nat.reduceLT, Nat.reduceAdd, Nat.reduceSub, if_true, if_false, Bool.false_eq_true, permute, hvs?, datas?, chk_true, h, decide_false, Bool.false_and]
    exact ⟨_, rfl⟩
theorem claim_run (n : Nat) (a : Int) (h : 1 ≤ a ∧ a ≤ 99) : callN prog (n + 3) "claim_is_right" [I a] = Ev.ret (rD (.bool true)) := by
  refine call_ret (f := f_claim_is_right) (by rfl) rfl ?_
  have hc : callN prog (n + 2) "is_count" [I a] = Ev.ret (rD (.bool true)) := by
    refine call_ret (f := f_is_count) (by rfl) rfl ?_
    simp only [exs_nil, exs_cons, ex_asg, ex_par, ex_expr, ex_ret, ex_ite, ev_var, ev_lit, ev_glob, ev_bin, ev_neg, ev_cmp, ev_chain, ev_not, ev_and, ev_or, ev_ite, ev_tup, ev_lst, ev_frz, ev_ix, ev_sl, ev_bi, ev_isi, ev_lr, ev_call, ev_mth, evs_nil, evs_cons, evO_none, evO_some, evT_none, evT_some, evI_seq, evI_r1, evI_enum, evI_zip, List.map_cons, List.map_nil, List.cons_append, List.nil_append, List.replicate, getVar, List.getElem?_cons_zero, List.getElem?_cons_succ, lift_some', bnd_ret, bnd_assoc, look_some', tB, tI, hO, frz_d, frz_f, its_fresh, storeTop, storeAt, setAt, List.length_cons, List.length_nil, List.set_cons_zero, List.set_cons_succ, Nat.reduceLT, Nat.reduceAdd, Nat.reduceSub, if_true, if_false, Bool.false_eq_true, permute, hvs?, datas?, chk_true, f_is_count, pc (isint_run n a) rfl rfl, cmp_ge, decide_eq_true (show 0 ≤ a by omega)]
    exact ⟨_, rfl⟩
  simp only [exs_nil, exs_cons, ex_asg, ex_par, ex_expr, ex_ret, ex_ite, ev_var, ev_lit, ev_glob, ev_bin, ev_neg, ev_cmp, ev_chain, ev_not, ev_and, ev_or, ev_ite, ev_tup, ev_lst, ev_frz, ev_ix, ev_sl, ev_bi, ev_isi, ev_lr, ev_call, ev_mth, evs_nil, evs_cons, evO_none, evO_some, evT_none, evT_some, evI_seq, evI_r1, evI_enum, evI_zip, List.map_cons, List.map_nil, List.cons_append, List.nil_append, List.replicate, getVar, List.getElem?_cons_zero, List.getElem?_cons_succ, lift_some', bnd_ret, bnd_assoc, look_some', tB, tI, hO, frz_d, frz_f, its_fresh, storeTop, storeAt, setAt, List.length_cons, List.length_nil, List.set_cons_zero, List.set_cons_succ, Nat.reduceLT, Nat.reduceAdd, Nat.reduceSub, if_true, if_false, Bool.false_eq_true, permute, hvs?, datas?, chk_true, f_claim_is_right, pc hc rfl rfl, cmp_le, decide_eq_true h.1, decide_eq_true h.2]
  exact ⟨_, rfl⟩
theorem asked_run (n : Nat) {as : List Int} (h : Ax as) : callN prog (n + 5) "check_asked" [.d (T as)] = Ev.ret (rD .none) := by
  have hl := h.l8
  have hr : callN prog (n + 4) "asked_is_right" [.d (T as)] = Ev.ret (rD (.bool true)) := by
    refine call_ret (f := f_asked_is_right) (by rfl) rfl ?_
    simp only [exs_nil, exs_cons, ex_asg, ex_par, ex_expr, ex_ret, ex_ite, ev_var, ev_lit, ev_glob, ev_bin, ev_neg, ev_cmp, ev_chain, ev_not, ev_and, ev_or, ev_ite, ev_tup, ev_lst, ev_frz, ev_ix, ev_sl, ev_bi, ev_isi, ev_lr, ev_call, ev_mth, evs_nil, evs_cons, evO_none, evO_some, evT_none, evT_some, evI_seq, evI_r1, evI_enum, evI_zip, List.map_cons, List.map_nil, List.cons_append, List.nil_append, List.replicate, getVar, List.getElem?_cons_zero, List.getElem?_cons_succ, lift_some', bnd_ret, bnd_assoc, look_some', tB, tI, hO, frz_d, frz_f, its_fresh, storeTop, storeAt, setAt, List.length_cons, List.length_nil, List.set_cons_zero, List.set_cons_succ, Nat.reduceLT, Nat.reduceAdd, Nat.reduceSub, if_true, if_false, Bool.false_eq_true, permute, hvs?, datas?, chk_true, f_asked_is_right, isi_tup, len_T, cmp_le, decide_eq_true (show (1 : Int) ≤ (as.length : Int) by have := h.l1; omega), decide_eq_true (show (as.length : Int) ≤ 8 by omega)]
    rw [ev_compM as (fun a => I a) (fun a => .d (.bool true)) (by simp only [exs_nil, exs_cons, ex_asg, ex_par, ex_expr, ex_ret, ex_ite, ev_var, ev_lit, ev_glob, ev_bin, ev_neg, ev_cmp, ev_chain, ev_not, ev_and, ev_or, ev_ite, ev_tup, ev_lst, ev_frz, ev_ix, ev_sl, ev_bi, ev_isi, ev_lr, ev_call, ev_mth, evs_nil, evs_cons, evO_none, evO_some, evT_none, evT_some, evI_seq, evI_r1, evI_enum, evI_zip, List.map_cons, List.map_nil, List.cons_append, List.nil_append, List.replicate, getVar, List.getElem?_cons_zero, List.getElem?_cons_succ, lift_some', bnd_ret, bnd_assoc, look_some', tB, tI, hO, frz_d, frz_f, its_fresh, storeTop, storeAt, setAt, List.length_cons, List.length_nil, List.set_cons_zero, List.set_cons_succ, Nat.reduceLT, Nat.reduceAdd, Nat.reduceSub, if_true, if_false, Bool.false_eq_true, permute, hvs?, datas?, chk_true, itsT_run]) (fun a ha => by
      unfold turnOf
      simp only [exs_nil, exs_cons, ex_asg, ex_par, ex_expr, ex_ret, ex_ite, ev_var, ev_lit, ev_glob, ev_bin, ev_neg, ev_cmp, ev_chain, ev_not, ev_and, ev_or, ev_ite, ev_tup, ev_lst, ev_frz, ev_ix, ev_sl, ev_bi, ev_isi, ev_lr, ev_call, ev_mth, evs_nil, evs_cons, evO_none, evO_some, evT_none, evT_some, evI_seq, evI_r1, evI_enum, evI_zip, List.map_cons, List.map_nil, List.cons_append, List.nil_append, List.replicate, getVar, List.getElem?_cons_zero, List.getElem?_cons_succ, lift_some', bnd_ret, bnd_assoc, look_some', tB, tI, hO, frz_d, frz_f, its_fresh, storeTop, storeAt, setAt, List.length_cons, List.length_nil, List.set_cons_zero, List.set_cons_succ, Nat.reduceLT, Nat.reduceAdd, Nat.reduceSub, if_true, if_false, Bool.false_eq_true, permute, hvs?, datas?, chk_true, store_name, Ev.wipe, pc (claim_run n a (h.rg a ha)) rfl rfl]) (by omega)]
    simp only [exs_nil, exs_cons, ex_asg, ex_par, ex_expr, ex_ret, ex_ite, ev_var, ev_lit, ev_glob, ev_bin, ev_neg, ev_cmp, ev_chain, ev_not, ev_and, ev_or, ev_ite, ev_tup, ev_lst, ev_frz, ev_ix, ev_sl, ev_bi, ev_isi, ev_lr, ev_call, ev_mth, evs_nil, evs_cons, evO_none, evO_some, evT_none, evT_some, evI_seq, evI_r1, evI_enum, evI_zip, List.map_cons, List.map_nil, List.cons_append, List.nil_append, List.replicate, getVar, List.getElem?_cons_zero, List.getElem?_cons_succ, lift_some', bnd_ret, bnd_assoc, look_some', tB, tI, hO, frz_d, frz_f, its_fresh, storeTop, storeAt, setAt, List.length_cons, List.length_nil, List.set_cons_zero, List.set_cons_succ, Nat.reduceLT, Nat.reduceAdd, Nat.reduceSub, if_true, if_false, Bool.false_eq_true, permute, hvs?, datas?, chk_true, alldata_run as (fun _ => true) _ (fun _ _ => rfl)]
    exact ⟨_, rfl⟩
  refine call_none (f := f_check_asked) (by rfl) rfl ?_
  simp only [exs_nil, exs_cons, ex_asg, ex_par, ex_expr, ex_ret, ex_ite, ev_var, ev_lit, ev_glob, ev_bin, ev_neg, ev_cmp, ev_chain, ev_not, ev_and, ev_or, ev_ite, ev_tup, ev_lst, ev_frz, ev_ix, ev_sl, ev_bi, ev_isi, ev_lr, ev_call, ev_mth, evs_nil, evs_cons, evO_none, evO_some, evT_none, evT_some, evI_seq, evI_r1, evI_enum, evI_zip, List.map_cons, List.map_nil, List.cons_append, List.nil_append, List.replicate, getVar, List.getElem?_cons_zero, List.getElem?_cons_succ, lift_some', bnd_ret, bnd_assoc, look_some', tB, tI, hO, frz_d, frz_f, its_fresh, storeTop, storeAt, setAt, List.length_cons, List.length_nil, List.set_cons_zero, List.set_cons_succ, Nat.reduceLT, Nat.reduceAdd, Nat.reduceSub, if_true, if_false, Bool.false_eq_true, permute, hvs?, datas?, chk_true, f_check_asked, pc hr rfl rfl, Bool.not_true]
  exact ⟨_, rfl⟩
theorem isratio_run (n : Nat) (x : Rat) : callN prog (n + 2) "is_ratio" [.d (rq x)] = Ev.ret (rD (.bool true)) := by
  refine call_gives (f := f_is_ratio) (by rfl) rfl ?_
  unfold f_is_ratio
  have hl : ∀ h, biV h .len [rD (rq x)] = some (rD (.int 2)) := fun h => nr rfl
  refine Gives.go (env' := [some (.d (rq x)), none]) (by
    simp only [exs_nil, exs_cons, ex_asg, ex_par, ex_expr, ex_ret, ex_ite, ev_var, ev_lit, ev_glob, ev_bin, ev_neg, ev_cmp, ev_chain, ev_not, ev_and, ev_or, ev_ite, ev_tup, ev_lst, ev_frz, ev_ix, ev_sl, ev_bi, ev_isi, ev_lr, ev_call, ev_mth, evs_nil, evs_cons, evO_none, evO_some, evT_none, evT_some, evI_seq, evI_r1, evI_enum, evI_zip, List.map_cons, List.map_nil, List.cons_append, List.nil_append, List.replicate, getVar, List.getElem?_cons_zero, List.getElem?_cons_succ, lift_some', bnd_ret, bnd_assoc, look_some', tB, tI, hO, frz_d, frz_f, its_fresh, storeTop, storeAt, setAt, List.length_cons, List.length_nil, List.set_cons_zero, List.set_cons_succ, Nat.reduceLT, Nat.reduceAdd, Nat.reduceSub, if_true, if_false, Bool.false_eq_true, permute, hvs?, datas?, chk_true, isi_tup, Bool.not_true, hl, cmp_neI, decide_true]
    rw [ev_compM [x.num, ((x.den : Nat) : Int)] (fun a => I a) (fun a => .d (.bool true)) (by simp only [exs_nil, exs_cons, ex_asg, ex_par, ex_expr, ex_ret, ex_ite, ev_var, ev_lit, ev_glob, ev_bin, ev_neg, ev_cmp, ev_chain, ev_not, ev_and, ev_or, ev_ite, ev_tup, ev_lst, ev_frz, ev_ix, ev_sl, ev_bi, ev_isi, ev_lr, ev_call, ev_mth, evs_nil, evs_cons, evO_none, evO_some, evT_none, evT_some, evI_seq, evI_r1, evI_enum, evI_zip, List.map_cons, List.map_nil, List.cons_append, List.nil_append, List.replicate, getVar, List.getElem?_cons_zero, List.getElem?_cons_succ, lift_some', bnd_ret, bnd_assoc, look_some', tB, tI, hO, frz_d, frz_f, its_fresh, storeTop, storeAt, setAt, List.length_cons, List.length_nil, List.set_cons_zero, List.set_cons_succ, Nat.reduceLT, Nat.reduceAdd, Nat.reduceSub, if_true, if_false, Bool.false_eq_true, permute, hvs?, datas?, chk_true] <;> rfl) (fun a ha => by
      unfold turnOf
      simp only [exs_nil, exs_cons, ex_asg, ex_par, ex_expr, ex_ret, ex_ite, ev_var, ev_lit, ev_glob, ev_bin, ev_neg, ev_cmp, ev_chain, ev_not, ev_and, ev_or, ev_ite, ev_tup, ev_lst, ev_frz, ev_ix, ev_sl, ev_bi, ev_isi, ev_lr, ev_call, ev_mth, evs_nil, evs_cons, evO_none, evO_some, evT_none, evT_some, evI_seq, evI_r1, evI_enum, evI_zip, List.map_cons, List.map_nil, List.cons_append, List.nil_append, List.replicate, getVar, List.getElem?_cons_zero, List.getElem?_cons_succ, lift_some', bnd_ret, bnd_assoc, look_some', tB, tI, hO, frz_d, frz_f, its_fresh, storeTop, storeAt, setAt, List.length_cons, List.length_nil, List.set_cons_zero, List.set_cons_succ, Nat.reduceLT, Nat.reduceAdd, Nat.reduceSub, if_true, if_false, Bool.false_eq_true, permute, hvs?, datas?, chk_true, store_name, Ev.wipe, pc (isint_run n a) rfl rfl]) (by simp)]
    have e : ∀ h, biV h .all [.fresh ([x.num, ((x.den : Nat) : Int)].map fun _ => .d (.bool true))] = some (rD (.bool true)) := fun h => alldata_run [x.num, ((x.den : Nat) : Int)] (fun _ => true) h (fun _ _ => rfl)
    rw [bnd_ret]
    simp only [exs_nil, exs_cons, ex_asg, ex_par, ex_expr, ex_ret, ex_ite, ev_var, ev_lit, ev_glob, ev_bin, ev_neg, ev_cmp, ev_chain, ev_not, ev_and, ev_or, ev_ite, ev_tup, ev_lst, ev_frz, ev_ix, ev_sl, ev_bi, ev_isi, ev_lr, ev_call, ev_mth, evs_nil, evs_cons, evO_none, evO_some, evT_none, evT_some, evI_seq, evI_r1, evI_enum, evI_zip, List.map_cons, List.map_nil, List.cons_append, List.nil_append, List.replicate, getVar, List.getElem?_cons_zero, List.getElem?_cons_succ, lift_some', bnd_ret, bnd_assoc, look_some', tB, tI, hO, frz_d, frz_f, its_fresh, storeTop, storeAt, setAt, List.length_cons, List.length_nil, List.set_cons_zero, List.set_cons_succ, Nat.reduceLT, Nat.reduceAdd, Nat.reduceSub, if_true, if_false, Bool.false_eq_true, permute, hvs?, datas?, chk_true, e, Bool.not_true] <;> rfl) ?_
  have hg : ((Nat.gcd x.num.natAbs ((x.den : Nat) : Int).natAbs : Nat) : Int) = 1 := by
    rw [Int.natAbs_natCast]
    have := x.reduced
    unfold Nat.Coprime at this
    rw [this]
    rfl
  exact Gives.ret (by
    simp only [exs_nil, exs_cons, ex_asg, ex_par, ex_expr, ex_ret, ex_ite, ev_var, ev_lit, ev_glob, ev_bin, ev_neg, ev_cmp, ev_chain, ev_not, ev_and, ev_or, ev_ite, ev_tup, ev_lst, ev_frz, ev_ix, ev_sl, ev_bi, ev_isi, ev_lr, ev_call, ev_mth, evs_nil, evs_cons, evO_none, evO_some, evT_none, evT_some, evI_seq, evI_r1, evI_enum, evI_zip, List.map_cons, List.map_nil, List.cons_append, List.nil_append, List.replicate, getVar, List.getElem?_cons_zero, List.getElem?_cons_succ, lift_some', bnd_ret, bnd_assoc, look_some', tB, tI, hO, frz_d, frz_f, its_fresh, storeTop, storeAt, setAt, List.length_cons, List.length_nil, List.set_cons_zero, List.set_cons_succ, Nat.reduceLT, Nat.reduceAdd, Nat.reduceSub, if_true, if_false, Bool.false_eq_true, permute, hvs?, datas?, chk_true, rq0, rq1, cmp_gt, decide_eq_true (dpos x), gcd_run, hg, cmp_eqI, decide_true])
theorem int_hv (m : Int) : HV.d (.tuple [.int m, .int 1]) = .d (rq ((m : Int) : Rat)) := by rw [rq_int]
theorem int_rd (m : Int) : rD (.tuple [.int m, .int 1]) = rD (rq ((m : Int) : Rat)) := by rw [rq_int]
theorem sm_int {m : Int} (h : m.natAbs ≤ 1000000) : Sm ((m : Int) : Rat) := (Nb.int (D := 1) (i := m) (by omega) (by omega)).sm (by decide) (by decide)
theorem within_run (n : Nat) {x : Rat} (hs : Sm x) (h0 : 0 ≤ x) {m : Int} (hm : x ≤ ((m : Int) : Rat)) (h2 : m.natAbs ≤ 1000000) : callN prog (n + 3) "is_within" [.d (rq x), I m] = Ev.ret (rD (.bool true)) := by
  refine call_ret (f := f_is_within) (by rfl) rfl ?_
  have hn : decide (0 ≤ x.num) = true := decide_eq_true (Rat.num_nonneg.mpr h0)
  simp only [exs_nil, exs_cons, ex_asg, ex_par, ex_expr, ex_ret, ex_ite, ev_var, ev_lit, ev_glob, ev_bin, ev_neg, ev_cmp, ev_chain, ev_not, ev_and, ev_or, ev_ite, ev_tup, ev_lst, ev_frz, ev_ix, ev_sl, ev_bi, ev_isi, ev_lr, ev_call, ev_mth, evs_nil, evs_cons, evO_none, evO_some, evT_none, evT_some, evI_seq, evI_r1, evI_enum, evI_zip, List.map_cons, List.map_nil, List.cons_append, List.nil_append, List.replicate, getVar, List.getElem?_cons_zero, List.getElem?_cons_succ, lift_some', bnd_ret, bnd_assoc, look_some', tB, tI, hO, frz_d, frz_f, its_fresh, storeTop, storeAt, setAt, List.length_cons, List.length_nil, List.set_cons_zero, List.set_cons_succ, Nat.reduceLT, Nat.reduceAdd, Nat.reduceSub, if_true, if_false, Bool.false_eq_true, permute, hvs?, datas?, chk_true, f_is_within, pc (isratio_run n x) rfl rfl, rq0, cmp_ge, hn, lk2, int_hv, pc (rless_run (n + 1) (sm_int h2) hs) rfl rfl, decide_eq_false (Rat.not_lt.mpr hm), Bool.not_false]
  exact ⟨_, rfl⟩
theorem amount_run (n : Nat) {x : Rat} (hs : Sm x) (h0 : 0 ≤ x) {m : Int} (hm : x ≤ ((m : Int) : Rat)) (h2 : m.natAbs ≤ 1000000) : callN prog (n + 4) "check_amount" [.d (rq x), I m] = Ev.ret (rD .none) := by
  refine call_none (f := f_check_amount) (by rfl) rfl ?_
  simp only [exs_nil, exs_cons, ex_asg, ex_par, ex_expr, ex_ret, ex_ite, ev_var, ev_lit, ev_glob, ev_bin, ev_neg, ev_cmp, ev_chain, ev_not, ev_and, ev_or, ev_ite, ev_tup, ev_lst, ev_frz, ev_ix, ev_sl, ev_bi, ev_isi, ev_lr, ev_call, ev_mth, evs_nil, evs_cons, evO_none, evO_some, evT_none, evT_some, evI_seq, evI_r1, evI_enum, evI_zip, List.map_cons, List.map_nil, List.cons_append, List.nil_append, List.replicate, getVar, List.getElem?_cons_zero, List.getElem?_cons_succ, lift_some', bnd_ret, bnd_assoc, look_some', tB, tI, hO, frz_d, frz_f, its_fresh, storeTop, storeAt, setAt, List.length_cons, List.length_nil, List.set_cons_zero, List.set_cons_succ, Nat.reduceLT, Nat.reduceAdd, Nat.reduceSub, if_true, if_false, Bool.false_eq_true, permute, hvs?, datas?, chk_true, f_check_amount, pc (within_run n hs h0 hm h2) rfl rfl, Bool.not_true]
  exact ⟨_, rfl⟩
theorem sumT_run (as : List Int) (h : Hp) : biV h .sum [rD (T as)] = some (rD (.int as.sum)) := by
  simp only [biV, getSeq, ints_map]
theorem cshared_run (n D : Nat) {as : List Int} {E : Rat} (h : Sx D as E) : callN prog (n + 6) "check_shared" [.d (T as), .d (rq E)] = Ev.ret (rD .none) := by
  obtain ⟨q1, q2⟩ := Ax.sum_le h.ax.rg
  have := h.ax.l8
  have := h.ax.l1
  refine call_none (f := f_check_shared) (by rfl) rfl ?_
  simp only [exs_nil, exs_cons, ex_asg, ex_par, ex_expr, ex_ret, ex_ite, ev_var, ev_lit, ev_glob, ev_bin, ev_neg, ev_cmp, ev_chain, ev_not, ev_and, ev_or, ev_ite, ev_tup, ev_lst, ev_frz, ev_ix, ev_sl, ev_bi, ev_isi, ev_lr, ev_call, ev_mth, evs_nil, evs_cons, evO_none, evO_some, evT_none, evT_some, evI_seq, evI_r1, evI_enum, evI_zip, List.map_cons, List.map_nil, List.cons_append, List.nil_append, List.replicate, getVar, List.getElem?_cons_zero, List.getElem?_cons_succ, lift_some', bnd_ret, bnd_assoc, look_some', tB, tI, hO, frz_d, frz_f, its_fresh, storeTop, storeAt, setAt, List.length_cons, List.length_nil, List.set_cons_zero, List.set_cons_succ, Nat.reduceLT, Nat.reduceAdd, Nat.reduceSub, if_true, if_false, Bool.false_eq_true, permute, hvs?, datas?, chk_true, f_check_shared, pc (asked_run n h.ax) rfl rfl, sumT_run, pc (amount_run (n + 1) h.cx.sE h.lo (m := as.sum) (by rw [← cR_sum]; exact h.hi) (by omega)) rfl rfl]
  exact ⟨_, rfl⟩
theorem crule_run (r : Ru) (n : Nat) : callN prog (n + 1) "check_rule" [.d (.str r.name)] = Ev.ret (rD .none) := by
  refine call_none (f := f_check_rule) (by rfl) rfl ?_
  have e : ∀ h, cmpV h .notIn (rD (.str r.name)) (rD (.tuple [(.str "awards"), (.str "losses"), (.str "garment"), (.str "parts")])) = some false := fun h => by
    cases r <;> kernel_rfl
  simp only [exs_nil, exs_cons, ex_asg, ex_par, ex_expr, ex_ret, ex_ite, ev_var, ev_lit, ev_glob, ev_bin, ev_neg, ev_cmp, ev_chain, ev_not, ev_and, ev_or, ev_ite, ev_tup, ev_lst, ev_frz, ev_ix, ev_sl, ev_bi, ev_isi, ev_lr, ev_call, ev_mth, evs_nil, evs_cons, evO_none, evO_some, evT_none, evT_some, evI_seq, evI_r1, evI_enum, evI_zip, List.map_cons, List.map_nil, List.cons_append, List.nil_append, List.replicate, getVar, List.getElem?_cons_zero, List.getElem?_cons_succ, lift_some', bnd_ret, bnd_assoc, look_some', tB, tI, hO, frz_d, frz_f, its_fresh, storeTop, storeAt, setAt, List.length_cons, List.length_nil, List.set_cons_zero, List.set_cons_succ, Nat.reduceLT, Nat.reduceAdd, Nat.reduceSub, if_true, if_false, Bool.false_eq_true, permute, hvs?, datas?, chk_true, f_check_rule, isi_str, Bool.not_true, e]
  exact ⟨_, rfl⟩
theorem shared_run (r : Ru) (n D : Nat) {as : List Int} {E : Rat} (h : Sx D as E) : callN prog (n + 8) "shared" [.d (.str r.name), .d (T as), .d (rq E)] = Ev.ret (.fresh ((cR as).map fun x => .d (rq (phi r (cR as) E x)))) := by
  have hl8 := h.ax.l8
  refine call_ret (f := f_shared) (by rfl) rfl ?_
  simp only [exs_nil, exs_cons, ex_asg, ex_par, ex_expr, ex_ret, ex_ite, ev_var, ev_lit, ev_glob, ev_bin, ev_neg, ev_cmp, ev_chain, ev_not, ev_and, ev_or, ev_ite, ev_tup, ev_lst, ev_frz, ev_ix, ev_sl, ev_bi, ev_isi, ev_lr, ev_call, ev_mth, evs_nil, evs_cons, evO_none, evO_some, evT_none, evT_some, evI_seq, evI_r1, evI_enum, evI_zip, List.map_cons, List.map_nil, List.cons_append, List.nil_append, List.replicate, getVar, List.getElem?_cons_zero, List.getElem?_cons_succ, lift_some', bnd_ret, bnd_assoc, look_some', tB, tI, hO, frz_d, frz_f, its_fresh, storeTop, storeAt, setAt, List.length_cons, List.length_nil, List.set_cons_zero, List.set_cons_succ, Nat.reduceLT, Nat.reduceAdd, Nat.reduceSub, if_true, if_false, Bool.false_eq_true, permute, hvs?, datas?, chk_true, f_shared, pc (crule_run r (n + 6)) rfl rfl, pc (cshared_run (n + 1) D h) rfl rfl, pc (asratios_run (n + 6) as (by omega)) rfl (outOk_map _ _), frz_run, pc (sharedby_run r n D h) rfl (outOk_map _ _)]
  exact ⟨_, rfl⟩
end Lw

set_option linter.all false
set_option Elab.async false
set_option maxRecDepth 100000
set_option maxHeartbeats 4000000
/-! N6: pairs, least amounts. -/
namespace Lw
open PySem Ev
section
variable {C : CallT} {b r : List S} {env env' : Ev.Env} {v : RV} {t : Tg} {it : Ev.I} {σ : Type} {o : σ ⊕ RV}
theorem Gives.loopL {s : σ} (e : ex C (.for_ t it b) env = Ev.ret (flOf o, env')) (ho : o = .inl s) (k : Gives C r env' v) : Gives C (.for_ t it b :: r) env v := by
  subst ho
  exact Gives.go e k
theorem Gives.loopR (e : ex C (.for_ t it b) env = Ev.ret (flOf o, env')) (ho : o = .inr v) : Gives C (.for_ t it b :: r) env v := by
  subst ho
  exact Gives.stop e
end
theorem it_rq (x : Rat) : It (rq x) 1 := It.tuple fun d hd => by
  simp only [List.mem_cons, List.not_mem_nil, or_false] at hd
  rcases hd with rfl | rfl <;> exact It.int _
theorem rq_inj {x y : Rat} (h : rq x = rq y) : x = y := by
  unfold rq at h
  simp only [PyData.tuple.injEq, List.cons.injEq, PyData.int.injEq, and_true] at h
  exact Rat.ext h.1 (by omega)
/-- a list or a tuple of numbers -/
structure Wq (W : PyData) (ws : List Rat) : Prop where
  ix : ∀ (h : Hp) (i : Nat) (x : Rat), ws[i]? = some x → ixV h (rD W) (i : Nat) = some (rD (rq x))
  ln : ∀ h : Hp, biV h .len [rD W] = some (rD (.int ws.length))
  ty : ∀ h : Hp, isiV h (rD W) ["list", "tuple"] = some true
  sd : ∀ h : Hp, seqData h (rD W) = some (ws.map rq)
  ls : ∀ h : Hp, biV h .list [rD W] = some (.fresh (ws.map fun x => .d (rq x)))
theorem Wq.list (ws : List Rat) : Wq (.list (ws.map rq)) ws := ⟨fun h i x e => ix_list (Int.natCast_nonneg _) (by rw [Int.toNat_natCast, List.getElem?_map, e]; rfl) h, fun h => by rw [len_list, List.length_map], fun h => isi_lt2 h _, fun h => seqD_list ws rq h, fun h => by
  simp only [biV, getSeq, getLst, List.map_map]
  rfl⟩
theorem Wq.tuple (ws : List Rat) : Wq (.tuple (ws.map rq)) ws := ⟨fun h i x e => ix_tup (Int.natCast_nonneg _) (by rw [Int.toNat_natCast, List.getElem?_map, e]; rfl) h, fun h => by rw [len_tup, List.length_map], fun h => isi_lt1 h _, fun h => seqD_tup ws rq h, fun h => by
  simp only [biV, getSeq, List.map_map]
  rfl⟩
theorem zipL_zip {α β : Type} (f : α → PyData) (g : β → PyData) : ∀ (xs : List α) (ys : List β), zipL (xs.map f) (ys.map g) = (xs.zip ys).map fun p => .d (.tuple [f p.1, g p.2])
  | [], _ => rfl
  | _ :: _, [] => rfl
  | x :: xs, y :: ys => by
    rw [List.zip_cons_cons, List.map_cons, List.map_cons, List.map_cons, zipL, zipL_zip f g xs ys]
/-- awards -/
structure Aw (D : Nat) (as : List Int) (E : Rat) (ws : List Rat) : Prop where
  len : ws.length = as.length
  nb : ∀ w ∈ ws, Nb D w
  rg : ∀ p ∈ ws.zip as, 0 ≤ p.1 ∧ p.1 ≤ ((p.2 : Int) : Rat)
  sum : ws.sum = E
theorem cawards_run (n D F : Nat) {as : List Int} {E : Rat} (h : Sx D as E) (hF : 0 < F) (hF2 : F < 2 ^ 60) {W : PyData} {ws : List Rat} (hW : Wq W ws) (a : Aw F as E ws) : callN prog (n + 7) "check_awards" [.d (T as), .d (rq E), .d W] = Ev.ret (rD .none) := by
  have hl8 := h.ax.l8
  have hlen := a.len
  have hr : callN prog (n + 6) "awards_are_right" [.d (T as), .d (rq E), .d W] = Ev.ret (rD (.bool true)) := by
    refine call_gives (f := f_awards_are_right) (by rfl) rfl ?_
    unfold f_awards_are_right
    have hil : callN prog (n + 5) "is_list" [.d W] = Ev.ret (rD (.bool true)) := by
      refine call_ret (f := f_is_list) (by rfl) rfl ?_
      simp only [exs_nil, exs_cons, ex_asg, ex_par, ex_expr, ex_ret, ex_ite, ev_var, ev_lit, ev_glob, ev_bin, ev_neg, ev_cmp, ev_chain, ev_not, ev_and, ev_or, ev_ite, ev_tup, ev_lst, ev_frz, ev_ix, ev_sl, ev_bi, ev_isi, ev_lr, ev_call, ev_mth, evs_nil, evs_cons, evO_none, evO_some, evT_none, evT_some, evI_seq, evI_r1, evI_enum, evI_zip, List.map_cons, List.map_nil, List.cons_append, List.nil_append, List.replicate, getVar, List.getElem?_cons_zero, List.getElem?_cons_succ, lift_some', bnd_ret, bnd_assoc, look_some', tB, tI, hO, frz_d, frz_f, its_fresh, storeTop, storeAt, setAt, List.length_cons, List.length_nil, List.set_cons_zero, List.set_cons_succ, Nat.reduceLT, Nat.reduceAdd, Nat.reduceSub, if_true, if_false, Bool.false_eq_true, permute, hvs?, datas?, chk_true, f_is_list, hW.ty]
      exact ⟨_, rfl⟩
    refine Gives.go (env' := [some (.d (T as)), some (.d (rq E)), some (.d W), none, none]) (by
      simp only [exs_nil, exs_cons, ex_asg, ex_par, ex_expr, ex_ret, ex_ite, ev_var, ev_lit, ev_glob, ev_bin, ev_neg, ev_cmp, ev_chain, ev_not, ev_and, ev_or, ev_ite, ev_tup, ev_lst, ev_frz, ev_ix, ev_sl, ev_bi, ev_isi, ev_lr, ev_call, ev_mth, evs_nil, evs_cons, evO_none, evO_some, evT_none, evT_some, evI_seq, evI_r1, evI_enum, evI_zip, List.map_cons, List.map_nil, List.cons_append, List.nil_append, List.replicate, getVar, List.getElem?_cons_zero, List.getElem?_cons_succ, lift_some', bnd_ret, bnd_assoc, look_some', tB, tI, hO, frz_d, frz_f, its_fresh, storeTop, storeAt, setAt, List.length_cons, List.length_nil, List.set_cons_zero, List.set_cons_succ, Nat.reduceLT, Nat.reduceAdd, Nat.reduceSub, if_true, if_false, Bool.false_eq_true, permute, hvs?, datas?, chk_true, pc hil rfl rfl, Bool.not_true, hW.ln, len_T, cmp_neI, hlen, decide_true, Bool.not_true]) ?_
    refine Gives.ret ?_
    simp only [exs_nil, exs_cons, ex_asg, ex_par, ex_expr, ex_ret, ex_ite, ev_var, ev_lit, ev_glob, ev_bin, ev_neg, ev_cmp, ev_chain, ev_not, ev_and, ev_or, ev_ite, ev_tup, ev_lst, ev_frz, ev_ix, ev_sl, ev_bi, ev_isi, ev_lr, ev_call, ev_mth, evs_nil, evs_cons, evO_none, evO_some, evT_none, evT_some, evI_seq, evI_r1, evI_enum, evI_zip, List.map_cons, List.map_nil, List.cons_append, List.nil_append, List.replicate, getVar, List.getElem?_cons_zero, List.getElem?_cons_succ, lift_some', bnd_ret, bnd_assoc, look_some', tB, tI, hO, frz_d, frz_f, its_fresh, storeTop, storeAt, setAt, List.length_cons, List.length_nil, List.set_cons_zero, List.set_cons_succ, Nat.reduceLT, Nat.reduceAdd, Nat.reduceSub, if_true, if_false, Bool.false_eq_true, permute, hvs?, datas?, chk_true]
    rw [ev_compM (ws.zip as) (fun p => .d (.tuple [rq p.1, .int p.2])) (fun _ => .d (.bool true)) (by
      have e : ∀ h, seqData h (rD (T as)) = some (as.map .int) := fun h => seqD_tup as .int h
      simp only [exs_nil, exs_cons, ex_asg, ex_par, ex_expr, ex_ret, ex_ite, ev_var, ev_lit, ev_glob, ev_bin, ev_neg, ev_cmp, ev_chain, ev_not, ev_and, ev_or, ev_ite, ev_tup, ev_lst, ev_frz, ev_ix, ev_sl, ev_bi, ev_isi, ev_lr, ev_call, ev_mth, evs_nil, evs_cons, evO_none, evO_some, evT_none, evT_some, evI_seq, evI_r1, evI_enum, evI_zip, List.map_cons, List.map_nil, List.cons_append, List.nil_append, List.replicate, getVar, List.getElem?_cons_zero, List.getElem?_cons_succ, lift_some', bnd_ret, bnd_assoc, look_some', tB, tI, hO, frz_d, frz_f, its_fresh, storeTop, storeAt, setAt, List.length_cons, List.length_nil, List.set_cons_zero, List.set_cons_succ, Nat.reduceLT, Nat.reduceAdd, Nat.reduceSub, if_true, if_false, Bool.false_eq_true, permute, hvs?, datas?, chk_true, hW.sd, e, zipL_zip]) (fun p hp => by
      obtain ⟨w, b⟩ := p
      have hm := List.of_mem_zip hp
      have r := a.rg _ hp
      have rb := h.ax.rg b hm.2
      unfold turnOf
      simp only [exs_nil, exs_cons, ex_asg, ex_par, ex_expr, ex_ret, ex_ite, ev_var, ev_lit, ev_glob, ev_bin, ev_neg, ev_cmp, ev_chain, ev_not, ev_and, ev_or, ev_ite, ev_tup, ev_lst, ev_frz, ev_ix, ev_sl, ev_bi, ev_isi, ev_lr, ev_call, ev_mth, evs_nil, evs_cons, evO_none, evO_some, evT_none, evT_some, evI_seq, evI_r1, evI_enum, evI_zip, List.map_cons, List.map_nil, List.cons_append, List.nil_append, List.replicate, getVar, List.getElem?_cons_zero, List.getElem?_cons_succ, lift_some', bnd_ret, bnd_assoc, look_some', tB, tI, hO, frz_d, frz_f, its_fresh, storeTop, storeAt, setAt, List.length_cons, List.length_nil, List.set_cons_zero, List.set_cons_succ, Nat.reduceLT, Nat.reduceAdd, Nat.reduceSub, if_true, if_false, Bool.false_eq_true, permute, hvs?, datas?, chk_true, store2, Ev.wipe, pc (within_run (n + 2) ((a.nb w hm.1).sm hF (by omega)) r.1 r.2 (by omega)) rfl rfl]) (by
      rw [List.length_zip]
      omega)]
    have e : ∀ h, biV h .all [.fresh ((ws.zip as).map fun _ => .d (.bool true))] = some (rD (.bool true)) := fun h => alldata_run (ws.zip as) (fun _ => true) h (fun _ _ => rfl)
    simp only [exs_nil, exs_cons, ex_asg, ex_par, ex_expr, ex_ret, ex_ite, ev_var, ev_lit, ev_glob, ev_bin, ev_neg, ev_cmp, ev_chain, ev_not, ev_and, ev_or, ev_ite, ev_tup, ev_lst, ev_frz, ev_ix, ev_sl, ev_bi, ev_isi, ev_lr, ev_call, ev_mth, evs_nil, evs_cons, evO_none, evO_some, evT_none, evT_some, evI_seq, evI_r1, evI_enum, evI_zip, List.map_cons, List.map_nil, List.cons_append, List.nil_append, List.replicate, getVar, List.getElem?_cons_zero, List.getElem?_cons_succ, lift_some', bnd_ret, bnd_assoc, look_some', tB, tI, hO, frz_d, frz_f, its_fresh, storeTop, storeAt, setAt, List.length_cons, List.length_nil, List.set_cons_zero, List.set_cons_succ, Nat.reduceLT, Nat.reduceAdd, Nat.reduceSub, if_true, if_false, Bool.false_eq_true, permute, hvs?, datas?, chk_true, e, hW.ls, frz_run, pc (rtotal_run (n + 3) F hF (by omega) ws a.nb (by omega)) rfl rfl, a.sum, eq_is (dat_d _) (dat_d _) (it_rq E) (it_rq E) (by decide) rfl]
  refine call_none (f := f_check_awards) (by rfl) rfl ?_
  simp only [exs_nil, exs_cons, ex_asg, ex_par, ex_expr, ex_ret, ex_ite, ev_var, ev_lit, ev_glob, ev_bin, ev_neg, ev_cmp, ev_chain, ev_not, ev_and, ev_or, ev_ite, ev_tup, ev_lst, ev_frz, ev_ix, ev_sl, ev_bi, ev_isi, ev_lr, ev_call, ev_mth, evs_nil, evs_cons, evO_none, evO_some, evT_none, evT_some, evI_seq, evI_r1, evI_enum, evI_zip, List.map_cons, List.map_nil, List.cons_append, List.nil_append, List.replicate, getVar, List.getElem?_cons_zero, List.getElem?_cons_succ, lift_some', bnd_ret, bnd_assoc, look_some', tB, tI, hO, frz_d, frz_f, its_fresh, storeTop, storeAt, setAt, List.length_cons, List.length_nil, List.set_cons_zero, List.set_cons_succ, Nat.reduceLT, Nat.reduceAdd, Nat.reduceSub, if_true, if_false, Bool.false_eq_true, permute, hvs?, datas?, chk_true, f_check_awards, pc (cshared_run n D h) rfl rfl, pc hr rfl rfl, Bool.not_true]
  exact ⟨_, rfl⟩
/-! ### the contested garment -/
theorem nb_half : Nb 2 (1 / 2) := ⟨⟨1, by decide +kernel⟩, by decide +kernel, by decide +kernel⟩
/-- what stands behind a garment -/
structure Gx (D : Nat) (x y e : Rat) : Prop where
  D0 : 0 < D
  D1 : D < 2 ^ 60
  nx : Nb D x
  ny : Nb D y
  ne : Nb D e
  x0 : 0 ≤ x ∧ x ≤ 1000
  y0 : 0 ≤ y ∧ y ≤ 1000
  e0 : 0 ≤ e ∧ e ≤ 2000
theorem Gx.parts {D : Nat} {x y e : Rat} (h : Gx D x y e) : Nb D (e - mn y e) ∧ Nb D (e - mn x e) ∧ Nb D ((e - mn y e) + (e - mn x e)) ∧ Nb D (e - ((e - mn y e) + (e - mn x e))) ∧ Nb (2 * D) (1 / 2 * (e - ((e - mn y e) + (e - mn x e)))) := by
  have x0 := h.x0
  have y0 := h.y0
  have e0 := h.e0
  have b1 : 0 ≤ mn y e ∧ mn y e ≤ e := ⟨mn_nonneg y0.1 e0.1, mn_le_l _ _⟩
  have b2 : 0 ≤ mn x e ∧ mn x e ≤ e := ⟨mn_nonneg x0.1 e0.1, mn_le_l _ _⟩
  have n1 : Nb D (e - mn y e) := h.ne.sub (mn_nb h.ny h.ne) (by grind) (by grind)
  have n2 : Nb D (e - mn x e) := h.ne.sub (mn_nb h.nx h.ne) (by grind) (by grind)
  have n3 := n1.add n2 (by grind) (by grind)
  have n4 := h.ne.sub n3 (by grind) (by grind)
  exact ⟨n1, n2, n3, n4, nb_half.times n4 (by grind) (by grind)⟩
theorem bothget_run (n D : Nat) {x y e : Rat} (h : Gx D x y e) : callN prog (n + 3) "both_get" [.d (rq x), .d (rq y), .d (rq e)] = Ev.ret (rD (.tuple [rq (cg1 x y e), rq (cg2 x y e)])) := by
  obtain ⟨n1, n2, n3, n4, n5⟩ := h.parts
  have D0 := h.D0
  have D1 := h.D1
  have sx := h.nx.sm D0 (by omega)
  have sy := h.ny.sm D0 (by omega)
  have se := h.ne.sm D0 (by omega)
  have s1 := n1.sm D0 (by omega)
  have s2 := n2.sm D0 (by omega)
  have s3 := n3.sm D0 (by omega)
  have s4 := n4.sm D0 (by omega)
  have s5 := n5.sm (by omega) (by omega)
  have sm1 := (mn_nb h.ny h.ne).sm D0 (by omega)
  have sm2 := (mn_nb h.nx h.ne).sm D0 (by omega)
  refine call_ret (f := f_both_get) (by rfl) rfl ?_
  unfold cg1 cg2
  rw [show f_both_get.body = _ from rfl]
  simp only [exs_nil, exs_cons, ex_asg, ex_par, ex_expr, ex_ret, ex_ite, ev_var, ev_lit, ev_glob, ev_bin, ev_neg, ev_cmp, ev_chain, ev_not, ev_and, ev_or, ev_ite, ev_tup, ev_lst, ev_frz, ev_ix, ev_sl, ev_bi, ev_isi, ev_lr, ev_call, ev_mth, evs_nil, evs_cons, evO_none, evO_some, evT_none, evT_some, evI_seq, evI_r1, evI_enum, evI_zip, List.map_cons, List.map_nil, List.cons_append, List.nil_append, List.replicate, getVar, List.getElem?_cons_zero, List.getElem?_cons_succ, lift_some', bnd_ret, bnd_assoc, look_some', tB, tI, hO, frz_d, frz_f, its_fresh, storeTop, storeAt, setAt, List.length_cons, List.length_nil, List.set_cons_zero, List.set_cons_succ, Nat.reduceLT, Nat.reduceAdd, Nat.reduceSub, if_true, if_false, Bool.false_eq_true, permute, hvs?, datas?, chk_true, f_both_get, pc (leastone_run n sy se) rfl rfl, pc (leastone_run n sx se) rfl rfl, pc (rminus_run n se sm1) rfl rfl, pc (rminus_run n se sm2) rfl rfl, pc (rplus_run n s1 s2) rfl rfl, pc (rminus_run n se s3) rfl rfl, ← half_rat, pc (rtimes_run n sm_half s4) rfl rfl, pc (rplus_run n s1 s5) rfl rfl, pc (rplus_run n s2 s5) rfl rfl, lk2]
  exact ⟨_, rfl⟩
/-- whether i, j share so -/
def PP (c ws : List Rat) (i j : Nat) : Bool := decide (cg1 (c.getD i 0) (c.getD j 0) (ws.getD i 0 + ws.getD j 0) = ws.getD i 0 ∧ cg2 (c.getD i 0) (c.getD j 0) (ws.getD i 0 + ws.getD j 0) = ws.getD j 0)
theorem pair_eq {h : Hp} (a b c d : Rat) : cmpV h .eq (rD (.tuple [rq a, rq b])) (rD (.tuple [rq c, rq d])) = some (decide (a = c ∧ b = d)) := by
  have it : ∀ u v : Rat, It (.tuple [rq u, rq v]) 2 := fun u v => It.tuple fun x hx => by
    simp only [List.mem_cons, List.not_mem_nil, or_false] at hx
    rcases hx with rfl | rfl <;> exact it_rq _
  by_cases e : a = c ∧ b = d
  · rw [decide_eq_true e, e.1, e.2]
    exact eq_is (dat_d _) (dat_d _) (it c d) (it c d) (by decide) rfl
  · rw [decide_eq_false e]
    refine eq_not (dat_d _) (dat_d _) (it a b) (it c d) (by decide) fun z => e ?_
    simp only [PyData.tuple.injEq, List.cons.injEq, and_true] at z
    exact ⟨rq_inj (by show PyData.tuple _ = .tuple _; simp only [PyData.tuple.injEq, List.cons.injEq, and_true]; exact z.1), rq_inj (by show PyData.tuple _ = .tuple _; simp only [PyData.tuple.injEq, List.cons.injEq, and_true]; exact z.2)⟩
theorem pair_ne {h : Hp} (a b c d : Rat) : cmpV h .ne (rD (.tuple [rq a, rq b])) (rD (.tuple [rq c, rq d])) = some (!decide (a = c ∧ b = d)) := by
  have it : ∀ u v : Rat, It (.tuple [rq u, rq v]) 2 := fun u v => It.tuple fun x hx => by
    simp only [List.mem_cons, List.not_mem_nil, or_false] at hx
    rcases hx with rfl | rfl <;> exact it_rq _
  by_cases e : a = c ∧ b = d
  · rw [decide_eq_true e, e.1, e.2]
    exact ne_is (dat_d _) (dat_d _) (it c d) (it c d) (by decide) rfl
  · rw [decide_eq_false e]
    refine ne_not (dat_d _) (dat_d _) (it a b) (it c d) (by decide) fun z => e ?_
    simp only [PyData.tuple.injEq, List.cons.injEq, and_true] at z
    exact ⟨rq_inj (by show PyData.tuple _ = .tuple _; simp only [PyData.tuple.injEq, List.cons.injEq, and_true]; exact z.1), rq_inj (by show PyData.tuple _ = .tuple _; simp only [PyData.tuple.injEq, List.cons.injEq, and_true]; exact z.2)⟩
theorem getD_some {ws : List Rat} {i : Nat} (h : i < ws.length) : ws[i]? = some (ws.getD i 0) := by
  rw [List.getD_eq_getElem?_getD, List.getElem?_eq_getElem h]
  rfl
theorem getD_mem {ws : List Rat} {i : Nat} (h : i < ws.length) : ws.getD i 0 ∈ ws := List.mem_of_getElem? (getD_some h)
/-- what pairs need -/
structure Px (D : Nat) (as : List Int) (ws : List Rat) : Prop where
  ax : Ax as
  D0 : 0 < D
  D1 : D < 2 ^ 60
  len : ws.length = as.length
  nb : ∀ w ∈ ws, Nb D w ∧ 0 ≤ w ∧ w ≤ 1000
theorem Px.gx {D : Nat} {as : List Int} {ws : List Rat} (h : Px D as ws) {i j : Nat} (hi : i < as.length) (hj : j < as.length) : Gx D ((cR as).getD i 0) ((cR as).getD j 0) (ws.getD i 0 + ws.getD j 0) := by
  have w1 := h.nb _ (getD_mem (ws := ws) (i := i) (by rw [h.len]; exact hi))
  have w2 := h.nb _ (getD_mem (ws := ws) (i := j) (by rw [h.len]; exact hj))
  have c1 := h.ax.elt (getD_mem (ws := cR as) (i := i) (by rw [cR_len]; exact hi))
  have c2 := h.ax.elt (getD_mem (ws := cR as) (i := j) (by rw [cR_len]; exact hj))
  exact ⟨h.D0, h.D1, c1.2.2 D, c2.2.2 D, w1.1.add w2.1 (by grind) (by grind), by grind, by grind, by grind⟩
theorem sharesso_run (n D : Nat) {as : List Int} {ws : List Rat} (h : Px D as ws) {W : PyData} (hW : Wq W ws) {i j : Nat} (hi : i < as.length) (hj : j < as.length) : callN prog (n + 4) "shares_so" [.d (.list ((cR as).map rq)), .d W, I (i : Nat), I (j : Nat)] = Ev.ret (rD (.bool (PP (cR as) ws i j))) := by
  have g := h.gx hi hj
  have hC := Wq.list (cR as)
  have x1 := fun hp => hC.ix hp i _ (getD_some (by rw [cR_len]; exact hi))
  have x2 := fun hp => hC.ix hp j _ (getD_some (by rw [cR_len]; exact hj))
  have x3 := fun hp => hW.ix hp i _ (getD_some (by rw [h.len]; exact hi))
  have x4 := fun hp => hW.ix hp j _ (getD_some (by rw [h.len]; exact hj))
  have D1 := h.D1
  have s1 := (h.nb _ (getD_mem (ws := ws) (i := i) (by rw [h.len]; exact hi))).1.sm h.D0 (by omega)
  have s2 := (h.nb _ (getD_mem (ws := ws) (i := j) (by rw [h.len]; exact hj))).1.sm h.D0 (by omega)
  refine call_ret (f := f_shares_so) (by rfl) rfl ?_
  unfold PP
  simp only [exs_nil, exs_cons, ex_asg, ex_par, ex_expr, ex_ret, ex_ite, ev_var, ev_lit, ev_glob, ev_bin, ev_neg, ev_cmp, ev_chain, ev_not, ev_and, ev_or, ev_ite, ev_tup, ev_lst, ev_frz, ev_ix, ev_sl, ev_bi, ev_isi, ev_lr, ev_call, ev_mth, evs_nil, evs_cons, evO_none, evO_some, evT_none, evT_some, evI_seq, evI_r1, evI_enum, evI_zip, List.map_cons, List.map_nil, List.cons_append, List.nil_append, List.replicate, getVar, List.getElem?_cons_zero, List.getElem?_cons_succ, lift_some', bnd_ret, bnd_assoc, look_some', tB, tI, hO, frz_d, frz_f, its_fresh, storeTop, storeAt, setAt, List.length_cons, List.length_nil, List.set_cons_zero, List.set_cons_succ, Nat.reduceLT, Nat.reduceAdd, Nat.reduceSub, if_true, if_false, Bool.false_eq_true, permute, hvs?, datas?, chk_true, f_shares_so, x1, x2, x3, x4, pc (rplus_run (n + 1) s1 s2) rfl rfl, pc (bothget_run n D g) rfl rfl, lk2, pair_eq]
  exact ⟨_, rfl⟩
/-- the first pair that is out -/
def outI (P : Nat → Nat → Bool) (n i : Nat) : Unit ⊕ RV := loopS (fun _ k => if P i (i + 1 + k) then .inl () else .inr (rD (.tuple [.int (i : Nat), .int ((i + 1 + k : Nat) : Int)]))) () (List.range (n - (i + 1)))
def outS (P : Nat → Nat → Bool) (n : Nat) : Unit ⊕ RV := loopS (fun _ i => outI P n i) () (List.range n)
theorem loopS_cases {δ : Type} {step : Unit → δ → Unit ⊕ RV} : ∀ xs : List δ, (loopS step () xs = .inl () ∧ ∀ x ∈ xs, step () x = .inl ()) ∨ ∃ x ∈ xs, ∃ v, step () x = .inr v ∧ loopS step () xs = .inr v
  | [] => .inl ⟨rfl, fun x hx => nomatch hx⟩
  | x :: xs => by
    cases q : step () x with
    | inl s =>
      have e : loopS step () (x :: xs) = loopS step () xs := by
        rw [loopS, q]
      rw [e]
      rcases loopS_cases (step := step) xs with ⟨h1, h2⟩ | ⟨y, hy, v, h1, h2⟩
      · exact .inl ⟨h1, fun y hy => by
          rcases List.mem_cons.mp hy with rfl | hy
          · exact q
          · exact h2 y hy⟩
      · exact .inr ⟨y, List.mem_cons_of_mem _ hy, v, h1, h2⟩
    | inr v =>
      have e : loopS step () (x :: xs) = .inr v := by
        rw [loopS, q]
      exact .inr ⟨x, List.mem_cons_self, v, q, e⟩
theorem outS_cases (P : Nat → Nat → Bool) (n : Nat) : (outS P n = .inl () ∧ ∀ i j, i < j → j < n → P i j = true) ∨ ∃ i j, i < j ∧ j < n ∧ P i j = false ∧ outS P n = .inr (rD (.tuple [.int (i : Nat), .int (j : Nat)])) := by
  unfold outS
  rcases loopS_cases (step := fun _ i => outI P n i) (List.range n) with ⟨h1, h2⟩ | ⟨i, hi, v, h1, h2⟩
  · refine .inl ⟨h1, fun i j hij hj => ?_⟩
    have e := h2 i (List.mem_range.mpr (by omega))
    unfold outI at e
    rcases loopS_cases (step := fun _ k => if P i (i + 1 + k) then .inl () else .inr (rD (.tuple [.int (i : Nat), .int ((i + 1 + k : Nat) : Int)]))) (List.range (n - (i + 1))) with ⟨_, g2⟩ | ⟨k, _, v, _, g2⟩
    · have := g2 (j - (i + 1)) (List.mem_range.mpr (by omega))
      rw [show i + 1 + (j - (i + 1)) = j by omega] at this
      cases q : P i j with
      | true => rfl
      | false =>
        rw [q] at this
        cases this
    · rw [g2] at e
      cases e
  · right
    have hi := List.mem_range.mp hi
    unfold outI at h1
    rcases loopS_cases (step := fun _ k => if P i (i + 1 + k) then .inl () else .inr (rD (.tuple [.int (i : Nat), .int ((i + 1 + k : Nat) : Int)]))) (List.range (n - (i + 1))) with ⟨g1, _⟩ | ⟨k, hk, u, g1, g2⟩
    · rw [g1] at h1
      cases h1
    · have hk := List.mem_range.mp hk
      rw [g2] at h1
      have e := Sum.inr.inj h1
      subst e
      cases q : P i (i + 1 + k) with
      | true =>
        rw [q] at g1
        cases g1
      | false =>
        rw [q] at g1
        have e2 : rD (.tuple [.int (i : Nat), .int ((i + 1 + k : Nat) : Int)]) = u := Sum.inr.inj g1
        subst e2
        exact ⟨i, i + 1 + k, by omega, by omega, q, h2⟩
def outD (P : Nat → Nat → Bool) (n : Nat) : PyData := match outS P n with
  | .inl _ => .none
  | .inr (.hv (.d d)) => d
  | .inr _ => .none
theorem pairout_run (n D F : Nat) {as : List Int} {E : Rat} (h : Sx D as E) (hF : 0 < F) (hF2 : F < 2 ^ 60) {W : PyData} {ws : List Rat} (hW : Wq W ws) (a : Aw F as E ws) (px : Px F as ws) : callN prog (n + 8) "pair_out" [.d (T as), .d (rq E), .d W] = Ev.ret (rD (outD (PP (cR as) ws) as.length)) := by
  have hl8 := h.ax.l8
  refine call_gives (f := f_pair_out) (by rfl) rfl ?_
  unfold f_pair_out
  refine Gives.go (env' := [some (.d (T as)), some (.d (rq E)), some (.d W), none, none, none]) (by
    simp only [exs_nil, exs_cons, ex_asg, ex_par, ex_expr, ex_ret, ex_ite, ev_var, ev_lit, ev_glob, ev_bin, ev_neg, ev_cmp, ev_chain, ev_not, ev_and, ev_or, ev_ite, ev_tup, ev_lst, ev_frz, ev_ix, ev_sl, ev_bi, ev_isi, ev_lr, ev_call, ev_mth, evs_nil, evs_cons, evO_none, evO_some, evT_none, evT_some, evI_seq, evI_r1, evI_enum, evI_zip, List.map_cons, List.map_nil, List.cons_append, List.nil_append, List.replicate, getVar, List.getElem?_cons_zero, List.getElem?_cons_succ, lift_some', bnd_ret, bnd_assoc, look_some', tB, tI, hO, frz_d, frz_f, its_fresh, storeTop, storeAt, setAt, List.length_cons, List.length_nil, List.set_cons_zero, List.set_cons_succ, Nat.reduceLT, Nat.reduceAdd, Nat.reduceSub, if_true, if_false, Bool.false_eq_true, permute, hvs?, datas?, chk_true, pc (cawards_run n D F h hF hF2 hW a) rfl rfl]) ?_
  refine Gives.go (env' := [some (.d (T as)), some (.d (rq E)), some (.d W), some (.d (.list ((cR as).map rq))), none, none]) (by
    simp only [exs_nil, exs_cons, ex_asg, ex_par, ex_expr, ex_ret, ex_ite, ev_var, ev_lit, ev_glob, ev_bin, ev_neg, ev_cmp, ev_chain, ev_not, ev_and, ev_or, ev_ite, ev_tup, ev_lst, ev_frz, ev_ix, ev_sl, ev_bi, ev_isi, ev_lr, ev_call, ev_mth, evs_nil, evs_cons, evO_none, evO_some, evT_none, evT_some, evI_seq, evI_r1, evI_enum, evI_zip, List.map_cons, List.map_nil, List.cons_append, List.nil_append, List.replicate, getVar, List.getElem?_cons_zero, List.getElem?_cons_succ, lift_some', bnd_ret, bnd_assoc, look_some', tB, tI, hO, frz_d, frz_f, its_fresh, storeTop, storeAt, setAt, List.length_cons, List.length_nil, List.set_cons_zero, List.set_cons_succ, Nat.reduceLT, Nat.reduceAdd, Nat.reduceSub, if_true, if_false, Bool.false_eq_true, permute, hvs?, datas?, chk_true, pc (asratios_run (n + 6) as (by omega)) rfl (outOk_map _ _), frz_run]) ?_
  have hlen : ∀ hp, biV hp .len [rD (.list ((cR as).map rq))] = some (rD (.int (as.length : Nat))) := fun hp => by rw [(Wq.list (cR as)).ln, cR_len]
  obtain ⟨env', e, r⟩ := ex_for_loop (C := callN prog (n + 7)) (t := .name 4) (it := .range1 (.bi .len [(.var 3)])) (b := [.for_ (.name 5) (.range2 (.bin .add (.var 4) (.lit (.int 1))) (.bi .len [(.var 3)])) [.ite (.not (.call "shares_so" true [0, 1, 2, 3] [(.var 3), (.var 2), (.var 4), (.var 5)])) [.ret (.tup [(.var 4), (.var 5)])] []]])
    (env := [some (.d (T as)), some (.d (rq E)), some (.d W), some (.d (.list ((cR as).map rq))), none, none]) (fun (_ : Unit) env => ∃ p q, env = [some (.d (T as)), some (.d (rq E)), some (.d W), some (.d (.list ((cR as).map rq))), p, q]) (fun i => I (i : Nat)) (fun _ i => outI (PP (cR as) ws) as.length i) (List.range as.length)
    (evI_rn (by simp only [exs_nil, exs_cons, ex_asg, ex_par, ex_expr, ex_ret, ex_ite, ev_var, ev_lit, ev_glob, ev_bin, ev_neg, ev_cmp, ev_chain, ev_not, ev_and, ev_or, ev_ite, ev_tup, ev_lst, ev_frz, ev_ix, ev_sl, ev_bi, ev_isi, ev_lr, ev_call, ev_mth, evs_nil, evs_cons, evO_none, evO_some, evT_none, evT_some, evI_seq, evI_r1, evI_enum, evI_zip, List.map_cons, List.map_nil, List.cons_append, List.nil_append, List.replicate, getVar, List.getElem?_cons_zero, List.getElem?_cons_succ, lift_some', bnd_ret, bnd_assoc, look_some', tB, tI, hO, frz_d, frz_f, its_fresh, storeTop, storeAt, setAt, List.length_cons, List.length_nil, List.set_cons_zero, List.set_cons_succ, Nat.reduceLT, Nat.reduceAdd, Nat.reduceSub, if_true, if_false, Bool.false_eq_true, permute, hvs?, datas?, chk_true, hlen]) (by omega)) () ⟨_, _, rfl⟩ (fun i hi _ env ⟨p, q, he⟩ => by
      have hi := List.mem_range.mp hi
      subst he
      obtain ⟨env', e, r⟩ := ex_for_loop (C := callN prog (n + 7)) (t := .name 5) (it := .range2 (.bin .add (.var 4) (.lit (.int 1))) (.bi .len [(.var 3)])) (b := [.ite (.not (.call "shares_so" true [0, 1, 2, 3] [(.var 3), (.var 2), (.var 4), (.var 5)])) [.ret (.tup [(.var 4), (.var 5)])] []])
        (env := [some (.d (T as)), some (.d (rq E)), some (.d W), some (.d (.list ((cR as).map rq))), some (I (i : Nat)), q]) (fun (_ : Unit) env => ∃ q, env = [some (.d (T as)), some (.d (rq E)), some (.d W), some (.d (.list ((cR as).map rq))), some (I (i : Nat)), q]) (fun k => I (((i : Nat) : Int) + 1 + (k : Nat)))
        (fun _ k => if PP (cR as) ws i (i + 1 + k) then .inl () else .inr (rD (.tuple [.int (i : Nat), .int ((i + 1 + k : Nat) : Int)]))) (List.range (as.length - (i + 1)))
        (by
          have := evI_r2 (C := callN prog (n + 7)) (env := [some (.d (T as)), some (.d (rq E)), some (.d W), some (.d (.list ((cR as).map rq))), some (I (i : Nat)), q]) (a := .bin .add (.var 4) (.lit (.int 1))) (b := .bi .len [(.var 3)]) (m := (i : Int) + 1) (n := (as.length : Nat)) (by simp only [exs_nil, exs_cons, ex_asg, ex_par, ex_expr, ex_ret, ex_ite, ev_var, ev_lit, ev_glob, ev_bin, ev_neg, ev_cmp, ev_chain, ev_not, ev_and, ev_or, ev_ite, ev_tup, ev_lst, ev_frz, ev_ix, ev_sl, ev_bi, ev_isi, ev_lr, ev_call, ev_mth, evs_nil, evs_cons, evO_none, evO_some, evT_none, evT_some, evI_seq, evI_r1, evI_enum, evI_zip, List.map_cons, List.map_nil, List.cons_append, List.nil_append, List.replicate, getVar, List.getElem?_cons_zero, List.getElem?_cons_succ, lift_some', bnd_ret, bnd_assoc, look_some', tB, tI, hO, frz_d, frz_f, its_fresh, storeTop, storeAt, setAt, List.length_cons, List.length_nil, List.set_cons_zero, List.set_cons_succ, Nat.reduceLT, Nat.reduceAdd, Nat.reduceSub, if_true, if_false, Bool.false_eq_true, permute, hvs?, datas?, chk_true, bin_addI]) (by simp only [exs_nil, exs_cons, ex_asg, ex_par, ex_expr, ex_ret, ex_ite, ev_var, ev_lit, ev_glob, ev_bin, ev_neg, ev_cmp, ev_chain, ev_not, ev_and, ev_or, ev_ite, ev_tup, ev_lst, ev_frz, ev_ix, ev_sl, ev_bi, ev_isi, ev_lr, ev_call, ev_mth, evs_nil, evs_cons, evO_none, evO_some, evT_none, evT_some, evI_seq, evI_r1, evI_enum, evI_zip, List.map_cons, List.map_nil, List.cons_append, List.nil_append, List.replicate, getVar, List.getElem?_cons_zero, List.getElem?_cons_succ, lift_some', bnd_ret, bnd_assoc, look_some', tB, tI, hO, frz_d, frz_f, its_fresh, storeTop, storeAt, setAt, List.length_cons, List.length_nil, List.set_cons_zero, List.set_cons_succ, Nat.reduceLT, Nat.reduceAdd, Nat.reduceSub, if_true, if_false, Bool.false_eq_true, permute, hvs?, datas?, chk_true, hlen]) (by omega) (by omega)
          rw [this, show ((as.length : Nat) - ((i : Int) + 1)).toNat = as.length - (i + 1) by omega]) () ⟨_, rfl⟩ (fun k hk _ env ⟨q, he⟩ => by
          have hk := List.mem_range.mp hk
          subst he
          have ej : ((i : Nat) : Int) + 1 + (k : Nat) = ((i + 1 + k : Nat) : Int) := by omega
          rw [ej]
          refine ⟨[some (.d (T as)), some (.d (rq E)), some (.d W), some (.d (.list ((cR as).map rq))), some (I (i : Nat)), some (I ((i + 1 + k : Nat) : Int))], ?_, fun _ _ => ⟨_, rfl⟩⟩
          simp only [exs_nil, exs_cons, ex_asg, ex_par, ex_expr, ex_ret, ex_ite, ev_var, ev_lit, ev_glob, ev_bin, ev_neg, ev_cmp, ev_chain, ev_not, ev_and, ev_or, ev_ite, ev_tup, ev_lst, ev_frz, ev_ix, ev_sl, ev_bi, ev_isi, ev_lr, ev_call, ev_mth, evs_nil, evs_cons, evO_none, evO_some, evT_none, evT_some, evI_seq, evI_r1, evI_enum, evI_zip, List.map_cons, List.map_nil, List.cons_append, List.nil_append, List.replicate, getVar, List.getElem?_cons_zero, List.getElem?_cons_succ, lift_some', bnd_ret, bnd_assoc, look_some', tB, tI, hO, frz_d, frz_f, its_fresh, storeTop, storeAt, setAt, List.length_cons, List.length_nil, List.set_cons_zero, List.set_cons_succ, Nat.reduceLT, Nat.reduceAdd, Nat.reduceSub, if_true, if_false, Bool.false_eq_true, permute, hvs?, datas?, chk_true, store_name, pc (sharesso_run (n + 3) F px hW (i := i) (j := i + 1 + k) (by omega) (by omega)) rfl rfl]
          cases PP (cR as) ws i (i + 1 + k) with
          | true =>
            simp only [exs_nil, exs_cons, ex_asg, ex_par, ex_expr, ex_ret, ex_ite, ev_var, ev_lit, ev_glob, ev_bin, ev_neg, ev_cmp, ev_chain, ev_not, ev_and, ev_or, ev_ite, ev_tup, ev_lst, ev_frz, ev_ix, ev_sl, ev_bi, ev_isi, ev_lr, ev_call, ev_mth, evs_nil, evs_cons, evO_none, evO_some, evT_none, evT_some, evI_seq, evI_r1, evI_enum, evI_zip, List.map_cons, List.map_nil, List.cons_append, List.nil_append, List.replicate, getVar, List.getElem?_cons_zero, List.getElem?_cons_succ, lift_some', bnd_ret, bnd_assoc, look_some', tB, tI, hO, frz_d, frz_f, its_fresh, storeTop, storeAt, setAt, List.length_cons, List.length_nil, List.set_cons_zero, List.set_cons_succ, Nat.reduceLT, Nat.reduceAdd, Nat.reduceSub, if_true, if_false, Bool.false_eq_true, permute, hvs?, datas?, chk_true, Bool.not_true]
            rfl
          | false =>
            simp only [exs_nil, exs_cons, ex_asg, ex_par, ex_expr, ex_ret, ex_ite, ev_var, ev_lit, ev_glob, ev_bin, ev_neg, ev_cmp, ev_chain, ev_not, ev_and, ev_or, ev_ite, ev_tup, ev_lst, ev_frz, ev_ix, ev_sl, ev_bi, ev_isi, ev_lr, ev_call, ev_mth, evs_nil, evs_cons, evO_none, evO_some, evT_none, evT_some, evI_seq, evI_r1, evI_enum, evI_zip, List.map_cons, List.map_nil, List.cons_append, List.nil_append, List.replicate, getVar, List.getElem?_cons_zero, List.getElem?_cons_succ, lift_some', bnd_ret, bnd_assoc, look_some', tB, tI, hO, frz_d, frz_f, its_fresh, storeTop, storeAt, setAt, List.length_cons, List.length_nil, List.set_cons_zero, List.set_cons_succ, Nat.reduceLT, Nat.reduceAdd, Nat.reduceSub, if_true, if_false, Bool.false_eq_true, permute, hvs?, datas?, chk_true, Bool.not_false, lk2]
            rfl)
      refine ⟨env', ?_, fun s' es => ?_⟩
      · simp only [exs_nil, exs_cons, ex_asg, ex_par, ex_expr, ex_ret, ex_ite, ev_var, ev_lit, ev_glob, ev_bin, ev_neg, ev_cmp, ev_chain, ev_not, ev_and, ev_or, ev_ite, ev_tup, ev_lst, ev_frz, ev_ix, ev_sl, ev_bi, ev_isi, ev_lr, ev_call, ev_mth, evs_nil, evs_cons, evO_none, evO_some, evT_none, evT_some, evI_seq, evI_r1, evI_enum, evI_zip, List.map_cons, List.map_nil, List.cons_append, List.nil_append, List.replicate, getVar, List.getElem?_cons_zero, List.getElem?_cons_succ, lift_some', bnd_ret, bnd_assoc, look_some', tB, tI, hO, frz_d, frz_f, its_fresh, storeTop, storeAt, setAt, List.length_cons, List.length_nil, List.set_cons_zero, List.set_cons_succ, Nat.reduceLT, Nat.reduceAdd, Nat.reduceSub, if_true, if_false, Bool.false_eq_true, permute, hvs?, datas?, chk_true, store_name]
        rw [e, bnd_ret]
        unfold outI
        generalize loopS _ _ _ = o
        cases o <;> rfl
      · obtain ⟨q', hq⟩ := r s' es
        exact ⟨_, _, hq⟩)
  rcases outS_cases (PP (cR as) ws) as.length with ⟨h1, _⟩ | ⟨i, j, _, _, _, h1⟩
  · have ed : outD (PP (cR as) ws) as.length = .none := by
      unfold outD
      rw [h1]
    rw [ed]
    obtain ⟨p, q, rfl⟩ := r () h1
    exact Gives.loopL e h1 (Gives.ret (by simp only [exs_nil, exs_cons, ex_asg, ex_par, ex_expr, ex_ret, ex_ite, ev_var, ev_lit, ev_glob, ev_bin, ev_neg, ev_cmp, ev_chain, ev_not, ev_and, ev_or, ev_ite, ev_tup, ev_lst, ev_frz, ev_ix, ev_sl, ev_bi, ev_isi, ev_lr, ev_call, ev_mth, evs_nil, evs_cons, evO_none, evO_some, evT_none, evT_some, evI_seq, evI_r1, evI_enum, evI_zip, List.map_cons, List.map_nil, List.cons_append, List.nil_append, List.replicate, getVar, List.getElem?_cons_zero, List.getElem?_cons_succ, lift_some', bnd_ret, bnd_assoc, look_some', tB, tI, hO, frz_d, frz_f, its_fresh, storeTop, storeAt, setAt, List.length_cons, List.length_nil, List.set_cons_zero, List.set_cons_succ, Nat.reduceLT, Nat.reduceAdd, Nat.reduceSub, if_true, if_false, Bool.false_eq_true, permute, hvs?, datas?, chk_true]))
  · have ed : outD (PP (cR as) ws) as.length = .tuple [.int (i : Nat), .int (j : Nat)] := by
      unfold outD
      rw [h1]
    rw [ed]
    exact Gives.loopR e h1
end Lw

set_option linter.all false
set_option Elab.async false
set_option maxRecDepth 100000
set_option maxHeartbeats 4000000
/-! N7: garments of two, least amounts. -/
namespace Lw
open PySem Ev
theorem map_rq (c : List Rat) (f : Rat → Rat) : (c.map fun x => rq (f x)) = (c.map f).map rq := by
  rw [List.map_map]
  rfl
theorem bygarment_run (n D : Nat) (D0 : 0 < D) (D1 : D < 2 ^ 60) {a b : Int} {e : Rat} (ha : 1 ≤ a ∧ a ≤ 99) (hb : 1 ≤ b ∧ b ≤ 99) (ne : Nb D e) (e0 : 0 ≤ e) (e1 : e ≤ (((a + b : Int)) : Rat)) : callN prog (n + 5) "by_garment" [I a, I b, .d (rq e)] = Ev.ret (rD (.tuple [rq (cg1 ((a : Int) : Rat) ((b : Int) : Rat) e), rq (cg2 ((a : Int) : Rat) ((b : Int) : Rat) e)])) := by
  have r1 := Rat.intCast_le_intCast.mpr (show a ≤ 99 by omega)
  have r2 := Rat.intCast_le_intCast.mpr (show b ≤ 99 by omega)
  have r3 := Rat.intCast_le_intCast.mpr (show 1 ≤ a by omega)
  have r4 := Rat.intCast_le_intCast.mpr (show 1 ≤ b by omega)
  have r1 : ((a : Int) : Rat) ≤ 99 := r1
  have r2 : ((b : Int) : Rat) ≤ 99 := r2
  have r3 : 1 ≤ ((a : Int) : Rat) := r3
  have r4 : 1 ≤ ((b : Int) : Rat) := r4
  have e1' : e ≤ ((a : Int) : Rat) + ((b : Int) : Rat) := by rw [← Rat.intCast_add]; exact e1
  have na : Nb D ((a : Int) : Rat) := Nb.int (by omega) (by omega)
  have nb : Nb D ((b : Int) : Rat) := Nb.int (by omega) (by omega)
  refine call_gives (f := f_by_garment) (by rfl) rfl ?_
  unfold f_by_garment
  obtain ⟨env', ⟨p, rfl⟩, e2⟩ := ex_for_fold (C := callN prog (n + 4)) (t := .name 3) (it := .seq (.tup [(.var 0), (.var 1)])) (b := [.ite (.not (.call "claim_is_right" true [0] [(.var 3)])) [.never] []]) (env := [some (I a), some (I b), some (.d (rq e)), none])
    (fun (_ : Unit) env => ∃ p, env = [some (I a), some (I b), some (.d (rq e)), p]) (fun i => I i) (fun s _ => s) [a, b] (by simp only [exs_nil, exs_cons, ex_asg, ex_par, ex_expr, ex_ret, ex_ite, ev_var, ev_lit, ev_glob, ev_bin, ev_neg, ev_cmp, ev_chain, ev_not, ev_and, ev_or, ev_ite, ev_tup, ev_lst, ev_frz, ev_ix, ev_sl, ev_bi, ev_isi, ev_lr, ev_call, ev_mth, evs_nil, evs_cons, evO_none, evO_some, evT_none, evT_some, evI_seq, evI_r1, evI_enum, evI_zip, List.map_cons, List.map_nil, List.cons_append, List.nil_append, List.replicate, getVar, List.getElem?_cons_zero, List.getElem?_cons_succ, lift_some', bnd_ret, bnd_assoc, look_some', tB, tI, hO, frz_d, frz_f, its_fresh, storeTop, storeAt, setAt, List.length_cons, List.length_nil, List.set_cons_zero, List.set_cons_succ, Nat.reduceLT, Nat.reduceAdd, Nat.reduceSub, if_true, if_false, Bool.false_eq_true, permute, hvs?, datas?, chk_true, lk2] <;> rfl) () ⟨_, rfl⟩ (fun x hx _ env ⟨p, he⟩ => by
      subst he
      have hx : 1 ≤ x ∧ x ≤ 99 := by
        simp only [List.mem_cons, List.not_mem_nil, or_false] at hx
        rcases hx with rfl | rfl <;> assumption
      refine ⟨_, ⟨some (I x), rfl⟩, ?_⟩
      simp only [exs_nil, exs_cons, ex_asg, ex_par, ex_expr, ex_ret, ex_ite, ev_var, ev_lit, ev_glob, ev_bin, ev_neg, ev_cmp, ev_chain, ev_not, ev_and, ev_or, ev_ite, ev_tup, ev_lst, ev_frz, ev_ix, ev_sl, ev_bi, ev_isi, ev_lr, ev_call, ev_mth, evs_nil, evs_cons, evO_none, evO_some, evT_none, evT_some, evI_seq, evI_r1, evI_enum, evI_zip, List.map_cons, List.map_nil, List.cons_append, List.nil_append, List.replicate, getVar, List.getElem?_cons_zero, List.getElem?_cons_succ, lift_some', bnd_ret, bnd_assoc, look_some', tB, tI, hO, frz_d, frz_f, its_fresh, storeTop, storeAt, setAt, List.length_cons, List.length_nil, List.set_cons_zero, List.set_cons_succ, Nat.reduceLT, Nat.reduceAdd, Nat.reduceSub, if_true, if_false, Bool.false_eq_true, permute, hvs?, datas?, chk_true, store_name, pc (claim_run (n + 1) x hx) rfl rfl, Bool.not_true])
  refine Gives.go e2 ?_
  refine Gives.go (env' := [some (I a), some (I b), some (.d (rq e)), p]) (by
    simp only [exs_nil, exs_cons, ex_asg, ex_par, ex_expr, ex_ret, ex_ite, ev_var, ev_lit, ev_glob, ev_bin, ev_neg, ev_cmp, ev_chain, ev_not, ev_and, ev_or, ev_ite, ev_tup, ev_lst, ev_frz, ev_ix, ev_sl, ev_bi, ev_isi, ev_lr, ev_call, ev_mth, evs_nil, evs_cons, evO_none, evO_some, evT_none, evT_some, evI_seq, evI_r1, evI_enum, evI_zip, List.map_cons, List.map_nil, List.cons_append, List.nil_append, List.replicate, getVar, List.getElem?_cons_zero, List.getElem?_cons_succ, lift_some', bnd_ret, bnd_assoc, look_some', tB, tI, hO, frz_d, frz_f, its_fresh, storeTop, storeAt, setAt, List.length_cons, List.length_nil, List.set_cons_zero, List.set_cons_succ, Nat.reduceLT, Nat.reduceAdd, Nat.reduceSub, if_true, if_false, Bool.false_eq_true, permute, hvs?, datas?, chk_true, bin_addI, pc (amount_run n (ne.sm D0 (by omega)) e0 e1 (by omega)) rfl rfl]) ?_
  exact Gives.ret (by
    simp only [exs_nil, exs_cons, ex_asg, ex_par, ex_expr, ex_ret, ex_ite, ev_var, ev_lit, ev_glob, ev_bin, ev_neg, ev_cmp, ev_chain, ev_not, ev_and, ev_or, ev_ite, ev_tup, ev_lst, ev_frz, ev_ix, ev_sl, ev_bi, ev_isi, ev_lr, ev_call, ev_mth, evs_nil, evs_cons, evO_none, evO_some, evT_none, evT_some, evI_seq, evI_r1, evI_enum, evI_zip, List.map_cons, List.map_nil, List.cons_append, List.nil_append, List.replicate, getVar, List.getElem?_cons_zero, List.getElem?_cons_succ, lift_some', bnd_ret, bnd_assoc, look_some', tB, tI, hO, frz_d, frz_f, its_fresh, storeTop, storeAt, setAt, List.length_cons, List.length_nil, List.set_cons_zero, List.set_cons_succ, Nat.reduceLT, Nat.reduceAdd, Nat.reduceSub, if_true, if_false, Bool.false_eq_true, permute, hvs?, datas?, chk_true, lk2, int_hv, pc (bothget_run (n + 1) D ⟨D0, D1, na, nb, ne, by grind, by grind, by grind⟩) rfl rfl])
/-- what stands behind a least amount -/
structure Lx (D : Nat) (as : List Int) (i : Nat) (a : Int) (num : Rat) : Prop where
  ax : Ax as
  D0 : 0 < D
  D1 : D < 2 ^ 60
  hi : i < as.length
  ha : as[i]? = some a
  nn : Nb D num
  n0 : 0 ≤ num
  n1 : num ≤ ((a : Int) : Rat)
theorem Lx.am {D i : Nat} {as : List Int} {a : Int} {num : Rat} (h : Lx D as i a num) : a ∈ as := List.mem_of_getElem? h.ha
theorem Lx.ci {D i : Nat} {as : List Int} {a : Int} {num : Rat} (h : Lx D as i a num) : (cR as)[i]? = some ((a : Int) : Rat) := by
  unfold cR
  rw [List.getElem?_map, h.ha]
  rfl
def lstv (r : Ru) (c : List Rat) (x num : Rat) : Rat := match r with
  | .a => sm c num
  | _ => if num = 0 then 0 else c.sum - sm c (x - num)
theorem ixT {as : List Int} {i : Nat} {a : Int} (e : as[i]? = some a) (h : Hp) : ixV h (rD (T as)) (i : Nat) = some (rD (.int a)) := ix_tup (Int.natCast_nonneg _) (by rw [Int.toNat_natCast, List.getElem?_map, e]; rfl) h
theorem num0_eq {h : Hp} (x : Rat) : cmpV h .eq (rD (rq x)) (rD (.tuple [.int 0, .int 1])) = some (decide (x = 0)) := by
  have e : PyData.tuple [.int 0, .int 1] = rq 0 := by
    have := rq_int 0
    exact this.symm
  rw [e]
  by_cases q : x = 0
  · rw [decide_eq_true q, q]
    exact eq_is (dat_d _) (dat_d _) (it_rq 0) (it_rq 0) (by decide) rfl
  · rw [decide_eq_false q]
    exact eq_not (dat_d _) (dat_d _) (it_rq x) (it_rq 0) (by decide) fun z => q (rq_inj z)
theorem rq_zero : rq 0 = .tuple [.int 0, .int 1] := rq_int 0
theorem leastamount_run (r : Ru) (hr : r = .a ∨ r = .l) (n D : Nat) {as : List Int} {i : Nat} {a : Int} {num : Rat} (h : Lx D as i a num) : callN prog (n + 6) "least_amount" [.d (.str r.name), .d (T as), I (i : Nat), .d (rq num)] = Ev.ret (rD (rq (lstv r (cR as) ((a : Int) : Rat) num))) := by
  have ha := h.ax.rg a h.am
  have hl8 := h.ax.l8
  have hi := h.hi
  have D0 := h.D0
  have D1 := h.D1
  have hlen := cR_len as
  have sn := h.nn.sm D0 (by omega)
  have hel : ∀ x ∈ cR as, Nb D x ∧ 1 ≤ x ∧ x ≤ 99 := fun x hx => ⟨(h.ax.elt hx).2.2 D, (h.ax.elt hx).1, (h.ax.elt hx).2.1⟩
  have sx : ∀ x ∈ cR as, Sm x := fun x hx => (hel x hx).1.sm D0 (by omega)
  have n0 := h.n0
  have n1 := h.n1
  have ra : ((a : Int) : Rat) ≤ 99 := Rat.intCast_le_intCast.mpr ha.2
  refine call_gives (f := f_least_amount) (by rfl) rfl ?_
  unfold f_least_amount
  have eN : ∀ hp, cmpV hp .notIn (rD (.str r.name)) (rD (.tuple [.str "awards", .str "losses"])) = some false := fun hp => by
    rcases hr with rfl | rfl <;> kernel_rfl
  refine Gives.go (env' := [some (.d (.str r.name)), some (.d (T as)), some (I (i : Nat)), some (.d (rq num)), none, none, none]) (by
    simp only [exs_nil, exs_cons, ex_asg, ex_par, ex_expr, ex_ret, ex_ite, ev_var, ev_lit, ev_glob, ev_bin, ev_neg, ev_cmp, ev_chain, ev_not, ev_and, ev_or, ev_ite, ev_tup, ev_lst, ev_frz, ev_ix, ev_sl, ev_bi, ev_isi, ev_lr, ev_call, ev_mth, evs_nil, evs_cons, evO_none, evO_some, evT_none, evT_some, evI_seq, evI_r1, evI_enum, evI_zip, List.map_cons, List.map_nil, List.cons_append, List.nil_append, List.replicate, getVar, List.getElem?_cons_zero, List.getElem?_cons_succ, lift_some', bnd_ret, bnd_assoc, look_some', tB, tI, hO, frz_d, frz_f, its_fresh, storeTop, storeAt, setAt, List.length_cons, List.length_nil, List.set_cons_zero, List.set_cons_succ, Nat.reduceLT, Nat.reduceAdd, Nat.reduceSub, if_true, if_false, Bool.false_eq_true, permute, hvs?, datas?, chk_true, pc (crule_run r (n + 4)) rfl rfl]) ?_
  refine Gives.go (env' := [some (.d (.str r.name)), some (.d (T as)), some (I (i : Nat)), some (.d (rq num)), none, none, none]) (by
    simp only [exs_nil, exs_cons, ex_asg, ex_par, ex_expr, ex_ret, ex_ite, ev_var, ev_lit, ev_glob, ev_bin, ev_neg, ev_cmp, ev_chain, ev_not, ev_and, ev_or, ev_ite, ev_tup, ev_lst, ev_frz, ev_ix, ev_sl, ev_bi, ev_isi, ev_lr, ev_call, ev_mth, evs_nil, evs_cons, evO_none, evO_some, evT_none, evT_some, evI_seq, evI_r1, evI_enum, evI_zip, List.map_cons, List.map_nil, List.cons_append, List.nil_append, List.replicate, getVar, List.getElem?_cons_zero, List.getElem?_cons_succ, lift_some', bnd_ret, bnd_assoc, look_some', tB, tI, hO, frz_d, frz_f, its_fresh, storeTop, storeAt, setAt, List.length_cons, List.length_nil, List.set_cons_zero, List.set_cons_succ, Nat.reduceLT, Nat.reduceAdd, Nat.reduceSub, if_true, if_false, Bool.false_eq_true, permute, hvs?, datas?, chk_true, lk2, eN]) ?_
  refine Gives.go (env' := [some (.d (.str r.name)), some (.d (T as)), some (I (i : Nat)), some (.d (rq num)), none, none, none]) (by
    simp only [exs_nil, exs_cons, ex_asg, ex_par, ex_expr, ex_ret, ex_ite, ev_var, ev_lit, ev_glob, ev_bin, ev_neg, ev_cmp, ev_chain, ev_not, ev_and, ev_or, ev_ite, ev_tup, ev_lst, ev_frz, ev_ix, ev_sl, ev_bi, ev_isi, ev_lr, ev_call, ev_mth, evs_nil, evs_cons, evO_none, evO_some, evT_none, evT_some, evI_seq, evI_r1, evI_enum, evI_zip, List.map_cons, List.map_nil, List.cons_append, List.nil_append, List.replicate, getVar, List.getElem?_cons_zero, List.getElem?_cons_succ, lift_some', bnd_ret, bnd_assoc, look_some', tB, tI, hO, frz_d, frz_f, its_fresh, storeTop, storeAt, setAt, List.length_cons, List.length_nil, List.set_cons_zero, List.set_cons_succ, Nat.reduceLT, Nat.reduceAdd, Nat.reduceSub, if_true, if_false, Bool.false_eq_true, permute, hvs?, datas?, chk_true, pc (asked_run n h.ax) rfl rfl]) ?_
  refine Gives.go (env' := [some (.d (.str r.name)), some (.d (T as)), some (I (i : Nat)), some (.d (rq num)), none, none, none]) (by
    simp only [exs_nil, exs_cons, ex_asg, ex_par, ex_expr, ex_ret, ex_ite, ev_var, ev_lit, ev_glob, ev_bin, ev_neg, ev_cmp, ev_chain, ev_not, ev_and, ev_or, ev_ite, ev_tup, ev_lst, ev_frz, ev_ix, ev_sl, ev_bi, ev_isi, ev_lr, ev_call, ev_mth, evs_nil, evs_cons, evO_none, evO_some, evT_none, evT_some, evI_seq, evI_r1, evI_enum, evI_zip, List.map_cons, List.map_nil, List.cons_append, List.nil_append, List.replicate, getVar, List.getElem?_cons_zero, List.getElem?_cons_succ, lift_some', bnd_ret, bnd_assoc, look_some', tB, tI, hO, frz_d, frz_f, its_fresh, storeTop, storeAt, setAt, List.length_cons, List.length_nil, List.set_cons_zero, List.set_cons_succ, Nat.reduceLT, Nat.reduceAdd, Nat.reduceSub, if_true, if_false, Bool.false_eq_true, permute, hvs?, datas?, chk_true, len_T, pc (ispos_run (n + 3) (i : Nat) (as.length : Nat)) rfl rfl, decide_eq_true (show (0 : Int) ≤ (i : Nat) by omega), decide_eq_true (show ((i : Nat) : Int) < (as.length : Nat) by omega), Bool.and_self, Bool.not_true]) ?_
  refine Gives.go (env' := [some (.d (.str r.name)), some (.d (T as)), some (I (i : Nat)), some (.d (rq num)), none, none, none]) (by
    simp only [exs_nil, exs_cons, ex_asg, ex_par, ex_expr, ex_ret, ex_ite, ev_var, ev_lit, ev_glob, ev_bin, ev_neg, ev_cmp, ev_chain, ev_not, ev_and, ev_or, ev_ite, ev_tup, ev_lst, ev_frz, ev_ix, ev_sl, ev_bi, ev_isi, ev_lr, ev_call, ev_mth, evs_nil, evs_cons, evO_none, evO_some, evT_none, evT_some, evI_seq, evI_r1, evI_enum, evI_zip, List.map_cons, List.map_nil, List.cons_append, List.nil_append, List.replicate, getVar, List.getElem?_cons_zero, List.getElem?_cons_succ, lift_some', bnd_ret, bnd_assoc, look_some', tB, tI, hO, frz_d, frz_f, its_fresh, storeTop, storeAt, setAt, List.length_cons, List.length_nil, List.set_cons_zero, List.set_cons_succ, Nat.reduceLT, Nat.reduceAdd, Nat.reduceSub, if_true, if_false, Bool.false_eq_true, permute, hvs?, datas?, chk_true, ixT h.ha, pc (amount_run (n + 1) sn h.n0 h.n1 (by omega)) rfl rfl]) ?_
  refine Gives.go (env' := [some (.d (.str r.name)), some (.d (T as)), some (I (i : Nat)), some (.d (rq num)), some (.d (.list ((cR as).map rq))), none, none]) (by
    simp only [exs_nil, exs_cons, ex_asg, ex_par, ex_expr, ex_ret, ex_ite, ev_var, ev_lit, ev_glob, ev_bin, ev_neg, ev_cmp, ev_chain, ev_not, ev_and, ev_or, ev_ite, ev_tup, ev_lst, ev_frz, ev_ix, ev_sl, ev_bi, ev_isi, ev_lr, ev_call, ev_mth, evs_nil, evs_cons, evO_none, evO_some, evT_none, evT_some, evI_seq, evI_r1, evI_enum, evI_zip, List.map_cons, List.map_nil, List.cons_append, List.nil_append, List.replicate, getVar, List.getElem?_cons_zero, List.getElem?_cons_succ, lift_some', bnd_ret, bnd_assoc, look_some', tB, tI, hO, frz_d, frz_f, its_fresh, storeTop, storeAt, setAt, List.length_cons, List.length_nil, List.set_cons_zero, List.set_cons_succ, Nat.reduceLT, Nat.reduceAdd, Nat.reduceSub, if_true, if_false, Bool.false_eq_true, permute, hvs?, datas?, chk_true, pc (asratios_run (n + 4) as (by omega)) rfl (outOk_map _ _), frz_run]) ?_
  have tot : ∀ (f : Rat → Rat), (∀ x ∈ cR as, Nb D (f x)) → runCall (callN prog (n + 5)) "r_total" true [.d (.list ((cR as).map fun x => rq (f x)))] = Ev.ret (rD (rq (((cR as).map f).sum))) := fun f hf => by
    rw [map_rq]
    exact pc (rtotal_run (n + 3) D D0 (by omega) ((cR as).map f) (fun y hy => by
      obtain ⟨x, hx, rfl⟩ := List.mem_map.mp hy
      exact hf x hx) (by rw [List.length_map]; omega)) rfl rfl
  rcases hr with rfl | rfl
  · simp only [Ru.name]
    refine Gives.stop (env' := [some (.d (.str "awards")), some (.d (T as)), some (I (i : Nat)), some (.d (rq num)), some (.d (.list ((cR as).map rq))), none, none]) ?_
    simp only [exs_nil, exs_cons, ex_asg, ex_par, ex_expr, ex_ret, ex_ite, ev_var, ev_lit, ev_glob, ev_bin, ev_neg, ev_cmp, ev_chain, ev_not, ev_and, ev_or, ev_ite, ev_tup, ev_lst, ev_frz, ev_ix, ev_sl, ev_bi, ev_isi, ev_lr, ev_call, ev_mth, evs_nil, evs_cons, evO_none, evO_some, evT_none, evT_some, evI_seq, evI_r1, evI_enum, evI_zip, List.map_cons, List.map_nil, List.cons_append, List.nil_append, List.replicate, getVar, List.getElem?_cons_zero, List.getElem?_cons_succ, lift_some', bnd_ret, bnd_assoc, look_some', tB, tI, hO, frz_d, frz_f, its_fresh, storeTop, storeAt, setAt, List.length_cons, List.length_nil, List.set_cons_zero, List.set_cons_succ, Nat.reduceLT, Nat.reduceAdd, Nat.reduceSub, if_true, if_false, Bool.false_eq_true, permute, hvs?, datas?, chk_true, seq_str, beq_self_eq_true]
    rw [ev_compM (cR as) (fun x => .d (rq x)) (fun x => .d (rq (mn x num))) (by simp only [exs_nil, exs_cons, ex_asg, ex_par, ex_expr, ex_ret, ex_ite, ev_var, ev_lit, ev_glob, ev_bin, ev_neg, ev_cmp, ev_chain, ev_not, ev_and, ev_or, ev_ite, ev_tup, ev_lst, ev_frz, ev_ix, ev_sl, ev_bi, ev_isi, ev_lr, ev_call, ev_mth, evs_nil, evs_cons, evO_none, evO_some, evT_none, evT_some, evI_seq, evI_r1, evI_enum, evI_zip, List.map_cons, List.map_nil, List.cons_append, List.nil_append, List.replicate, getVar, List.getElem?_cons_zero, List.getElem?_cons_succ, lift_some', bnd_ret, bnd_assoc, look_some', tB, tI, hO, frz_d, frz_f, its_fresh, storeTop, storeAt, setAt, List.length_cons, List.length_nil, List.set_cons_zero, List.set_cons_succ, Nat.reduceLT, Nat.reduceAdd, Nat.reduceSub, if_true, if_false, Bool.false_eq_true, permute, hvs?, datas?, chk_true, its_rq]) (fun x hx => by
      unfold turnOf
      simp only [exs_nil, exs_cons, ex_asg, ex_par, ex_expr, ex_ret, ex_ite, ev_var, ev_lit, ev_glob, ev_bin, ev_neg, ev_cmp, ev_chain, ev_not, ev_and, ev_or, ev_ite, ev_tup, ev_lst, ev_frz, ev_ix, ev_sl, ev_bi, ev_isi, ev_lr, ev_call, ev_mth, evs_nil, evs_cons, evO_none, evO_some, evT_none, evT_some, evI_seq, evI_r1, evI_enum, evI_zip, List.map_cons, List.map_nil, List.cons_append, List.nil_append, List.replicate, getVar, List.getElem?_cons_zero, List.getElem?_cons_succ, lift_some', bnd_ret, bnd_assoc, look_some', tB, tI, hO, frz_d, frz_f, its_fresh, storeTop, storeAt, setAt, List.length_cons, List.length_nil, List.set_cons_zero, List.set_cons_succ, Nat.reduceLT, Nat.reduceAdd, Nat.reduceSub, if_true, if_false, Bool.false_eq_true, permute, hvs?, datas?, chk_true, store_name, Ev.wipe, pc (leastone_run (n + 3) (sx x hx) sn) rfl rfl]) (by omega)]
    simp only [exs_nil, exs_cons, ex_asg, ex_par, ex_expr, ex_ret, ex_ite, ev_var, ev_lit, ev_glob, ev_bin, ev_neg, ev_cmp, ev_chain, ev_not, ev_and, ev_or, ev_ite, ev_tup, ev_lst, ev_frz, ev_ix, ev_sl, ev_bi, ev_isi, ev_lr, ev_call, ev_mth, evs_nil, evs_cons, evO_none, evO_some, evT_none, evT_some, evI_seq, evI_r1, evI_enum, evI_zip, List.map_cons, List.map_nil, List.cons_append, List.nil_append, List.replicate, getVar, List.getElem?_cons_zero, List.getElem?_cons_succ, lift_some', bnd_ret, bnd_assoc, look_some', tB, tI, hO, frz_d, frz_f, its_fresh, storeTop, storeAt, setAt, List.length_cons, List.length_nil, List.set_cons_zero, List.set_cons_succ, Nat.reduceLT, Nat.reduceAdd, Nat.reduceSub, if_true, if_false, Bool.false_eq_true, permute, hvs?, datas?, chk_true, frz_run, tot (fun x => mn x num) (fun x hx => mn_nb (hel x hx).1 h.nn)]
    rfl
  · simp only [Ru.name]
    refine Gives.go (env' := [some (.d (.str "losses")), some (.d (T as)), some (I (i : Nat)), some (.d (rq num)), some (.d (.list ((cR as).map rq))), none, none]) (by
      simp only [exs_nil, exs_cons, ex_asg, ex_par, ex_expr, ex_ret, ex_ite, ev_var, ev_lit, ev_glob, ev_bin, ev_neg, ev_cmp, ev_chain, ev_not, ev_and, ev_or, ev_ite, ev_tup, ev_lst, ev_frz, ev_ix, ev_sl, ev_bi, ev_isi, ev_lr, ev_call, ev_mth, evs_nil, evs_cons, evO_none, evO_some, evT_none, evT_some, evI_seq, evI_r1, evI_enum, evI_zip, List.map_cons, List.map_nil, List.cons_append, List.nil_append, List.replicate, getVar, List.getElem?_cons_zero, List.getElem?_cons_succ, lift_some', bnd_ret, bnd_assoc, look_some', tB, tI, hO, frz_d, frz_f, its_fresh, storeTop, storeAt, setAt, List.length_cons, List.length_nil, List.set_cons_zero, List.set_cons_succ, Nat.reduceLT, Nat.reduceAdd, Nat.reduceSub, if_true, if_false, Bool.false_eq_true, permute, hvs?, datas?, chk_true, seq_str, b_la] <;> rfl) ?_
    unfold lstv
    dsimp only
    by_cases q : num = 0
    · rw [if_pos q, rq_zero]
      refine Gives.stop (env' := [some (.d (.str "losses")), some (.d (T as)), some (I (i : Nat)), some (.d (rq num)), some (.d (.list ((cR as).map rq))), none, none]) ?_
      simp only [exs_nil, exs_cons, ex_asg, ex_par, ex_expr, ex_ret, ex_ite, ev_var, ev_lit, ev_glob, ev_bin, ev_neg, ev_cmp, ev_chain, ev_not, ev_and, ev_or, ev_ite, ev_tup, ev_lst, ev_frz, ev_ix, ev_sl, ev_bi, ev_isi, ev_lr, ev_call, ev_mth, evs_nil, evs_cons, evO_none, evO_some, evT_none, evT_some, evI_seq, evI_r1, evI_enum, evI_zip, List.map_cons, List.map_nil, List.cons_append, List.nil_append, List.replicate, getVar, List.getElem?_cons_zero, List.getElem?_cons_succ, lift_some', bnd_ret, bnd_assoc, look_some', tB, tI, hO, frz_d, frz_f, its_fresh, storeTop, storeAt, setAt, List.length_cons, List.length_nil, List.set_cons_zero, List.set_cons_succ, Nat.reduceLT, Nat.reduceAdd, Nat.reduceSub, if_true, if_false, Bool.false_eq_true, permute, hvs?, datas?, chk_true, num0_eq, decide_eq_true q]
    · rw [if_neg q]
      refine Gives.go (env' := [some (.d (.str "losses")), some (.d (T as)), some (I (i : Nat)), some (.d (rq num)), some (.d (.list ((cR as).map rq))), none, none]) (by
        simp only [exs_nil, exs_cons, ex_asg, ex_par, ex_expr, ex_ret, ex_ite, ev_var, ev_lit, ev_glob, ev_bin, ev_neg, ev_cmp, ev_chain, ev_not, ev_and, ev_or, ev_ite, ev_tup, ev_lst, ev_frz, ev_ix, ev_sl, ev_bi, ev_isi, ev_lr, ev_call, ev_mth, evs_nil, evs_cons, evO_none, evO_some, evT_none, evT_some, evI_seq, evI_r1, evI_enum, evI_zip, List.map_cons, List.map_nil, List.cons_append, List.nil_append, List.replicate, getVar, List.getElem?_cons_zero, List.getElem?_cons_succ, lift_some', bnd_ret, bnd_assoc, look_some', tB, tI, hO, frz_d, frz_f, its_fresh, storeTop, storeAt, setAt, List.length_cons, List.length_nil, List.set_cons_zero, List.set_cons_succ, Nat.reduceLT, Nat.reduceAdd, Nat.reduceSub, if_true, if_false, Bool.false_eq_true, permute, hvs?, datas?, chk_true, num0_eq, decide_eq_false q]) ?_
      have xi := fun hp => (Wq.list (cR as)).ix hp i _ h.ci
      have nl : Nb D (((a : Int) : Rat) - num) := (Nb.int (D := D) (i := a) (by omega) (by omega)).sub h.nn (by grind) (by grind)
      have sl := nl.sm D0 (by omega)
      refine Gives.go (env' := [some (.d (.str "losses")), some (.d (T as)), some (I (i : Nat)), some (.d (rq num)), some (.d (.list ((cR as).map rq))), some (.d (rq (((a : Int) : Rat) - num))), none]) (by
        simp only [exs_nil, exs_cons, ex_asg, ex_par, ex_expr, ex_ret, ex_ite, ev_var, ev_lit, ev_glob, ev_bin, ev_neg, ev_cmp, ev_chain, ev_not, ev_and, ev_or, ev_ite, ev_tup, ev_lst, ev_frz, ev_ix, ev_sl, ev_bi, ev_isi, ev_lr, ev_call, ev_mth, evs_nil, evs_cons, evO_none, evO_some, evT_none, evT_some, evI_seq, evI_r1, evI_enum, evI_zip, List.map_cons, List.map_nil, List.cons_append, List.nil_append, List.replicate, getVar, List.getElem?_cons_zero, List.getElem?_cons_succ, lift_some', bnd_ret, bnd_assoc, look_some', tB, tI, hO, frz_d, frz_f, its_fresh, storeTop, storeAt, setAt, List.length_cons, List.length_nil, List.set_cons_zero, List.set_cons_succ, Nat.reduceLT, Nat.reduceAdd, Nat.reduceSub, if_true, if_false, Bool.false_eq_true, permute, hvs?, datas?, chk_true, xi, pc (rminus_run (n + 3) ((Nb.int (D := D) (i := a) (by omega) (by omega)).sm D0 (by omega)) sn) rfl rfl]) ?_
      refine Gives.ret ?_
      simp only [exs_nil, exs_cons, ex_asg, ex_par, ex_expr, ex_ret, ex_ite, ev_var, ev_lit, ev_glob, ev_bin, ev_neg, ev_cmp, ev_chain, ev_not, ev_and, ev_or, ev_ite, ev_tup, ev_lst, ev_frz, ev_ix, ev_sl, ev_bi, ev_isi, ev_lr, ev_call, ev_mth, evs_nil, evs_cons, evO_none, evO_some, evT_none, evT_some, evI_seq, evI_r1, evI_enum, evI_zip, List.map_cons, List.map_nil, List.cons_append, List.nil_append, List.replicate, getVar, List.getElem?_cons_zero, List.getElem?_cons_succ, lift_some', bnd_ret, bnd_assoc, look_some', tB, tI, hO, frz_d, frz_f, its_fresh, storeTop, storeAt, setAt, List.length_cons, List.length_nil, List.set_cons_zero, List.set_cons_succ, Nat.reduceLT, Nat.reduceAdd, Nat.reduceSub, if_true, if_false, Bool.false_eq_true, permute, hvs?, datas?, chk_true]
      rw [ev_compM (cR as) (fun x => .d (rq x)) (fun x => .d (rq (x - mn x (((a : Int) : Rat) - num)))) (by simp only [exs_nil, exs_cons, ex_asg, ex_par, ex_expr, ex_ret, ex_ite, ev_var, ev_lit, ev_glob, ev_bin, ev_neg, ev_cmp, ev_chain, ev_not, ev_and, ev_or, ev_ite, ev_tup, ev_lst, ev_frz, ev_ix, ev_sl, ev_bi, ev_isi, ev_lr, ev_call, ev_mth, evs_nil, evs_cons, evO_none, evO_some, evT_none, evT_some, evI_seq, evI_r1, evI_enum, evI_zip, List.map_cons, List.map_nil, List.cons_append, List.nil_append, List.replicate, getVar, List.getElem?_cons_zero, List.getElem?_cons_succ, lift_some', bnd_ret, bnd_assoc, look_some', tB, tI, hO, frz_d, frz_f, its_fresh, storeTop, storeAt, setAt, List.length_cons, List.length_nil, List.set_cons_zero, List.set_cons_succ, Nat.reduceLT, Nat.reduceAdd, Nat.reduceSub, if_true, if_false, Bool.false_eq_true, permute, hvs?, datas?, chk_true, its_rq]) (fun x hx => by
        unfold turnOf
        simp only [exs_nil, exs_cons, ex_asg, ex_par, ex_expr, ex_ret, ex_ite, ev_var, ev_lit, ev_glob, ev_bin, ev_neg, ev_cmp, ev_chain, ev_not, ev_and, ev_or, ev_ite, ev_tup, ev_lst, ev_frz, ev_ix, ev_sl, ev_bi, ev_isi, ev_lr, ev_call, ev_mth, evs_nil, evs_cons, evO_none, evO_some, evT_none, evT_some, evI_seq, evI_r1, evI_enum, evI_zip, List.map_cons, List.map_nil, List.cons_append, List.nil_append, List.replicate, getVar, List.getElem?_cons_zero, List.getElem?_cons_succ, lift_some', bnd_ret, bnd_assoc, look_some', tB, tI, hO, frz_d, frz_f, its_fresh, storeTop, storeAt, setAt, List.length_cons, List.length_nil, List.set_cons_zero, List.set_cons_succ, Nat.reduceLT, Nat.reduceAdd, Nat.reduceSub, if_true, if_false, Bool.false_eq_true, permute, hvs?, datas?, chk_true, store_name, Ev.wipe, pc (leastone_run (n + 3) (sx x hx) sl) rfl rfl, pc (rminus_run (n + 3) (sx x hx) ((mn_nb (hel x hx).1 nl).sm D0 (by omega))) rfl rfl]) (by omega)]
      simp only [exs_nil, exs_cons, ex_asg, ex_par, ex_expr, ex_ret, ex_ite, ev_var, ev_lit, ev_glob, ev_bin, ev_neg, ev_cmp, ev_chain, ev_not, ev_and, ev_or, ev_ite, ev_tup, ev_lst, ev_frz, ev_ix, ev_sl, ev_bi, ev_isi, ev_lr, ev_call, ev_mth, evs_nil, evs_cons, evO_none, evO_some, evT_none, evT_some, evI_seq, evI_r1, evI_enum, evI_zip, List.map_cons, List.map_nil, List.cons_append, List.nil_append, List.replicate, getVar, List.getElem?_cons_zero, List.getElem?_cons_succ, lift_some', bnd_ret, bnd_assoc, look_some', tB, tI, hO, frz_d, frz_f, its_fresh, storeTop, storeAt, setAt, List.length_cons, List.length_nil, List.set_cons_zero, List.set_cons_succ, Nat.reduceLT, Nat.reduceAdd, Nat.reduceSub, if_true, if_false, Bool.false_eq_true, permute, hvs?, datas?, chk_true, frz_run, tot (fun x => x - mn x (((a : Int) : Rat) - num)) (fun x hx => by
        have e := hel x hx
        have b0 : 0 ≤ mn x (((a : Int) : Rat) - num) := mn_nonneg (by grind) (by grind)
        have b1 := mn_le_y x (((a : Int) : Rat) - num)
        exact e.1.sub (mn_nb e.1 nl) (by grind) (by grind))]
      rw [sum_sub, sum_id]
      rfl
end Lw

set_option linter.all false
set_option Elab.async false
set_option maxRecDepth 100000
set_option maxHeartbeats 4000000
/-! N8: the law's own helpers. -/
namespace Lw
open PySem Ev
theorem draw_run (k n : Nat) (h : Hp) (many : Int) (h1 : 1 ≤ many) (h2 : many ≤ 1000000) (hp : PotAt h n) : ∃ d p q : Int, callN prog (k + 1) "_law_draw" [.ref n, I many] h = some (rD (.int d), h.set n (OP p q)) ∧ 0 ≤ d ∧ d < many ∧ 0 ≤ p ∧ 0 ≤ q ∧ q < 2 ^ 32 := by
  obtain ⟨p, q, e, p0, q0, q1⟩ := hp.ex
  have main : ∃ d p q : Int, ∃ env, exs (callN prog k) f__law_draw.body [some (.ref n), some (I many), none] h = some ((.rt (rD (.int d)), env), h.set n (OP p q)) ∧ 0 ≤ d ∧ d < many ∧ 0 ≤ p ∧ 0 ≤ q ∧ q < 2 ^ 32 := by
    simp only [exs_nil, exs_cons, ex_asg, ex_par, ex_expr, ex_ret, ex_ite, ev_var, ev_lit, ev_glob, ev_bin, ev_neg, ev_cmp, ev_chain, ev_not, ev_and, ev_or, ev_ite, ev_tup, ev_lst, ev_frz, ev_ix, ev_sl, ev_bi, ev_isi, ev_lr, ev_call, ev_mth, evs_nil, evs_cons, evO_none, evO_some, evT_none, evT_some, evI_seq, evI_r1, evI_enum, evI_zip, List.map_cons, List.map_nil, List.cons_append, List.nil_append, List.replicate, getVar, List.getElem?_cons_zero, List.getElem?_cons_succ, lift_some', bnd_ret, bnd_assoc, look_some', tB, tI, hO, frz_d, frz_f, its_fresh, storeTop, storeAt, setAt, List.length_cons, List.length_nil, List.set_cons_zero, List.set_cons_succ, Nat.reduceLT, Nat.reduceAdd, Nat.reduceSub, if_true, if_false, Bool.false_eq_true, permute, hvs?, datas?, chk_true, f__law_draw]
    rw [bnd_look, ixP0 e]
    simp only [exs_nil, exs_cons, ex_asg, ex_par, ex_expr, ex_ret, ex_ite, ev_var, ev_lit, ev_glob, ev_bin, ev_neg, ev_cmp, ev_chain, ev_not, ev_and, ev_or, ev_ite, ev_tup, ev_lst, ev_frz, ev_ix, ev_sl, ev_bi, ev_isi, ev_lr, ev_call, ev_mth, evs_nil, evs_cons, evO_none, evO_some, evT_none, evT_some, evI_seq, evI_r1, evI_enum, evI_zip, List.map_cons, List.map_nil, List.cons_append, List.nil_append, List.replicate, getVar, List.getElem?_cons_zero, List.getElem?_cons_succ, lift_some', bnd_ret, bnd_assoc, look_some', tB, tI, hO, frz_d, frz_f, its_fresh, storeTop, storeAt, setAt, List.length_cons, List.length_nil, List.set_cons_zero, List.set_cons_succ, Nat.reduceLT, Nat.reduceAdd, Nat.reduceSub, if_true, if_false, Bool.false_eq_true, permute, hvs?, datas?, chk_true, cmp_gt]
    by_cases hp0 : 0 < p
    · simp only [exs_nil, exs_cons, ex_asg, ex_par, ex_expr, ex_ret, ex_ite, ev_var, ev_lit, ev_glob, ev_bin, ev_neg, ev_cmp, ev_chain, ev_not, ev_and, ev_or, ev_ite, ev_tup, ev_lst, ev_frz, ev_ix, ev_sl, ev_bi, ev_isi, ev_lr, ev_call, ev_mth, evs_nil, evs_cons, evO_none, evO_some, evT_none, evT_some, evI_seq, evI_r1, evI_enum, evI_zip, List.map_cons, List.map_nil, List.cons_append, List.nil_append, List.replicate, getVar, List.getElem?_cons_zero, List.getElem?_cons_succ, lift_some', bnd_ret, bnd_assoc, look_some', tB, tI, hO, frz_d, frz_f, its_fresh, storeTop, storeAt, setAt, List.length_cons, List.length_nil, List.set_cons_zero, List.set_cons_succ, Nat.reduceLT, Nat.reduceAdd, Nat.reduceSub, if_true, if_false, Bool.false_eq_true, permute, hvs?, datas?, chk_true, hp0, decide_true]
      rw [bnd_look, ixP0 e]
      simp only [exs_nil, exs_cons, ex_asg, ex_par, ex_expr, ex_ret, ex_ite, ev_var, ev_lit, ev_glob, ev_bin, ev_neg, ev_cmp, ev_chain, ev_not, ev_and, ev_or, ev_ite, ev_tup, ev_lst, ev_frz, ev_ix, ev_sl, ev_bi, ev_isi, ev_lr, ev_call, ev_mth, evs_nil, evs_cons, evO_none, evO_some, evT_none, evT_some, evI_seq, evI_r1, evI_enum, evI_zip, List.map_cons, List.map_nil, List.cons_append, List.nil_append, List.replicate, getVar, List.getElem?_cons_zero, List.getElem?_cons_succ, lift_some', bnd_ret, bnd_assoc, look_some', tB, tI, hO, frz_d, frz_f, its_fresh, storeTop, storeAt, setAt, List.length_cons, List.length_nil, List.set_cons_zero, List.set_cons_succ, Nat.reduceLT, Nat.reduceAdd, Nat.reduceSub, if_true, if_false, Bool.false_eq_true, permute, hvs?, datas?, chk_true, divmod_run p many _ (by omega) (by omega), tupOf, storeAts]
      rw [bnd_at _ (setP0 e (p / many))]
      exact ⟨p % many, p / many, q, _, rfl, Int.emod_nonneg _ (by omega), Int.emod_lt_of_pos _ (by omega), Int.ediv_nonneg p0 (by omega), q0, q1⟩
    · simp only [exs_nil, exs_cons, ex_asg, ex_par, ex_expr, ex_ret, ex_ite, ev_var, ev_lit, ev_glob, ev_bin, ev_neg, ev_cmp, ev_chain, ev_not, ev_and, ev_or, ev_ite, ev_tup, ev_lst, ev_frz, ev_ix, ev_sl, ev_bi, ev_isi, ev_lr, ev_call, ev_mth, evs_nil, evs_cons, evO_none, evO_some, evT_none, evT_some, evI_seq, evI_r1, evI_enum, evI_zip, List.map_cons, List.map_nil, List.cons_append, List.nil_append, List.replicate, getVar, List.getElem?_cons_zero, List.getElem?_cons_succ, lift_some', bnd_ret, bnd_assoc, look_some', tB, tI, hO, frz_d, frz_f, its_fresh, storeTop, storeAt, setAt, List.length_cons, List.length_nil, List.set_cons_zero, List.set_cons_succ, Nat.reduceLT, Nat.reduceAdd, Nat.reduceSub, if_true, if_false, Bool.false_eq_true, permute, hvs?, datas?, chk_true, hp0, decide_false]
      rw [bnd_look, ixP1 e]
      simp only [exs_nil, exs_cons, ex_asg, ex_par, ex_expr, ex_ret, ex_ite, ev_var, ev_lit, ev_glob, ev_bin, ev_neg, ev_cmp, ev_chain, ev_not, ev_and, ev_or, ev_ite, ev_tup, ev_lst, ev_frz, ev_ix, ev_sl, ev_bi, ev_isi, ev_lr, ev_call, ev_mth, evs_nil, evs_cons, evO_none, evO_some, evT_none, evT_some, evI_seq, evI_r1, evI_enum, evI_zip, List.map_cons, List.map_nil, List.cons_append, List.nil_append, List.replicate, getVar, List.getElem?_cons_zero, List.getElem?_cons_succ, lift_some', bnd_ret, bnd_assoc, look_some', tB, tI, hO, frz_d, frz_f, its_fresh, storeTop, storeAt, setAt, List.length_cons, List.length_nil, List.set_cons_zero, List.set_cons_succ, Nat.reduceLT, Nat.reduceAdd, Nat.reduceSub, if_true, if_false, Bool.false_eq_true, permute, hvs?, datas?, chk_true, bin_mulI q 39373 _ (Nat.lt_of_lt_of_le (bits_lt q0 q1 (by decide)) (by decide)) (by decide), bin_addI, int_run, bin_modI _ 2147483587 _ (by decide)]
      generalize hq : (q * 39373 + 1427) % 2147483587 = q'
      have hq0 : 0 ≤ q' := by rw [← hq]; exact Int.emod_nonneg _ (by decide)
      have hq1 : q' < 2147483587 := by rw [← hq]; exact Int.emod_lt_of_pos _ (by decide)
      rw [bnd_at _ (setP1 e q')]
      have hlt : n < h.length := (List.getElem?_eq_some_iff.mp e).1
      have e' : (h.set n (OP p q'))[n]? = some (OP p q') := List.getElem?_set_self hlt
      rw [bnd_look, ixP1 e']
      simp only [exs_nil, exs_cons, ex_asg, ex_par, ex_expr, ex_ret, ex_ite, ev_var, ev_lit, ev_glob, ev_bin, ev_neg, ev_cmp, ev_chain, ev_not, ev_and, ev_or, ev_ite, ev_tup, ev_lst, ev_frz, ev_ix, ev_sl, ev_bi, ev_isi, ev_lr, ev_call, ev_mth, evs_nil, evs_cons, evO_none, evO_some, evT_none, evT_some, evI_seq, evI_r1, evI_enum, evI_zip, List.map_cons, List.map_nil, List.cons_append, List.nil_append, List.replicate, getVar, List.getElem?_cons_zero, List.getElem?_cons_succ, lift_some', bnd_ret, bnd_assoc, look_some', tB, tI, hO, frz_d, frz_f, its_fresh, storeTop, storeAt, setAt, List.length_cons, List.length_nil, List.set_cons_zero, List.set_cons_succ, Nat.reduceLT, Nat.reduceAdd, Nat.reduceSub, if_true, if_false, Bool.false_eq_true, permute, hvs?, datas?, chk_true]
      rw [bnd_look, ixP1 e']
      have hq2 : q' < 2 ^ 32 := by
        have : (2147483587 : Int) < 2 ^ 32 := by decide
        omega
      have hb := Nat.lt_of_lt_of_le (bits_lt hq0 hq2 (by decide)) (show 32 ≤ 1000 by decide)
      simp only [exs_nil, exs_cons, ex_asg, ex_par, ex_expr, ex_ret, ex_ite, ev_var, ev_lit, ev_glob, ev_bin, ev_neg, ev_cmp, ev_chain, ev_not, ev_and, ev_or, ev_ite, ev_tup, ev_lst, ev_frz, ev_ix, ev_sl, ev_bi, ev_isi, ev_lr, ev_call, ev_mth, evs_nil, evs_cons, evO_none, evO_some, evT_none, evT_some, evI_seq, evI_r1, evI_enum, evI_zip, List.map_cons, List.map_nil, List.cons_append, List.nil_append, List.replicate, getVar, List.getElem?_cons_zero, List.getElem?_cons_succ, lift_some', bnd_ret, bnd_assoc, look_some', tB, tI, hO, frz_d, frz_f, its_fresh, storeTop, storeAt, setAt, List.length_cons, List.length_nil, List.set_cons_zero, List.set_cons_succ, Nat.reduceLT, Nat.reduceAdd, Nat.reduceSub, if_true, if_false, Bool.false_eq_true, permute, hvs?, datas?, chk_true, bin_mulI q' q' _ hb hb, int_run, bin_modI _ 2147483563 _ (by decide), bin_divI _ 19 _ (by decide) (by decide), bin_modI _ many _ (show 0 < many by omega)]
      exact ⟨_, p, q', _, rfl, Int.emod_nonneg _ (by omega), Int.emod_lt_of_pos _ (by omega), p0, hq0, hq2⟩
  obtain ⟨d, p, q, env, e, r⟩ := main
  refine ⟨d, p, q, ?_, r⟩
  have hl : lookF "_law_draw" prog = some f__law_draw := by rfl
  show (match lookF "_law_draw" prog with
    | some f => runFn (callN prog k) f [.ref n, I many]
    | none => fun _ => none) h = _
  rw [hl]
  dsimp only
  unfold runFn
  have hnp : ([HV.ref n, I many].length == f__law_draw.np) = true := rfl
  rw [if_pos hnp]
  have e' : exs (callN prog k) f__law_draw.body (List.map some [HV.ref n, I many] ++ List.replicate (f__law_draw.ns - f__law_draw.np) none) h = some ((.rt (rD (.int d)), env), h.set n (OP p q)) := e
  rw [e']
theorem pot_run (n i : Nat) (hi : i ≤ 100) (ns : List Int) : ∃ p q : Int, callN prog (n + 1) "_law_pot" [.scr ns, I i] = Ev.ret (.fresh [I p, I q]) ∧ 0 ≤ p ∧ 0 ≤ q ∧ q < 2 ^ 32 := by
  have hbi : intBits (i : Int) < 1000 := Nat.lt_of_lt_of_le (bits_lt (k := 7) (by omega) (by
    have : (2 : Int) ^ 7 = 128 := by decide
    omega) (by decide)) (by decide)
  have hcell : ∃ cell : Int, ev (callN prog n) (.ite (.cmp .lt (.var 1) (.bi .len [(.var 0)])) (.bi .abs [(.ix (.var 0) (.var 1))]) (.bin .add (.bin .add (.bin .mul (.lit (.int 2089)) (.var 1)) (.lit (.int 1427))) (.bin .mod (.bi .abs [(.bi .sum [(.sl (.var 0) none (some (.lit (.int 1))))])]) (.lit (.int 1000003))))) [some (.scr ns), some (I i), none] = Ev.ret (rD (.int cell)) := by
    simp only [exs_nil, exs_cons, ex_asg, ex_par, ex_expr, ex_ret, ex_ite, ev_var, ev_lit, ev_glob, ev_bin, ev_neg, ev_cmp, ev_chain, ev_not, ev_and, ev_or, ev_ite, ev_tup, ev_lst, ev_frz, ev_ix, ev_sl, ev_bi, ev_isi, ev_lr, ev_call, ev_mth, evs_nil, evs_cons, evO_none, evO_some, evT_none, evT_some, evI_seq, evI_r1, evI_enum, evI_zip, List.map_cons, List.map_nil, List.cons_append, List.nil_append, List.replicate, getVar, List.getElem?_cons_zero, List.getElem?_cons_succ, lift_some', bnd_ret, bnd_assoc, look_some', tB, tI, hO, frz_d, frz_f, its_fresh, storeTop, storeAt, setAt, List.length_cons, List.length_nil, List.set_cons_zero, List.set_cons_succ, Nat.reduceLT, Nat.reduceAdd, Nat.reduceSub, if_true, if_false, Bool.false_eq_true, permute, hvs?, datas?, chk_true, len_scr, cmp_lt]
    by_cases c : (i : Int) < ns.length
    · simp only [exs_nil, exs_cons, ex_asg, ex_par, ex_expr, ex_ret, ex_ite, ev_var, ev_lit, ev_glob, ev_bin, ev_neg, ev_cmp, ev_chain, ev_not, ev_and, ev_or, ev_ite, ev_tup, ev_lst, ev_frz, ev_ix, ev_sl, ev_bi, ev_isi, ev_lr, ev_call, ev_mth, evs_nil, evs_cons, evO_none, evO_some, evT_none, evT_some, evI_seq, evI_r1, evI_enum, evI_zip, List.map_cons, List.map_nil, List.cons_append, List.nil_append, List.replicate, getVar, List.getElem?_cons_zero, List.getElem?_cons_succ, lift_some', bnd_ret, bnd_assoc, look_some', tB, tI, hO, frz_d, frz_f, its_fresh, storeTop, storeAt, setAt, List.length_cons, List.length_nil, List.set_cons_zero, List.set_cons_succ, Nat.reduceLT, Nat.reduceAdd, Nat.reduceSub, if_true, if_false, Bool.false_eq_true, permute, hvs?, datas?, chk_true, c, decide_true, ix_scr (show i < ns.length by omega), abs_run]
      exact ⟨_, rfl⟩
    · simp only [exs_nil, exs_cons, ex_asg, ex_par, ex_expr, ex_ret, ex_ite, ev_var, ev_lit, ev_glob, ev_bin, ev_neg, ev_cmp, ev_chain, ev_not, ev_and, ev_or, ev_ite, ev_tup, ev_lst, ev_frz, ev_ix, ev_sl, ev_bi, ev_isi, ev_lr, ev_call, ev_mth, evs_nil, evs_cons, evO_none, evO_some, evT_none, evT_some, evI_seq, evI_r1, evI_enum, evI_zip, List.map_cons, List.map_nil, List.cons_append, List.nil_append, List.replicate, getVar, List.getElem?_cons_zero, List.getElem?_cons_succ, lift_some', bnd_ret, bnd_assoc, look_some', tB, tI, hO, frz_d, frz_f, its_fresh, storeTop, storeAt, setAt, List.length_cons, List.length_nil, List.set_cons_zero, List.set_cons_succ, Nat.reduceLT, Nat.reduceAdd, Nat.reduceSub, if_true, if_false, Bool.false_eq_true, permute, hvs?, datas?, chk_true, c, decide_false, bin_mulI 2089 i _ (by decide) hbi, bin_addI, sl_scr, sum_run, abs_run, bin_modI _ 1000003 _ (by decide)]
      exact ⟨_, rfl⟩
  obtain ⟨cell, hc⟩ := hcell
  have hm0 : 0 ≤ cell % 2147483549 := Int.emod_nonneg _ (by decide)
  have hm1 : cell % 2147483549 < 2147483549 := Int.emod_lt_of_pos _ (by decide)
  have hb : intBits (cell % 2147483549) < 1000 := Nat.lt_of_lt_of_le (bits_lt (k := 32) hm0 (by
    have : (2 : Int) ^ 32 = 4294967296 := by decide
    omega) (by decide)) (by decide)
  refine ⟨if cell - 1000000000000000000 > 0 then cell - 1000000000000000000 else 0, (cell % 2147483549 * 40014 + 7451 * i + 1427) % 2147483563 + 1, ?_, by split <;> omega, ?_, ?_⟩
  · refine call_ret (f := f__law_pot) (by rfl) rfl ?_
    unfold f__law_pot
    simp only [exs_cons, exs_nil, ex_asg, List.map_cons, List.map_nil, List.cons_append, List.nil_append, List.replicate, Nat.reduceSub]
    rw [hc]
    simp only [exs_nil, exs_cons, ex_asg, ex_par, ex_expr, ex_ret, ex_ite, ev_var, ev_lit, ev_glob, ev_bin, ev_neg, ev_cmp, ev_chain, ev_not, ev_and, ev_or, ev_ite, ev_tup, ev_lst, ev_frz, ev_ix, ev_sl, ev_bi, ev_isi, ev_lr, ev_call, ev_mth, evs_nil, evs_cons, evO_none, evO_some, evT_none, evT_some, evI_seq, evI_r1, evI_enum, evI_zip, List.map_cons, List.map_nil, List.cons_append, List.nil_append, List.replicate, getVar, List.getElem?_cons_zero, List.getElem?_cons_succ, lift_some', bnd_ret, bnd_assoc, look_some', tB, tI, hO, frz_d, frz_f, its_fresh, storeTop, storeAt, setAt, List.length_cons, List.length_nil, List.set_cons_zero, List.set_cons_succ, Nat.reduceLT, Nat.reduceAdd, Nat.reduceSub, if_true, if_false, Bool.false_eq_true, permute, hvs?, datas?, chk_true, pow_run, bin_subI, max2_run, int_run, bin_modI _ 2147483549 _ (by decide), bin_mulI _ 40014 _ hb (by decide), bin_mulI 7451 i _ (by decide) hbi, bin_addI, bin_modI _ 2147483563 _ (by decide), lk2]
    exact ⟨_, rfl⟩
  · have := Int.emod_nonneg (cell % 2147483549 * 40014 + 7451 * i + 1427) (show (2147483563 : Int) ≠ 0 by decide)
    omega
  · have := Int.emod_lt_of_pos (cell % 2147483549 * 40014 + 7451 * i + 1427) (show (0 : Int) < 2147483563 by decide)
    have : (2 : Int) ^ 32 = 4294967296 := by decide
    omega

theorem len_L (xs : List PyData) (h : Hp) : biV h .len [rD (.list xs)] = some (rD (.int xs.length)) := len_list xs h
theorem pick_run (k n : Nat) (h : Hp) (xs : List PyData) (h1 : xs ≠ []) (h2 : xs.length ≤ 1000) (hp : PotAt h n) : ∃ (d : PyData) (p q : Int), callN prog (k + 2) "_law_pick" [.ref n, .d (.list xs)] h = some (rD d, h.set n (OP p q)) ∧ d ∈ xs ∧ 0 ≤ p ∧ 0 ≤ q ∧ q < 2 ^ 32 := by
  have hpos : 0 < xs.length := List.length_pos_iff.mpr h1
  obtain ⟨d, p, q, e, d0, d1, r⟩ := draw_run k n h xs.length (by omega) (by omega) hp
  have hd : d.toNat < xs.length := by omega
  refine ⟨xs[d.toNat], p, q, ?_, List.getElem_mem hd, r⟩
  refine call_at (f := f__law_pick) (by rfl) rfl (env := [some (.ref n), some (.d (.list xs))]) ?_
  simp only [exs_nil, exs_cons, ex_asg, ex_par, ex_expr, ex_ret, ex_ite, ev_var, ev_lit, ev_glob, ev_bin, ev_neg, ev_cmp, ev_chain, ev_not, ev_and, ev_or, ev_ite, ev_tup, ev_lst, ev_frz, ev_ix, ev_sl, ev_bi, ev_isi, ev_lr, ev_call, ev_mth, evs_nil, evs_cons, evO_none, evO_some, evT_none, evT_some, evI_seq, evI_r1, evI_enum, evI_zip, List.map_cons, List.map_nil, List.cons_append, List.nil_append, List.replicate, getVar, List.getElem?_cons_zero, List.getElem?_cons_succ, lift_some', bnd_ret, bnd_assoc, look_some', tB, tI, hO, frz_d, frz_f, its_fresh, storeTop, storeAt, setAt, List.length_cons, List.length_nil, List.set_cons_zero, List.set_cons_succ, Nat.reduceLT, Nat.reduceAdd, Nat.reduceSub, if_true, if_false, Bool.false_eq_true, permute, hvs?, datas?, chk_true, f__law_pick, len_L, runCall_f]
  rw [bnd_at _ e]
  have e2 : ∀ h, ixV h (rD (.list xs)) d = some (rD xs[d.toNat]) := fun h => ix_list d0 (by rw [List.getElem?_eq_getElem hd]) h
  simp only [exs_nil, exs_cons, ex_asg, ex_par, ex_expr, ex_ret, ex_ite, ev_var, ev_lit, ev_glob, ev_bin, ev_neg, ev_cmp, ev_chain, ev_not, ev_and, ev_or, ev_ite, ev_tup, ev_lst, ev_frz, ev_ix, ev_sl, ev_bi, ev_isi, ev_lr, ev_call, ev_mth, evs_nil, evs_cons, evO_none, evO_some, evT_none, evT_some, evI_seq, evI_r1, evI_enum, evI_zip, List.map_cons, List.map_nil, List.cons_append, List.nil_append, List.replicate, getVar, List.getElem?_cons_zero, List.getElem?_cons_succ, lift_some', bnd_ret, bnd_assoc, look_some', tB, tI, hO, frz_d, frz_f, its_fresh, storeTop, storeAt, setAt, List.length_cons, List.length_nil, List.set_cons_zero, List.set_cons_succ, Nat.reduceLT, Nat.reduceAdd, Nat.reduceSub, if_true, if_false, Bool.false_eq_true, permute, hvs?, datas?, chk_true, e2]
  rfl
theorem ex_brk {C : CallT} {env : Ev.Env} : ex C .brk env = Ev.ret (.bk, env) := nr rfl
/-! ### numbers, own -/
abbrev bodyM : List S := [.ite (.cmp .eq (.var 5) (.lit (.int 0))) [.brk] [], .par true [(.name 4), (.name 5)] [(.var 5), (.bin .mod (.bi .int [(.var 4)]) (.var 5))]]
abbrev turnM (C : CallT) (x : HV) (env : Ev.Env) : M (Fl × Ev.Env) := bnd (lift (store (.name 2) x env)) fun env1 => exs C bodyM env1
abbrev envM (a b : Int) (t s : Option HV) (u v : Nat) : Ev.Env := [some (I a), some (I b), t, s, some (I (u : Nat)), some (I (v : Nat))]
theorem turnM_stop (C : CallT) (a b : Int) (t s : Option HV) (u : Nat) (x : HV) : turnM C x (envM a b t s u 0) = Ev.ret (.bk, envM a b (some x) s u 0) := by
  unfold turnM
  simp only [exs_nil, exs_cons, ex_asg, ex_par, ex_expr, ex_ret, ex_ite, ev_var, ev_lit, ev_glob, ev_bin, ev_neg, ev_cmp, ev_chain, ev_not, ev_and, ev_or, ev_ite, ev_tup, ev_lst, ev_frz, ev_ix, ev_sl, ev_bi, ev_isi, ev_lr, ev_call, ev_mth, evs_nil, evs_cons, evO_none, evO_some, evT_none, evT_some, evI_seq, evI_r1, evI_enum, evI_zip, List.map_cons, List.map_nil, List.cons_append, List.nil_append, List.replicate, getVar, List.getElem?_cons_zero, List.getElem?_cons_succ, lift_some', bnd_ret, bnd_assoc, look_some', tB, tI, hO, frz_d, frz_f, its_fresh, storeTop, storeAt, setAt, List.length_cons, List.length_nil, List.set_cons_zero, List.set_cons_succ, Nat.reduceLT, Nat.reduceAdd, Nat.reduceSub, if_true, if_false, Bool.false_eq_true, permute, hvs?, datas?, chk_true, store_name, cmp_eqI, Int.natCast_zero, decide_true, ex_brk]
  rfl
theorem turnM_go (C : CallT) (a b : Int) (t s : Option HV) (u v : Nat) (hv : 0 < v) (x : HV) : turnM C x (envM a b t s u v) = Ev.ret (.nx, envM a b (some x) s v (u % v)) := by
  unfold turnM
  simp only [exs_nil, exs_cons, ex_asg, ex_par, ex_expr, ex_ret, ex_ite, ev_var, ev_lit, ev_glob, ev_bin, ev_neg, ev_cmp, ev_chain, ev_not, ev_and, ev_or, ev_ite, ev_tup, ev_lst, ev_frz, ev_ix, ev_sl, ev_bi, ev_isi, ev_lr, ev_call, ev_mth, evs_nil, evs_cons, evO_none, evO_some, evT_none, evT_some, evI_seq, evI_r1, evI_enum, evI_zip, List.map_cons, List.map_nil, List.cons_append, List.nil_append, List.replicate, getVar, List.getElem?_cons_zero, List.getElem?_cons_succ, lift_some', bnd_ret, bnd_assoc, look_some', tB, tI, hO, frz_d, frz_f, its_fresh, storeTop, storeAt, setAt, List.length_cons, List.length_nil, List.set_cons_zero, List.set_cons_succ, Nat.reduceLT, Nat.reduceAdd, Nat.reduceSub, if_true, if_false, Bool.false_eq_true, permute, hvs?, datas?, chk_true, store_name, cmp_eqI, decide_eq_false (show ¬ ((v : Nat) : Int) = 0 by omega), ex_par, int_run, bin_modI _ _ _ (show (0 : Int) < (v : Nat) by omega), lk2, decide_true, Bool.and_self, List.reverse_cons, List.reverse_nil, storeAts]
  rfl
theorem mod_half (b r : Nat) (hr : 0 < r) (h : r < b) : 2 * (b % r) < b := by
  have h1 := Nat.mod_lt b hr
  by_cases c : 2 * r ≤ b
  · omega
  · have h2 : b % r = b - r := by
      rw [Nat.mod_eq_sub_mod (by omega), Nat.mod_eq_of_lt (by omega)]
    omega
theorem euclid (C : CallT) (a b : Int) (s : Option HV) : ∀ (k : Nat) (xs : List HV) (u v : Nat) (t : Option HV), v < 2 ^ k → 2 * k + 1 ≤ xs.length → ∃ t', forSeq (turnM C) xs (envM a b t s u v) = Ev.ret (.nx, envM a b t' s (Nat.gcd u v) 0) := by
  have stop : ∀ (xs : List HV) (u : Nat) (t : Option HV), 1 ≤ xs.length → ∃ t', forSeq (turnM C) xs (envM a b t s u 0) = Ev.ret (.nx, envM a b t' s u 0) := fun xs u t h => by
    cases xs with
    | nil => cases h
    | cons x xs =>
      refine ⟨some x, ?_⟩
      unfold forSeq
      rw [turnM_stop, bnd_ret]
  intro k
  induction k with
  | zero =>
    intro xs u v t hv hl
    have : v = 0 := by omega
    subst this
    rw [Nat.gcd_zero_right]
    exact stop xs u t (by omega)
  | succ k ih =>
    intro xs u v t hv hl
    by_cases hz : v = 0
    · subst hz
      rw [Nat.gcd_zero_right]
      exact stop xs u t (by omega)
    · cases xs with
      | nil => simp at hl
      | cons x xs =>
        rw [List.length_cons] at hl
        have e1 : Nat.gcd u v = Nat.gcd v (u % v) := by
          rw [Nat.gcd_comm, Nat.gcd_rec, Nat.gcd_comm]
        have g1 : forSeq (turnM C) (x :: xs) (envM a b t s u v) = forSeq (turnM C) xs (envM a b (some x) s v (u % v)) := by
          show bnd (turnM C x (envM a b t s u v)) _ = _
          rw [turnM_go C a b t s u v (by omega), bnd_ret]
        rw [g1, e1]
        by_cases hr : u % v = 0
        · rw [hr, Nat.gcd_zero_right]
          exact stop xs v _ (by omega)
        · cases xs with
          | nil => simp at hl
          | cons y xs =>
            rw [List.length_cons] at hl
            have hlt := Nat.mod_lt u (show 0 < v by omega)
            have hh := mod_half v (u % v) (by omega) hlt
            have e2 : Nat.gcd v (u % v) = Nat.gcd (u % v) (v % (u % v)) := by
              rw [Nat.gcd_comm, Nat.gcd_rec, Nat.gcd_comm]
            have g2 : forSeq (turnM C) (y :: xs) (envM a b (some x) s v (u % v)) = forSeq (turnM C) xs (envM a b (some y) s (u % v) (v % (u % v))) := by
              show bnd (turnM C y (envM a b (some x) s v (u % v))) _ = _
              rw [turnM_go C a b _ s v (u % v) (by omega), bnd_ret]
            rw [g2, e2]
            exact ih xs (u % v) (v % (u % v)) (some y) (by
              have : (2 : Nat) ^ (k + 1) = 2 ^ k * 2 := Nat.pow_succ ..
              omega) (by omega)
theorem abs_nat (i : Int) : (if i < 0 then -i else i) = ((i.natAbs : Nat) : Int) := by
  split <;> omega
theorem one_lt : (1 : Int).natAbs < 2 ^ 400000 := Nat.one_lt_two_pow (by decide)
theorem lmade_run (n : Nat) (a b : Int) (hb : 0 < b) (ha2 : a.natAbs < 2 ^ 1000) (hb2 : b.natAbs < 2 ^ 1000) : callN prog (n + 1) "_law_made" [I a, I b] = Ev.ret (rD (rq (Rat.divInt a b))) := by
  have hg : 0 < Nat.gcd a.natAbs b.natAbs := Nat.gcd_pos_of_pos_right _ (by omega)
  have hg2 : Nat.gcd a.natAbs b.natAbs ≤ b.natAbs := Nat.gcd_le_right _ (by omega)
  have hbits : intBits ((Nat.gcd a.natAbs b.natAbs : Nat) : Int) < 9000 := Nat.lt_trans (bits_abs (k := 1000) (by rw [Int.natAbs_natCast]; omega) (by decide)) (by decide)
  have z : (2 : Nat) ^ 1000 ≤ 2 ^ 400000 := Nat.pow_le_pow_right (by decide) (by decide)
  have e1 : (Rat.divInt a b).num = a / ((Nat.gcd a.natAbs b.natAbs : Nat) : Int) := by
    rw [Rat.num_divInt, Int.sign_eq_one_of_pos hb, Int.one_mul, Int.gcd_comm]
    rfl
  have e2 : (((Rat.divInt a b).den : Nat) : Int) = b / ((Nat.gcd a.natAbs b.natAbs : Nat) : Int) := by
    rw [Rat.den_divInt, if_neg (by omega), Int.gcd_comm]
    show ((b.natAbs / Nat.gcd a.natAbs b.natAbs : Nat) : Int) = _
    rw [Int.natCast_ediv]
    congr 1
    omega
  have e3 : rq (Rat.divInt a b) = .tuple [.int (a / ((Nat.gcd a.natAbs b.natAbs : Nat) : Int)), .int (b / ((Nat.gcd a.natAbs b.natAbs : Nat) : Int))] := by
    unfold rq
    rw [e1, e2]
  rw [e3]
  refine call_gives (f := f__law_made) (by rfl) rfl ?_
  unfold f__law_made
  refine Gives.go (env' := envM a b none none a.natAbs b.natAbs) (by
    simp only [exs_nil, exs_cons, ex_asg, ex_par, ex_expr, ex_ret, ex_ite, ev_var, ev_lit, ev_glob, ev_bin, ev_neg, ev_cmp, ev_chain, ev_not, ev_and, ev_or, ev_ite, ev_tup, ev_lst, ev_frz, ev_ix, ev_sl, ev_bi, ev_isi, ev_lr, ev_call, ev_mth, evs_nil, evs_cons, evO_none, evO_some, evT_none, evT_some, evI_seq, evI_r1, evI_enum, evI_zip, List.map_cons, List.map_nil, List.cons_append, List.nil_append, List.replicate, getVar, List.getElem?_cons_zero, List.getElem?_cons_succ, lift_some', bnd_ret, bnd_assoc, look_some', tB, tI, hO, frz_d, frz_f, its_fresh, storeTop, storeAt, setAt, List.length_cons, List.length_nil, List.set_cons_zero, List.set_cons_succ, Nat.reduceLT, Nat.reduceAdd, Nat.reduceSub, if_true, if_false, Bool.false_eq_true, permute, hvs?, datas?, chk_true, ex_par, abs_run, abs_nat, lk2, decide_true, Bool.and_self, List.reverse_cons, List.reverse_nil, storeAts] <;> rfl) ?_
  obtain ⟨t', eu⟩ := euclid (callN prog n) a b none 1000 ((List.range 4000).map fun i => I (i : Nat)) a.natAbs b.natAbs none hb2 (by rw [List.length_map, List.length_range]; omega)
  have hI : evI (callN prog n) (.range1 (.lit (.int 4000))) (envM a b none none a.natAbs b.natAbs) = Ev.ret (.seq ((List.range 4000).map fun i => I (i : Nat))) := by
    rw [evI_r1, ev_lit, bnd_ret, tI, lift_some', bnd_ret, show decide (-(2 ^ 62) ≤ (4000 : Int) ∧ (4000 : Int) < 2 ^ 62) = true by rw [decide_eq_true_eq]; omega, chk_true, bnd_ret, show (4000 : Int).toNat = 4000 from rfl, range_run]
  refine Gives.go (env' := envM a b t' none (Nat.gcd a.natAbs b.natAbs) 0) (by
    rw [ex_for, hI, bnd_ret]
    exact eu) ?_
  refine Gives.go (env' := [some (I a), some (I b), t', some (I 1), some (I ((Nat.gcd a.natAbs b.natAbs : Nat) : Int)), some (I ((0 : Nat) : Int))]) (by
    simp only [exs_nil, exs_cons, ex_asg, ex_par, ex_expr, ex_ret, ex_ite, ev_var, ev_lit, ev_glob, ev_bin, ev_neg, ev_cmp, ev_chain, ev_not, ev_and, ev_or, ev_ite, ev_tup, ev_lst, ev_frz, ev_ix, ev_sl, ev_bi, ev_isi, ev_lr, ev_call, ev_mth, evs_nil, evs_cons, evO_none, evO_some, evT_none, evT_some, evI_seq, evI_r1, evI_enum, evI_zip, List.map_cons, List.map_nil, List.cons_append, List.nil_append, List.replicate, getVar, List.getElem?_cons_zero, List.getElem?_cons_succ, lift_some', bnd_ret, bnd_assoc, look_some', tB, tI, hO, frz_d, frz_f, its_fresh, storeTop, storeAt, setAt, List.length_cons, List.length_nil, List.set_cons_zero, List.set_cons_succ, Nat.reduceLT, Nat.reduceAdd, Nat.reduceSub, if_true, if_false, Bool.false_eq_true, permute, hvs?, datas?, chk_true, cmp_gt, decide_eq_true hb]) ?_
  exact Gives.ret (by
    simp only [exs_nil, exs_cons, ex_asg, ex_par, ex_expr, ex_ret, ex_ite, ev_var, ev_lit, ev_glob, ev_bin, ev_neg, ev_cmp, ev_chain, ev_not, ev_and, ev_or, ev_ite, ev_tup, ev_lst, ev_frz, ev_ix, ev_sl, ev_bi, ev_isi, ev_lr, ev_call, ev_mth, evs_nil, evs_cons, evO_none, evO_some, evT_none, evT_some, evI_seq, evI_r1, evI_enum, evI_zip, List.map_cons, List.map_nil, List.cons_append, List.nil_append, List.replicate, getVar, List.getElem?_cons_zero, List.getElem?_cons_succ, lift_some', bnd_ret, bnd_assoc, look_some', tB, tI, hO, frz_d, frz_f, its_fresh, storeTop, storeAt, setAt, List.length_cons, List.length_nil, List.set_cons_zero, List.set_cons_succ, Nat.reduceLT, Nat.reduceAdd, Nat.reduceSub, if_true, if_false, Bool.false_eq_true, permute, hvs?, datas?, chk_true, bin_mulB 1 a _ one_lt (Nat.lt_of_lt_of_le ha2 z), bin_mulB 1 b _ one_lt (Nat.lt_of_lt_of_le hb2 z), Int.one_mul, bin_divI _ _ _ (show (0 : Int) < ((Nat.gcd a.natAbs b.natAbs : Nat) : Int) by omega) hbits, lk2])
theorem nat_add_lt {a b c d : Nat} (ha : a < 2 ^ 200) (hb : b < 2 ^ 200) (hc : c < 2 ^ 200) (hd : d < 2 ^ 200) : a * b + c * d < 2 ^ 1000 := by
  have h1 : a * b ≤ 2 ^ 200 * 2 ^ 200 := Nat.mul_le_mul (Nat.le_of_lt ha) (Nat.le_of_lt hb)
  have h2 : c * d ≤ 2 ^ 200 * 2 ^ 200 := Nat.mul_le_mul (Nat.le_of_lt hc) (Nat.le_of_lt hd)
  exact Nat.lt_of_le_of_lt (Nat.add_le_add h1 h2) (by decide)
theorem Sm.nn {x y : Rat} (hx : Sm x) (hy : Sm y) : (x.num * (y.den : Nat) + y.num * (x.den : Nat)).natAbs < 2 ^ 1000 := by
  refine Nat.lt_of_le_of_lt (Int.natAbs_add_le _ _) ?_
  rw [Int.natAbs_mul, Int.natAbs_mul, Int.natAbs_natCast, Int.natAbs_natCast]
  exact nat_add_lt hx.n hy.d hy.n hx.d
theorem Sm.ns {x y : Rat} (hx : Sm x) (hy : Sm y) : (x.num * (y.den : Nat) - y.num * (x.den : Nat)).natAbs < 2 ^ 1000 := by
  refine Nat.lt_of_le_of_lt (Int.natAbs_sub_le _ _) ?_
  rw [Int.natAbs_mul, Int.natAbs_mul, Int.natAbs_natCast, Int.natAbs_natCast]
  exact nat_add_lt hx.n hy.d hy.n hx.d
theorem ladd_run (n : Nat) {x y : Rat} (hx : Sm x) (hy : Sm y) : callN prog (n + 2) "_law_add" [.d (rq x), .d (rq y)] = Ev.ret (rD (rq (x + y))) := by
  refine call_ret (f := f__law_add) (by rfl) rfl ?_
  rw [add_div]
  simp only [exs_nil, exs_cons, ex_asg, ex_par, ex_expr, ex_ret, ex_ite, ev_var, ev_lit, ev_glob, ev_bin, ev_neg, ev_cmp, ev_chain, ev_not, ev_and, ev_or, ev_ite, ev_tup, ev_lst, ev_frz, ev_ix, ev_sl, ev_bi, ev_isi, ev_lr, ev_call, ev_mth, evs_nil, evs_cons, evO_none, evO_some, evT_none, evT_some, evI_seq, evI_r1, evI_enum, evI_zip, List.map_cons, List.map_nil, List.cons_append, List.nil_append, List.replicate, getVar, List.getElem?_cons_zero, List.getElem?_cons_succ, lift_some', bnd_ret, bnd_assoc, look_some', tB, tI, hO, frz_d, frz_f, its_fresh, storeTop, storeAt, setAt, List.length_cons, List.length_nil, List.set_cons_zero, List.set_cons_succ, Nat.reduceLT, Nat.reduceAdd, Nat.reduceSub, if_true, if_false, Bool.false_eq_true, permute, hvs?, datas?, chk_true, f__law_add, rq0, rq1, bin_mulB _ _ _ hx.n' hy.d', bin_mulB _ _ _ hy.n' hx.d', bin_mulB _ _ _ hx.d' hy.d', bin_addI, pc (lmade_run n _ _ (dd_pos x y) (hx.nn hy) (hx.dd hy)) rfl rfl]
  exact ⟨_, rfl⟩
theorem lsub_run (n : Nat) {x y : Rat} (hx : Sm x) (hy : Sm y) : callN prog (n + 2) "_law_sub" [.d (rq x), .d (rq y)] = Ev.ret (rD (rq (x - y))) := by
  refine call_ret (f := f__law_sub) (by rfl) rfl ?_
  rw [sub_div]
  simp only [exs_nil, exs_cons, ex_asg, ex_par, ex_expr, ex_ret, ex_ite, ev_var, ev_lit, ev_glob, ev_bin, ev_neg, ev_cmp, ev_chain, ev_not, ev_and, ev_or, ev_ite, ev_tup, ev_lst, ev_frz, ev_ix, ev_sl, ev_bi, ev_isi, ev_lr, ev_call, ev_mth, evs_nil, evs_cons, evO_none, evO_some, evT_none, evT_some, evI_seq, evI_r1, evI_enum, evI_zip, List.map_cons, List.map_nil, List.cons_append, List.nil_append, List.replicate, getVar, List.getElem?_cons_zero, List.getElem?_cons_succ, lift_some', bnd_ret, bnd_assoc, look_some', tB, tI, hO, frz_d, frz_f, its_fresh, storeTop, storeAt, setAt, List.length_cons, List.length_nil, List.set_cons_zero, List.set_cons_succ, Nat.reduceLT, Nat.reduceAdd, Nat.reduceSub, if_true, if_false, Bool.false_eq_true, permute, hvs?, datas?, chk_true, f__law_sub, rq0, rq1, bin_mulB _ _ _ hx.n' hy.d', bin_mulB _ _ _ hy.n' hx.d', bin_mulB _ _ _ hx.d' hy.d', bin_subI, pc (lmade_run n _ _ (dd_pos x y) (hx.ns hy) (hx.dd hy)) rfl rfl]
  exact ⟨_, rfl⟩
theorem lmul_run (n : Nat) {x y : Rat} (hx : Sm x) (hy : Sm y) : callN prog (n + 2) "_law_mul" [.d (rq x), .d (rq y)] = Ev.ret (rD (rq (x * y))) := by
  refine call_ret (f := f__law_mul) (by rfl) rfl ?_
  rw [mul_div]
  have h1 : (x.num * y.num).natAbs < 2 ^ 1000 := by
    rw [Int.natAbs_mul]
    exact nat_mul_lt hx.n hy.n
  simp only [exs_nil, exs_cons, ex_asg, ex_par, ex_expr, ex_ret, ex_ite, ev_var, ev_lit, ev_glob, ev_bin, ev_neg, ev_cmp, ev_chain, ev_not, ev_and, ev_or, ev_ite, ev_tup, ev_lst, ev_frz, ev_ix, ev_sl, ev_bi, ev_isi, ev_lr, ev_call, ev_mth, evs_nil, evs_cons, evO_none, evO_some, evT_none, evT_some, evI_seq, evI_r1, evI_enum, evI_zip, List.map_cons, List.map_nil, List.cons_append, List.nil_append, List.replicate, getVar, List.getElem?_cons_zero, List.getElem?_cons_succ, lift_some', bnd_ret, bnd_assoc, look_some', tB, tI, hO, frz_d, frz_f, its_fresh, storeTop, storeAt, setAt, List.length_cons, List.length_nil, List.set_cons_zero, List.set_cons_succ, Nat.reduceLT, Nat.reduceAdd, Nat.reduceSub, if_true, if_false, Bool.false_eq_true, permute, hvs?, datas?, chk_true, f__law_mul, rq0, rq1, bin_mulB _ _ _ hx.n' hy.n', bin_mulB _ _ _ hx.d' hy.d', pc (lmade_run n _ _ (dd_pos x y) h1 (hx.dd hy)) rfl rfl]
  exact ⟨_, rfl⟩
theorem ldiv_run (n : Nat) {x y : Rat} (hx : Sm x) (hy : Sm y) (hp : 0 < y) : callN prog (n + 2) "_law_div" [.d (rq x), .d (rq y)] = Ev.ret (rD (rq (x / y))) := by
  refine call_ret (f := f__law_div) (by rfl) rfl ?_
  rw [div_div]
  have h1 : (((x.den : Nat) : Int) * y.num).natAbs < 2 ^ 1000 := by
    rw [Int.natAbs_mul, Int.natAbs_natCast]
    exact nat_mul_lt hx.d hy.n
  have h2 : (x.num * ((y.den : Nat) : Int)).natAbs < 2 ^ 1000 := by
    rw [Int.natAbs_mul, Int.natAbs_natCast]
    exact nat_mul_lt hx.n hy.d
  simp only [exs_nil, exs_cons, ex_asg, ex_par, ex_expr, ex_ret, ex_ite, ev_var, ev_lit, ev_glob, ev_bin, ev_neg, ev_cmp, ev_chain, ev_not, ev_and, ev_or, ev_ite, ev_tup, ev_lst, ev_frz, ev_ix, ev_sl, ev_bi, ev_isi, ev_lr, ev_call, ev_mth, evs_nil, evs_cons, evO_none, evO_some, evT_none, evT_some, evI_seq, evI_r1, evI_enum, evI_zip, List.map_cons, List.map_nil, List.cons_append, List.nil_append, List.replicate, getVar, List.getElem?_cons_zero, List.getElem?_cons_succ, lift_some', bnd_ret, bnd_assoc, look_some', tB, tI, hO, frz_d, frz_f, its_fresh, storeTop, storeAt, setAt, List.length_cons, List.length_nil, List.set_cons_zero, List.set_cons_succ, Nat.reduceLT, Nat.reduceAdd, Nat.reduceSub, if_true, if_false, Bool.false_eq_true, permute, hvs?, datas?, chk_true, f__law_div, rq0, rq1, bin_mulB _ _ _ hx.n' hy.d', bin_mulB _ _ _ hx.d' hy.n', pc (lmade_run n _ _ (Int.mul_pos (dpos x) (num_pos hp)) h2 h1) rfl rfl]
  exact ⟨_, rfl⟩
theorem llt_run (n : Nat) {x y : Rat} (hx : Sm x) (hy : Sm y) : callN prog (n + 1) "_law_lt" [.d (rq x), .d (rq y)] = Ev.ret (rD (.bool (decide (x < y)))) := by
  refine call_ret (f := f__law_lt) (by rfl) rfl ?_
  rw [show decide (x < y) = decide (x.num * (y.den : Nat) < y.num * (x.den : Nat)) from decide_eq_decide.mpr (Rat.lt_iff x y)]
  simp only [exs_nil, exs_cons, ex_asg, ex_par, ex_expr, ex_ret, ex_ite, ev_var, ev_lit, ev_glob, ev_bin, ev_neg, ev_cmp, ev_chain, ev_not, ev_and, ev_or, ev_ite, ev_tup, ev_lst, ev_frz, ev_ix, ev_sl, ev_bi, ev_isi, ev_lr, ev_call, ev_mth, evs_nil, evs_cons, evO_none, evO_some, evT_none, evT_some, evI_seq, evI_r1, evI_enum, evI_zip, List.map_cons, List.map_nil, List.cons_append, List.nil_append, List.replicate, getVar, List.getElem?_cons_zero, List.getElem?_cons_succ, lift_some', bnd_ret, bnd_assoc, look_some', tB, tI, hO, frz_d, frz_f, its_fresh, storeTop, storeAt, setAt, List.length_cons, List.length_nil, List.set_cons_zero, List.set_cons_succ, Nat.reduceLT, Nat.reduceAdd, Nat.reduceSub, if_true, if_false, Bool.false_eq_true, permute, hvs?, datas?, chk_true, f__law_lt, rq0, rq1, bin_mulB _ _ _ hx.n' hy.d', bin_mulB _ _ _ hy.n' hx.d', cmp_lt]
  exact ⟨_, rfl⟩
theorem ltotal_run (n D : Nat) (D0 : 0 < D) (D1 : D < 2 ^ 64) {W : PyData} (xs : List Rat) (hW : ∀ h, itsOf h (rD W) = some (.seq (xs.map fun x => .d (rq x)))) (hx : ∀ x ∈ xs, Nb D x ∧ 0 ≤ x) (hs : xs.sum ≤ 100000) : callN prog (n + 3) "_law_total" [.d W] = Ev.ret (rD (rq xs.sum)) := by
  refine call_gives (f := f__law_total) (by rfl) rfl ?_
  unfold f__law_total
  refine Gives.go (env' := [some (.d W), some (.d (rq 0)), none]) (by
    rw [rq_zero]
    simp only [exs_nil, exs_cons, ex_asg, ex_par, ex_expr, ex_ret, ex_ite, ev_var, ev_lit, ev_glob, ev_bin, ev_neg, ev_cmp, ev_chain, ev_not, ev_and, ev_or, ev_ite, ev_tup, ev_lst, ev_frz, ev_ix, ev_sl, ev_bi, ev_isi, ev_lr, ev_call, ev_mth, evs_nil, evs_cons, evO_none, evO_some, evT_none, evT_some, evI_seq, evI_r1, evI_enum, evI_zip, List.map_cons, List.map_nil, List.cons_append, List.nil_append, List.replicate, getVar, List.getElem?_cons_zero, List.getElem?_cons_succ, lift_some', bnd_ret, bnd_assoc, look_some', tB, tI, hO, frz_d, frz_f, its_fresh, storeTop, storeAt, setAt, List.length_cons, List.length_nil, List.set_cons_zero, List.set_cons_succ, Nat.reduceLT, Nat.reduceAdd, Nat.reduceSub, if_true, if_false, Bool.false_eq_true, permute, hvs?, datas?, chk_true, lk2]) ?_
  have loop : ∀ (xs : List Rat) (s : Rat) (p : Option HV), (∀ x ∈ xs, Nb D x ∧ 0 ≤ x) → Nb D s → 0 ≤ s → s + xs.sum ≤ 100000 → ∃ q, forSeq (fun x env => bnd (lift (store (.name 2) x env)) fun env1 => exs (callN prog (n + 2)) [.asg (.name 1) (.frz (.call "_law_add" true [0, 1] [(.var 1), (.var 2)]))] env1) (xs.map fun x => .d (rq x)) [some (.d W), some (.d (rq s)), p] = Ev.ret (.nx, [some (.d W), some (.d (rq (s + xs.sum))), q]) := by
    intro xs
    induction xs with
    | nil =>
      intro s p _ _ _ _
      refine ⟨p, ?_⟩
      have : s + ([] : List Rat).sum = s := by
        show s + 0 = s
        grind
      rw [this]
      rfl
    | cons x xs ih =>
      intro s p hx ns s0 hs
      obtain ⟨nx, x0⟩ := hx x List.mem_cons_self
      have r0 : 0 ≤ xs.sum := by
        have := sum_nonneg (xs := xs) (f := fun x => x) fun y hy => (hx y (List.mem_cons_of_mem _ hy)).2
        rwa [sum_id] at this
      rw [List.sum_cons] at hs
      obtain ⟨q, e⟩ := ih (s + x) (some (.d (rq x))) (fun y hy => hx y (List.mem_cons_of_mem _ hy)) (ns.add nx (by grind) (by grind)) (by grind) (by grind)
      refine ⟨q, ?_⟩
      rw [List.sum_cons, show s + (x + xs.sum) = s + x + xs.sum by grind, ← e]
      rw [List.map_cons]
      show bnd _ _ = _
      simp only [exs_nil, exs_cons, ex_asg, ex_par, ex_expr, ex_ret, ex_ite, ev_var, ev_lit, ev_glob, ev_bin, ev_neg, ev_cmp, ev_chain, ev_not, ev_and, ev_or, ev_ite, ev_tup, ev_lst, ev_frz, ev_ix, ev_sl, ev_bi, ev_isi, ev_lr, ev_call, ev_mth, evs_nil, evs_cons, evO_none, evO_some, evT_none, evT_some, evI_seq, evI_r1, evI_enum, evI_zip, List.map_cons, List.map_nil, List.cons_append, List.nil_append, List.replicate, getVar, List.getElem?_cons_zero, List.getElem?_cons_succ, lift_some', bnd_ret, bnd_assoc, look_some', tB, tI, hO, frz_d, frz_f, its_fresh, storeTop, storeAt, setAt, List.length_cons, List.length_nil, List.set_cons_zero, List.set_cons_succ, Nat.reduceLT, Nat.reduceAdd, Nat.reduceSub, if_true, if_false, Bool.false_eq_true, permute, hvs?, datas?, chk_true, store_name, pc (ladd_run n (ns.sm D0 (by omega)) (nx.sm D0 (by omega))) rfl rfl]
  obtain ⟨q, e⟩ := loop xs 0 none hx nb_zero (by grind) (by grind)
  refine Gives.go (env' := [some (.d W), some (.d (rq xs.sum)), q]) (by
    have hI : evI (callN prog (n + 2)) (.seq (.var 0)) [some (.d W), some (.d (rq 0)), none] = Ev.ret (.seq (xs.map fun x => .d (rq x))) := by simp only [exs_nil, exs_cons, ex_asg, ex_par, ex_expr, ex_ret, ex_ite, ev_var, ev_lit, ev_glob, ev_bin, ev_neg, ev_cmp, ev_chain, ev_not, ev_and, ev_or, ev_ite, ev_tup, ev_lst, ev_frz, ev_ix, ev_sl, ev_bi, ev_isi, ev_lr, ev_call, ev_mth, evs_nil, evs_cons, evO_none, evO_some, evT_none, evT_some, evI_seq, evI_r1, evI_enum, evI_zip, List.map_cons, List.map_nil, List.cons_append, List.nil_append, List.replicate, getVar, List.getElem?_cons_zero, List.getElem?_cons_succ, lift_some', bnd_ret, bnd_assoc, look_some', tB, tI, hO, frz_d, frz_f, its_fresh, storeTop, storeAt, setAt, List.length_cons, List.length_nil, List.set_cons_zero, List.set_cons_succ, Nat.reduceLT, Nat.reduceAdd, Nat.reduceSub, if_true, if_false, Bool.false_eq_true, permute, hvs?, datas?, chk_true, hW]
    rw [ex_for, hI, bnd_ret]
    have : (0 : Rat) + xs.sum = xs.sum := by grind
    rw [this] at e
    exact e) ?_
  exact Gives.ret (by simp only [exs_nil, exs_cons, ex_asg, ex_par, ex_expr, ex_ret, ex_ite, ev_var, ev_lit, ev_glob, ev_bin, ev_neg, ev_cmp, ev_chain, ev_not, ev_and, ev_or, ev_ite, ev_tup, ev_lst, ev_frz, ev_ix, ev_sl, ev_bi, ev_isi, ev_lr, ev_call, ev_mth, evs_nil, evs_cons, evO_none, evO_some, evT_none, evT_some, evI_seq, evI_r1, evI_enum, evI_zip, List.map_cons, List.map_nil, List.cons_append, List.nil_append, List.replicate, getVar, List.getElem?_cons_zero, List.getElem?_cons_succ, lift_some', bnd_ret, bnd_assoc, look_some', tB, tI, hO, frz_d, frz_f, its_fresh, storeTop, storeAt, setAt, List.length_cons, List.length_nil, List.set_cons_zero, List.set_cons_succ, Nat.reduceLT, Nat.reduceAdd, Nat.reduceSub, if_true, if_false, Bool.false_eq_true, permute, hvs?, datas?, chk_true])
theorem num_pos_iff (x : Rat) : decide (0 < x.num) = decide (0 < x) := by
  refine decide_eq_decide.mpr ?_
  have := Rat.lt_iff 0 x
  simpa using this.symm
theorem lgarment_run (n D : Nat) {a b : Int} {e : Rat} (h : Gx D ((a : Int) : Rat) ((b : Int) : Rat) e) (ha : 0 ≤ a ∧ a ≤ 1000) (hb : 0 ≤ b ∧ b ≤ 1000) : callN prog (n + 3) "_law_garment" [I a, I b, .d (rq e)] = Ev.ret (rD (.tuple [rq (cg1 ((a : Int) : Rat) ((b : Int) : Rat) e), rq (cg2 ((a : Int) : Rat) ((b : Int) : Rat) e)])) := by
  obtain ⟨n1, n2, n3, n4, n5⟩ := h.parts
  have D0 := h.D0
  have D1 := h.D1
  have x0 := h.x0
  have y0 := h.y0
  have e0 := h.e0
  have sx := h.nx.sm D0 (by omega)
  have sy := h.ny.sm D0 (by omega)
  have se := h.ne.sm D0 (by omega)
  have s1 := n1.sm D0 (by omega)
  have s2 := n2.sm D0 (by omega)
  have s3 := n3.sm D0 (by omega)
  have s4 := n4.sm D0 (by omega)
  have s5 := n5.sm (by omega) (by omega)
  have t1 : ∀ (z : Rat), (if 0 < e - z then e - z else 0) = e - mn z e := fun z => by
    unfold mn
    grind
  have pick : ∀ (z : Rat) (hp : Hp), (if decide (0 < (e - z).num) = true then rD (rq (e - z)) else rD (.tuple [.int 0, .int 1])) = rD (rq (e - mn z e)) := fun z hp => by
    rw [num_pos_iff, ← t1, ← rq_zero]
    by_cases c : 0 < e - z
    · rw [if_pos c, if_pos (decide_eq_true c)]
    · rw [if_neg c, if_neg (by rw [decide_eq_false c]; exact Bool.false_ne_true)]
  have two : HV.d (.tuple [.int 2, .int 1]) = .d (rq ((2 : Int) : Rat)) := by rw [rq_int]
  have s2' : Sm ((2 : Int) : Rat) := sm_int (by decide)
  have half : ∀ z : Rat, z / ((2 : Int) : Rat) = 1 / 2 * z := fun z => by
    have : ((2 : Int) : Rat) = 2 := rfl
    rw [this]
    grind
  refine call_gives (f := f__law_garment) (by rfl) rfl ?_
  unfold f__law_garment cg1 cg2
  refine Gives.go (env' := [some (I a), some (I b), some (.d (rq e)), some (.d (rq (e - ((b : Int) : Rat)))), none, none]) (by
    simp only [exs_nil, exs_cons, ex_asg, ex_par, ex_expr, ex_ret, ex_ite, ev_var, ev_lit, ev_glob, ev_bin, ev_neg, ev_cmp, ev_chain, ev_not, ev_and, ev_or, ev_ite, ev_tup, ev_lst, ev_frz, ev_ix, ev_sl, ev_bi, ev_isi, ev_lr, ev_call, ev_mth, evs_nil, evs_cons, evO_none, evO_some, evT_none, evT_some, evI_seq, evI_r1, evI_enum, evI_zip, List.map_cons, List.map_nil, List.cons_append, List.nil_append, List.replicate, getVar, List.getElem?_cons_zero, List.getElem?_cons_succ, lift_some', bnd_ret, bnd_assoc, look_some', tB, tI, hO, frz_d, frz_f, its_fresh, storeTop, storeAt, setAt, List.length_cons, List.length_nil, List.set_cons_zero, List.set_cons_succ, Nat.reduceLT, Nat.reduceAdd, Nat.reduceSub, if_true, if_false, Bool.false_eq_true, permute, hvs?, datas?, chk_true, lk2, int_hv, pc (lsub_run n se sy) rfl rfl]) ?_
  refine Gives.go (env' := [some (I a), some (I b), some (.d (rq e)), some (.d (rq (e - ((b : Int) : Rat)))), some (.d (rq (e - ((a : Int) : Rat)))), none]) (by
    simp only [exs_nil, exs_cons, ex_asg, ex_par, ex_expr, ex_ret, ex_ite, ev_var, ev_lit, ev_glob, ev_bin, ev_neg, ev_cmp, ev_chain, ev_not, ev_and, ev_or, ev_ite, ev_tup, ev_lst, ev_frz, ev_ix, ev_sl, ev_bi, ev_isi, ev_lr, ev_call, ev_mth, evs_nil, evs_cons, evO_none, evO_some, evT_none, evT_some, evI_seq, evI_r1, evI_enum, evI_zip, List.map_cons, List.map_nil, List.cons_append, List.nil_append, List.replicate, getVar, List.getElem?_cons_zero, List.getElem?_cons_succ, lift_some', bnd_ret, bnd_assoc, look_some', tB, tI, hO, frz_d, frz_f, its_fresh, storeTop, storeAt, setAt, List.length_cons, List.length_nil, List.set_cons_zero, List.set_cons_succ, Nat.reduceLT, Nat.reduceAdd, Nat.reduceSub, if_true, if_false, Bool.false_eq_true, permute, hvs?, datas?, chk_true, lk2, int_hv, pc (lsub_run n se sx) rfl rfl]) ?_
  refine Gives.go (env' := [some (I a), some (I b), some (.d (rq e)), some (.d (rq (e - mn ((b : Int) : Rat) e))), some (.d (rq (e - mn ((a : Int) : Rat) e))), none]) (by
    have i1 : ∀ (z : Rat) (u : RV) (env : Ev.Env), (if decide (0 < (e - z).num) = true then Ev.ret (rD (rq (e - z))) else Ev.ret (rD (.tuple [.int 0, .int 1]))) = (Ev.ret (rD (rq (e - mn z e))) : M RV) := fun z _ _ => by
      rw [← pick z []]
      split <;> rfl
    simp only [exs_nil, exs_cons, ex_asg, ex_par, ex_expr, ex_ret, ex_ite, ev_var, ev_lit, ev_glob, ev_bin, ev_neg, ev_cmp, ev_chain, ev_not, ev_and, ev_or, ev_ite, ev_tup, ev_lst, ev_frz, ev_ix, ev_sl, ev_bi, ev_isi, ev_lr, ev_call, ev_mth, evs_nil, evs_cons, evO_none, evO_some, evT_none, evT_some, evI_seq, evI_r1, evI_enum, evI_zip, List.map_cons, List.map_nil, List.cons_append, List.nil_append, List.replicate, getVar, List.getElem?_cons_zero, List.getElem?_cons_succ, lift_some', bnd_ret, bnd_assoc, look_some', tB, tI, hO, frz_d, frz_f, its_fresh, storeTop, storeAt, setAt, List.length_cons, List.length_nil, List.set_cons_zero, List.set_cons_succ, Nat.reduceLT, Nat.reduceAdd, Nat.reduceSub, if_true, if_false, Bool.false_eq_true, permute, hvs?, datas?, chk_true, ex_par, rq0, cmp_gt, lk2, i1 _ (rD .none) [], decide_true, Bool.and_self, List.reverse_cons, List.reverse_nil, storeAts] <;> rfl) ?_
  refine Gives.go (env' := [some (I a), some (I b), some (.d (rq e)), some (.d (rq (e - mn ((b : Int) : Rat) e))), some (.d (rq (e - mn ((a : Int) : Rat) e))), some (.d (rq (1 / 2 * (e - ((e - mn ((b : Int) : Rat) e) + (e - mn ((a : Int) : Rat) e))))))]) (by
    simp only [exs_nil, exs_cons, ex_asg, ex_par, ex_expr, ex_ret, ex_ite, ev_var, ev_lit, ev_glob, ev_bin, ev_neg, ev_cmp, ev_chain, ev_not, ev_and, ev_or, ev_ite, ev_tup, ev_lst, ev_frz, ev_ix, ev_sl, ev_bi, ev_isi, ev_lr, ev_call, ev_mth, evs_nil, evs_cons, evO_none, evO_some, evT_none, evT_some, evI_seq, evI_r1, evI_enum, evI_zip, List.map_cons, List.map_nil, List.cons_append, List.nil_append, List.replicate, getVar, List.getElem?_cons_zero, List.getElem?_cons_succ, lift_some', bnd_ret, bnd_assoc, look_some', tB, tI, hO, frz_d, frz_f, its_fresh, storeTop, storeAt, setAt, List.length_cons, List.length_nil, List.set_cons_zero, List.set_cons_succ, Nat.reduceLT, Nat.reduceAdd, Nat.reduceSub, if_true, if_false, Bool.false_eq_true, permute, hvs?, datas?, chk_true, pc (ladd_run n s1 s2) rfl rfl, pc (lsub_run n se s3) rfl rfl, lk2, two, pc (ldiv_run n s4 s2' (by decide +kernel)) rfl rfl, half]) ?_
  exact Gives.ret (by
    simp only [exs_nil, exs_cons, ex_asg, ex_par, ex_expr, ex_ret, ex_ite, ev_var, ev_lit, ev_glob, ev_bin, ev_neg, ev_cmp, ev_chain, ev_not, ev_and, ev_or, ev_ite, ev_tup, ev_lst, ev_frz, ev_ix, ev_sl, ev_bi, ev_isi, ev_lr, ev_call, ev_mth, evs_nil, evs_cons, evO_none, evO_some, evT_none, evT_some, evI_seq, evI_r1, evI_enum, evI_zip, List.map_cons, List.map_nil, List.cons_append, List.nil_append, List.replicate, getVar, List.getElem?_cons_zero, List.getElem?_cons_succ, lift_some', bnd_ret, bnd_assoc, look_some', tB, tI, hO, frz_d, frz_f, its_fresh, storeTop, storeAt, setAt, List.length_cons, List.length_nil, List.set_cons_zero, List.set_cons_succ, Nat.reduceLT, Nat.reduceAdd, Nat.reduceSub, if_true, if_false, Bool.false_eq_true, permute, hvs?, datas?, chk_true, pc (ladd_run n s1 s5) rfl rfl, pc (ladd_run n s2 s5) rfl rfl, lk2])
end Lw

set_option linter.all false
set_option Elab.async false
set_option maxRecDepth 100000
set_option maxHeartbeats 4000000
/-! N9: the law's parts: asked, amounts, consistency. -/
namespace Lw
open PySem Ev
/-! ### comprehensions that draw -/
theorem compSeq_ex {δ : Type} {turn : HV → M (Option HV)} (f : δ → HV) (P : Hp → Prop) (Q : HV → Prop) : ∀ (xs : List δ), (∀ x ∈ xs, ∀ h, P h → ∃ y h', turn (f x) h = some (some y, h') ∧ P h' ∧ Q y) → ∀ h, P h → ∃ ys h', compSeq turn (xs.map f) h = some (ys, h') ∧ P h' ∧ ys.length = xs.length ∧ ∀ y ∈ ys, Q y
  | [], _, h, p => ⟨[], h, rfl, p, rfl, fun y hy => nomatch hy⟩
  | x :: xs, hT, h, p => by
    obtain ⟨y, h1, e1, p1, q1⟩ := hT x List.mem_cons_self h p
    obtain ⟨ys, h2, e2, p2, l2, q2⟩ := compSeq_ex f P Q xs (fun z hz => hT z (List.mem_cons_of_mem _ hz)) h1 p1
    refine ⟨y :: ys, h2, ?_, p2, by rw [List.length_cons, List.length_cons, l2], fun z hz => ?_⟩
    · rw [List.map_cons]
      unfold compSeq
      rw [bnd_at _ e1, bnd_at _ e2]
      rfl
    · rcases List.mem_cons.mp hz with rfl | hz
      · exact q1
      · exact q2 z hz
theorem compSeq_sub {δ : Type} {turn : HV → M (Option HV)} (f g : δ → HV) (P : Hp → Prop) : ∀ (xs : List δ), (∀ x ∈ xs, ∀ h, P h → ∃ (b : Bool) (h' : Hp), turn (f x) h = some (if b then some (g x) else none, h') ∧ P h') → ∀ h, P h → ∃ (zs : List δ) (h' : Hp), compSeq turn (xs.map f) h = some (zs.map g, h') ∧ P h' ∧ zs.length ≤ xs.length ∧ ∀ z ∈ zs, z ∈ xs
  | [], _, h, p => ⟨[], h, rfl, p, Nat.le_refl _, fun y hy => nomatch hy⟩
  | x :: xs, hT, h, p => by
    obtain ⟨b, h1, e1, p1⟩ := hT x List.mem_cons_self h p
    obtain ⟨ys, h2, e2, p2, l2, q2⟩ := compSeq_sub f g P xs (fun z hz => hT z (List.mem_cons_of_mem _ hz)) h1 p1
    cases b with
    | true =>
      refine ⟨x :: ys, h2, ?_, p2, by rw [List.length_cons, List.length_cons]; omega, fun z hz => ?_⟩
      · rw [List.map_cons]
        unfold compSeq
        rw [bnd_at _ e1, bnd_at _ e2]
        rfl
      · rcases List.mem_cons.mp hz with rfl | hz
        · exact List.mem_cons_self
        · exact List.mem_cons_of_mem _ (q2 z hz)
    | false =>
      refine ⟨ys, h2, ?_, p2, by rw [List.length_cons]; omega, fun z hz => List.mem_cons_of_mem _ (q2 z hz)⟩
      rw [List.map_cons]
      unfold compSeq
      rw [bnd_at _ e1, bnd_at _ e2]
      rfl
theorem ev_comp_at {C : CallT} {env : Ev.Env} {elt : E} {tg : Tg} {it : Ev.I} {test : Option E} {own : List Nat} {h h1 h2 : Hp} {xs ys : List HV} (hI : evI C it env h = some (.seq xs, h1)) (hT : compSeq (turnOf C elt tg test own env) xs h1 = some (ys, h2)) (hl : ys.length ≤ 100000) : ev C (.comp elt tg it test own) env h = some (.fresh ys, h2) := by
  show bnd (evI C it env) (fun its => bnd (compV (turnOf C elt tg test own env) its) fun ys => bnd (chk (lenOk ys.length)) fun _ => Ev.ret (RV.fresh ys)) h = _
  rw [bnd_at _ hI]
  show bnd (compSeq (turnOf C elt tg test own env) xs) _ h1 = _
  rw [bnd_at _ hT, lenOk_of (by omega)]
  rfl
theorem PotAt.next {h : Hp} {n : Nat} (hp : PotAt h n) {p q : Int} (z : 0 ≤ p ∧ 0 ≤ q ∧ q < 2 ^ 32) : PotAt (h.set n (OP p q)) n := hp.set z.1 z.2.1 z.2.2
theorem ints_ex : ∀ {ys : List HV}, (∀ y ∈ ys, ∃ a : Int, y = I a ∧ 1 ≤ a ∧ a ≤ 99) → ∃ as : List Int, ys = as.map (fun a => I a) ∧ as.length = ys.length ∧ ∀ a ∈ as, 1 ≤ a ∧ a ≤ 99
  | [], _ => ⟨[], rfl, rfl, fun a ha => nomatch ha⟩
  | y :: ys, h => by
    obtain ⟨a, rfl, h1⟩ := h y List.mem_cons_self
    obtain ⟨as, e, l, h2⟩ := ints_ex fun z hz => h z (List.mem_cons_of_mem _ hz)
    exact ⟨a :: as, by rw [e]; rfl, by rw [List.length_cons, List.length_cons, l], fun b hb => by
      rcases List.mem_cons.mp hb with rfl | hb
      · exact h1
      · exact h2 b hb⟩
theorem tupI_run (as : List Int) (h : Hp) : biV h .tuple [.fresh (as.map fun a => I a)] = some (rD (T as)) := tup_run as .int h
theorem lasked_run (k n : Nat) (h : Hp) (hp : PotAt h n) : ∃ (as : List Int) (h' : Hp), callN prog (k + 3) "_law_asked" [.ref n] h = some (rD (T as), h') ∧ Ax as ∧ PotAt h' n := by
  obtain ⟨d, p, q, e1, d0, d1, r⟩ := draw_run (k + 1) n h 8 (by omega) (by omega) hp
  have hp1 := hp.next r
  have hI : evI (callN prog (k + 2)) (.range1 (.bin .add (.lit (.int 1)) (.call "_law_draw" false [0, 1] [(.var 0), (.lit (.int 8))]))) [some (.ref n), none] h = some (.seq ((List.range (1 + d).toNat).map fun i => I (i : Nat)), h.set n (OP p q)) := by
    refine range_dyn ?_ (by omega) (by omega)
    simp only [exs_nil, exs_cons, ex_asg, ex_par, ex_expr, ex_ret, ex_ite, ev_var, ev_lit, ev_glob, ev_bin, ev_neg, ev_cmp, ev_chain, ev_not, ev_and, ev_or, ev_ite, ev_tup, ev_lst, ev_frz, ev_ix, ev_sl, ev_bi, ev_isi, ev_lr, ev_call, ev_mth, evs_nil, evs_cons, evO_none, evO_some, evT_none, evT_some, evI_seq, evI_r1, evI_enum, evI_zip, List.map_cons, List.map_nil, List.cons_append, List.nil_append, List.replicate, getVar, List.getElem?_cons_zero, List.getElem?_cons_succ, lift_some', bnd_ret, bnd_assoc, look_some', tB, tI, hO, frz_d, frz_f, its_fresh, storeTop, storeAt, setAt, List.length_cons, List.length_nil, List.set_cons_zero, List.set_cons_succ, Nat.reduceLT, Nat.reduceAdd, Nat.reduceSub, if_true, if_false, Bool.false_eq_true, permute, hvs?, datas?, chk_true, runCall_f]
    rw [bnd_at _ e1]
    simp only [exs_nil, exs_cons, ex_asg, ex_par, ex_expr, ex_ret, ex_ite, ev_var, ev_lit, ev_glob, ev_bin, ev_neg, ev_cmp, ev_chain, ev_not, ev_and, ev_or, ev_ite, ev_tup, ev_lst, ev_frz, ev_ix, ev_sl, ev_bi, ev_isi, ev_lr, ev_call, ev_mth, evs_nil, evs_cons, evO_none, evO_some, evT_none, evT_some, evI_seq, evI_r1, evI_enum, evI_zip, List.map_cons, List.map_nil, List.cons_append, List.nil_append, List.replicate, getVar, List.getElem?_cons_zero, List.getElem?_cons_succ, lift_some', bnd_ret, bnd_assoc, look_some', tB, tI, hO, frz_d, frz_f, its_fresh, storeTop, storeAt, setAt, List.length_cons, List.length_nil, List.set_cons_zero, List.set_cons_succ, Nat.reduceLT, Nat.reduceAdd, Nat.reduceSub, if_true, if_false, Bool.false_eq_true, permute, hvs?, datas?, chk_true, bin_addI]
    rfl
  obtain ⟨ys, h2, e2, p2, l2, q2⟩ := compSeq_ex (turn := turnOf (callN prog (k + 2)) (.frz (.call "_law_pick" false [0, 1] [(.var 0), (.frz (.lst [(.frz (.bin .add (.lit (.int 1)) (.call "_law_draw" false [0, 1] [(.var 0), (.lit (.int 99))]))), (.frz (.bin .add (.lit (.int 1)) (.call "_law_draw" false [0, 1] [(.var 0), (.lit (.int 9))]))), (.lit (.int 10))]))])) (.name 1) none [1] [some (.ref n), none])
    (fun i : Nat => I (i : Nat)) (fun h => PotAt h n) (fun y => ∃ a : Int, y = I a ∧ 1 ≤ a ∧ a ≤ 99) (List.range (1 + d).toNat) (fun x _ h hp => by
      obtain ⟨a, p1, q1, ea, a0, a1, ra⟩ := draw_run (k + 1) n h 99 (by omega) (by omega) hp
      have hp1 := hp.next ra
      obtain ⟨b, p2, q2, eb, b0, b1, rb⟩ := draw_run (k + 1) n _ 9 (by omega) (by omega) hp1
      have hp2 := hp1.next rb
      obtain ⟨c, p3, q3, ec, hc, rc⟩ := pick_run k n _ [.int (1 + a), .int (1 + b), .int 10] (by simp) (by simp) hp2
      refine ⟨.d c, _, ?_, hp2.next rc, ?_⟩
      · unfold turnOf
        simp only [exs_nil, exs_cons, ex_asg, ex_par, ex_expr, ex_ret, ex_ite, ev_var, ev_lit, ev_glob, ev_bin, ev_neg, ev_cmp, ev_chain, ev_not, ev_and, ev_or, ev_ite, ev_tup, ev_lst, ev_frz, ev_ix, ev_sl, ev_bi, ev_isi, ev_lr, ev_call, ev_mth, evs_nil, evs_cons, evO_none, evO_some, evT_none, evT_some, evI_seq, evI_r1, evI_enum, evI_zip, List.map_cons, List.map_nil, List.cons_append, List.nil_append, List.replicate, getVar, List.getElem?_cons_zero, List.getElem?_cons_succ, lift_some', bnd_ret, bnd_assoc, look_some', tB, tI, hO, frz_d, frz_f, its_fresh, storeTop, storeAt, setAt, List.length_cons, List.length_nil, List.set_cons_zero, List.set_cons_succ, Nat.reduceLT, Nat.reduceAdd, Nat.reduceSub, if_true, if_false, Bool.false_eq_true, permute, hvs?, datas?, chk_true, store_name, Ev.wipe, runCall_f]
        rw [bnd_at _ ea]
        simp only [exs_nil, exs_cons, ex_asg, ex_par, ex_expr, ex_ret, ex_ite, ev_var, ev_lit, ev_glob, ev_bin, ev_neg, ev_cmp, ev_chain, ev_not, ev_and, ev_or, ev_ite, ev_tup, ev_lst, ev_frz, ev_ix, ev_sl, ev_bi, ev_isi, ev_lr, ev_call, ev_mth, evs_nil, evs_cons, evO_none, evO_some, evT_none, evT_some, evI_seq, evI_r1, evI_enum, evI_zip, List.map_cons, List.map_nil, List.cons_append, List.nil_append, List.replicate, getVar, List.getElem?_cons_zero, List.getElem?_cons_succ, lift_some', bnd_ret, bnd_assoc, look_some', tB, tI, hO, frz_d, frz_f, its_fresh, storeTop, storeAt, setAt, List.length_cons, List.length_nil, List.set_cons_zero, List.set_cons_succ, Nat.reduceLT, Nat.reduceAdd, Nat.reduceSub, if_true, if_false, Bool.false_eq_true, permute, hvs?, datas?, chk_true, bin_addI]
        rw [bnd_at _ eb]
        simp only [exs_nil, exs_cons, ex_asg, ex_par, ex_expr, ex_ret, ex_ite, ev_var, ev_lit, ev_glob, ev_bin, ev_neg, ev_cmp, ev_chain, ev_not, ev_and, ev_or, ev_ite, ev_tup, ev_lst, ev_frz, ev_ix, ev_sl, ev_bi, ev_isi, ev_lr, ev_call, ev_mth, evs_nil, evs_cons, evO_none, evO_some, evT_none, evT_some, evI_seq, evI_r1, evI_enum, evI_zip, List.map_cons, List.map_nil, List.cons_append, List.nil_append, List.replicate, getVar, List.getElem?_cons_zero, List.getElem?_cons_succ, lift_some', bnd_ret, bnd_assoc, look_some', tB, tI, hO, frz_d, frz_f, its_fresh, storeTop, storeAt, setAt, List.length_cons, List.length_nil, List.set_cons_zero, List.set_cons_succ, Nat.reduceLT, Nat.reduceAdd, Nat.reduceSub, if_true, if_false, Bool.false_eq_true, permute, hvs?, datas?, chk_true, bin_addI, lk3]
        have e3 : frzV (.fresh [I (1 + a), I (1 + b), I 10]) = Ev.ret (rD (.list [.int (1 + a), .int (1 + b), .int 10])) := frz_f [.int (1 + a), .int (1 + b), .int 10]
        simp only [exs_nil, exs_cons, ex_asg, ex_par, ex_expr, ex_ret, ex_ite, ev_var, ev_lit, ev_glob, ev_bin, ev_neg, ev_cmp, ev_chain, ev_not, ev_and, ev_or, ev_ite, ev_tup, ev_lst, ev_frz, ev_ix, ev_sl, ev_bi, ev_isi, ev_lr, ev_call, ev_mth, evs_nil, evs_cons, evO_none, evO_some, evT_none, evT_some, evI_seq, evI_r1, evI_enum, evI_zip, List.map_cons, List.map_nil, List.cons_append, List.nil_append, List.replicate, getVar, List.getElem?_cons_zero, List.getElem?_cons_succ, lift_some', bnd_ret, bnd_assoc, look_some', tB, tI, hO, frz_d, frz_f, its_fresh, storeTop, storeAt, setAt, List.length_cons, List.length_nil, List.set_cons_zero, List.set_cons_succ, Nat.reduceLT, Nat.reduceAdd, Nat.reduceSub, if_true, if_false, Bool.false_eq_true, permute, hvs?, datas?, chk_true, e3]
        rw [bnd_at _ ec]
        simp only [exs_nil, exs_cons, ex_asg, ex_par, ex_expr, ex_ret, ex_ite, ev_var, ev_lit, ev_glob, ev_bin, ev_neg, ev_cmp, ev_chain, ev_not, ev_and, ev_or, ev_ite, ev_tup, ev_lst, ev_frz, ev_ix, ev_sl, ev_bi, ev_isi, ev_lr, ev_call, ev_mth, evs_nil, evs_cons, evO_none, evO_some, evT_none, evT_some, evI_seq, evI_r1, evI_enum, evI_zip, List.map_cons, List.map_nil, List.cons_append, List.nil_append, List.replicate, getVar, List.getElem?_cons_zero, List.getElem?_cons_succ, lift_some', bnd_ret, bnd_assoc, look_some', tB, tI, hO, frz_d, frz_f, its_fresh, storeTop, storeAt, setAt, List.length_cons, List.length_nil, List.set_cons_zero, List.set_cons_succ, Nat.reduceLT, Nat.reduceAdd, Nat.reduceSub, if_true, if_false, Bool.false_eq_true, permute, hvs?, datas?, chk_true]
        rfl
      · simp only [List.mem_cons, List.not_mem_nil, or_false] at hc
        rcases hc with rfl | rfl | rfl
        · exact ⟨_, rfl, by omega, by omega⟩
        · exact ⟨_, rfl, by omega, by omega⟩
        · exact ⟨_, rfl, by omega, by omega⟩) _ hp1
  rw [List.length_range] at l2
  obtain ⟨as, rfl, hl, hr⟩ := ints_ex q2
  refine ⟨as, h2, ?_, ⟨by omega, by omega, hr⟩, p2⟩
  refine call_at (f := f__law_asked) (by rfl) rfl (env := [some (.ref n), none]) ?_
  simp only [exs_nil, exs_cons, ex_asg, ex_par, ex_expr, ex_ret, ex_ite, ev_var, ev_lit, ev_glob, ev_bin, ev_neg, ev_cmp, ev_chain, ev_not, ev_and, ev_or, ev_ite, ev_tup, ev_lst, ev_frz, ev_ix, ev_sl, ev_bi, ev_isi, ev_lr, ev_call, ev_mth, evs_nil, evs_cons, evO_none, evO_some, evT_none, evT_some, evI_seq, evI_r1, evI_enum, evI_zip, List.map_cons, List.map_nil, List.cons_append, List.nil_append, List.replicate, getVar, List.getElem?_cons_zero, List.getElem?_cons_succ, lift_some', bnd_ret, bnd_assoc, look_some', tB, tI, hO, frz_d, frz_f, its_fresh, storeTop, storeAt, setAt, List.length_cons, List.length_nil, List.set_cons_zero, List.set_cons_succ, Nat.reduceLT, Nat.reduceAdd, Nat.reduceSub, if_true, if_false, Bool.false_eq_true, permute, hvs?, datas?, chk_true, f__law_asked]
  rw [bnd_at _ (ev_comp_at hI e2 (by omega))]
  simp only [exs_nil, exs_cons, ex_asg, ex_par, ex_expr, ex_ret, ex_ite, ev_var, ev_lit, ev_glob, ev_bin, ev_neg, ev_cmp, ev_chain, ev_not, ev_and, ev_or, ev_ite, ev_tup, ev_lst, ev_frz, ev_ix, ev_sl, ev_bi, ev_isi, ev_lr, ev_call, ev_mth, evs_nil, evs_cons, evO_none, evO_some, evT_none, evT_some, evI_seq, evI_r1, evI_enum, evI_zip, List.map_cons, List.map_nil, List.cons_append, List.nil_append, List.replicate, getVar, List.getElem?_cons_zero, List.getElem?_cons_succ, lift_some', bnd_ret, bnd_assoc, look_some', tB, tI, hO, frz_d, frz_f, its_fresh, storeTop, storeAt, setAt, List.length_cons, List.length_nil, List.set_cons_zero, List.set_cons_succ, Nat.reduceLT, Nat.reduceAdd, Nat.reduceSub, if_true, if_false, Bool.false_eq_true, permute, hvs?, datas?, chk_true, tupI_run]
  rfl
theorem nb_div {D q : Nat} {p : Int} (hq : 0 < q) (hd : q ∣ D) (h0 : 0 ≤ p) (h1 : p ≤ 1000000) : Nb D (Rat.divInt p (q : Nat)) ∧ 0 ≤ Rat.divInt p (q : Nat) ∧ Rat.divInt p (q : Nat) * ((q : Nat) : Rat) = ((p : Int) : Rat) := by
  obtain ⟨F, rfl⟩ := hd
  have hqR : (0 : Rat) < ((q : Nat) : Rat) := Rat.natCast_pos.mpr hq
  have hq1 : (1 : Rat) ≤ ((q : Nat) : Rat) := by
    have := Rat.natCast_le_natCast.mpr (show 1 ≤ q by omega)
    exact this
  have p0 : (0 : Rat) ≤ ((p : Int) : Rat) := Rat.intCast_le_intCast.mpr h0
  have p1 : ((p : Int) : Rat) ≤ 1000000 := Rat.intCast_le_intCast.mpr h1
  rw [Rat.divInt_eq_div, Rat.intCast_natCast]
  have e : ((p : Int) : Rat) / ((q : Nat) : Rat) * ((q : Nat) : Rat) = ((p : Int) : Rat) := Rat.div_mul_cancel (by grind)
  have lo : 0 ≤ ((p : Int) : Rat) / ((q : Nat) : Rat) := le_div_of hqR (by grind)
  have hi : ((p : Int) : Rat) / ((q : Nat) : Rat) ≤ 1000000 := div_le_of hqR (by grind)
  refine ⟨⟨⟨p * F, ?_⟩, by grind, hi⟩, lo, e⟩
  rw [Rat.natCast_mul, Rat.intCast_mul, Rat.intCast_natCast]
  grind
theorem lamount_run (k n : Nat) (h : Hp) (hp : PotAt h n) {as : List Int} (ax : Ax as) : ∃ (E : Rat) (h' : Hp), callN prog (k + 3) "_law_amount" [.ref n, .d (T as)] h = some (rD (rq E), h') ∧ Sx 14 as E ∧ PotAt h' n := by
  obtain ⟨s1, s2⟩ := Ax.sum_le ax.rg
  have l1 := ax.l1
  have l8 := ax.l8
  have hS := cR_sum as
  obtain ⟨d, p, q, e1, d0, d1, r⟩ := draw_run (k + 1) n h (as.sum + 1) (by omega) (by omega) hp
  have hp1 := hp.next r
  obtain ⟨d2, p2, q2, e2, d20, d21, r2⟩ := draw_run (k + 1) n _ (7 * as.sum + 1) (by omega) (by omega) hp1
  have hp2 := hp1.next r2
  obtain ⟨c, p3, q3, ec, hc, rc⟩ := pick_run k n _ [.tuple [.int 0, .int 1], .tuple [.int as.sum, .int 1], rq (Rat.divInt as.sum (2 : Nat)), .tuple [.int d, .int 1], rq (Rat.divInt d2 (7 : Nat))] (by simp) (by simp) hp2
  have z : (2 : Nat) ^ 20 < 2 ^ 1000 := by decide
  have big : ∀ i : Int, 0 ≤ i → i ≤ 1000000 → i.natAbs < 2 ^ 1000 := fun i h1 h2 => Nat.lt_of_lt_of_le (show i.natAbs < 2 ^ 20 by omega) (Nat.le_of_lt z)
  have mk : ∀ E : Rat, Nb 14 E → 0 ≤ E → E ≤ (cR as).sum → Sx 14 as E := fun E a b c => ⟨ax, by decide, by decide, by decide, a, b, c⟩
  have hE : ∃ E, c = rq E ∧ Sx 14 as E := by
    simp only [List.mem_cons, List.not_mem_nil, or_false] at hc
    have s0 : (0 : Rat) ≤ ((as.sum : Int) : Rat) := Rat.intCast_le_intCast.mpr (show (0 : Int) ≤ as.sum by omega)
    rcases hc with rfl | rfl | rfl | rfl | rfl
    · exact ⟨((0 : Int) : Rat), (rq_int 0).symm, mk _ nb_zero (by decide +kernel) (by rw [hS]; exact s0)⟩
    · exact ⟨((as.sum : Int) : Rat), (rq_int _).symm, mk _ (Nb.int (by omega) (by omega)) s0 (by rw [hS]; exact Rat.le_refl)⟩
    · obtain ⟨a1, a2, a3⟩ := nb_div (D := 14) (q := 2) (p := as.sum) (by decide) (by decide) (by omega) (by omega)
      refine ⟨_, rfl, mk _ a1 a2 ?_⟩
      rw [hS]
      have : ((2 : Nat) : Rat) = 2 := rfl
      grind
    · exact ⟨((d : Int) : Rat), (rq_int _).symm, mk _ (Nb.int (by omega) (by omega)) (Rat.intCast_le_intCast.mpr d0) (by rw [hS]; exact Rat.intCast_le_intCast.mpr (by omega))⟩
    · obtain ⟨a1, a2, a3⟩ := nb_div (D := 14) (q := 7) (p := d2) (by decide) (by decide) (by omega) (by omega)
      refine ⟨_, rfl, mk _ a1 a2 ?_⟩
      rw [hS]
      have e7 : ((7 : Nat) : Rat) = 7 := rfl
      have := Rat.intCast_le_intCast.mpr (show d2 ≤ 7 * as.sum by omega)
      rw [Rat.intCast_mul] at this
      have e8 : ((7 : Int) : Rat) = 7 := rfl
      grind
  obtain ⟨E, rfl, hs⟩ := hE
  refine ⟨E, _, ?_, hs, hp2.next rc⟩
  refine call_at (f := f__law_amount) (by rfl) rfl (env := [some (.ref n), some (.d (T as)), some (I as.sum)]) ?_
  have m2 := lmade_run (k + 1) as.sum (2 : Nat) (by decide) (big _ (by omega) (by omega)) (by decide)
  have m7 := lmade_run (k + 1) d2 (7 : Nat) (by decide) (big _ (by omega) (by omega)) (by decide)
  simp only [exs_nil, exs_cons, ex_asg, ex_par, ex_expr, ex_ret, ex_ite, ev_var, ev_lit, ev_glob, ev_bin, ev_neg, ev_cmp, ev_chain, ev_not, ev_and, ev_or, ev_ite, ev_tup, ev_lst, ev_frz, ev_ix, ev_sl, ev_bi, ev_isi, ev_lr, ev_call, ev_mth, evs_nil, evs_cons, evO_none, evO_some, evT_none, evT_some, evI_seq, evI_r1, evI_enum, evI_zip, List.map_cons, List.map_nil, List.cons_append, List.nil_append, List.replicate, getVar, List.getElem?_cons_zero, List.getElem?_cons_succ, lift_some', bnd_ret, bnd_assoc, look_some', tB, tI, hO, frz_d, frz_f, its_fresh, storeTop, storeAt, setAt, List.length_cons, List.length_nil, List.set_cons_zero, List.set_cons_succ, Nat.reduceLT, Nat.reduceAdd, Nat.reduceSub, if_true, if_false, Bool.false_eq_true, permute, hvs?, datas?, chk_true, f__law_amount, sumT_run, lk2]
  have m2' : runCall (callN prog (k + 2)) "_law_made" true [I as.sum, I 2] = Ev.ret (rD (rq (Rat.divInt as.sum (2 : Nat)))) := pc m2 rfl rfl
  have m7' : runCall (callN prog (k + 2)) "_law_made" true [I d2, I 7] = Ev.ret (rD (rq (Rat.divInt d2 (7 : Nat)))) := pc m7 rfl rfl
  simp only [exs_nil, exs_cons, ex_asg, ex_par, ex_expr, ex_ret, ex_ite, ev_var, ev_lit, ev_glob, ev_bin, ev_neg, ev_cmp, ev_chain, ev_not, ev_and, ev_or, ev_ite, ev_tup, ev_lst, ev_frz, ev_ix, ev_sl, ev_bi, ev_isi, ev_lr, ev_call, ev_mth, evs_nil, evs_cons, evO_none, evO_some, evT_none, evT_some, evI_seq, evI_r1, evI_enum, evI_zip, List.map_cons, List.map_nil, List.cons_append, List.nil_append, List.replicate, getVar, List.getElem?_cons_zero, List.getElem?_cons_succ, lift_some', bnd_ret, bnd_assoc, look_some', tB, tI, hO, frz_d, frz_f, its_fresh, storeTop, storeAt, setAt, List.length_cons, List.length_nil, List.set_cons_zero, List.set_cons_succ, Nat.reduceLT, Nat.reduceAdd, Nat.reduceSub, if_true, if_false, Bool.false_eq_true, permute, hvs?, datas?, chk_true, m2', runCall_f, bin_addI]
  rw [bnd_at _ e1]
  simp only [exs_nil, exs_cons, ex_asg, ex_par, ex_expr, ex_ret, ex_ite, ev_var, ev_lit, ev_glob, ev_bin, ev_neg, ev_cmp, ev_chain, ev_not, ev_and, ev_or, ev_ite, ev_tup, ev_lst, ev_frz, ev_ix, ev_sl, ev_bi, ev_isi, ev_lr, ev_call, ev_mth, evs_nil, evs_cons, evO_none, evO_some, evT_none, evT_some, evI_seq, evI_r1, evI_enum, evI_zip, List.map_cons, List.map_nil, List.cons_append, List.nil_append, List.replicate, getVar, List.getElem?_cons_zero, List.getElem?_cons_succ, lift_some', bnd_ret, bnd_assoc, look_some', tB, tI, hO, frz_d, frz_f, its_fresh, storeTop, storeAt, setAt, List.length_cons, List.length_nil, List.set_cons_zero, List.set_cons_succ, Nat.reduceLT, Nat.reduceAdd, Nat.reduceSub, if_true, if_false, Bool.false_eq_true, permute, hvs?, datas?, chk_true, lk2, bin_mulI 7 as.sum _ (by decide) (Nat.lt_of_lt_of_le (bits_abs (k := 20) (by omega) (by decide)) (by decide)), bin_addI]
  rw [bnd_at _ e2]
  simp only [exs_nil, exs_cons, ex_asg, ex_par, ex_expr, ex_ret, ex_ite, ev_var, ev_lit, ev_glob, ev_bin, ev_neg, ev_cmp, ev_chain, ev_not, ev_and, ev_or, ev_ite, ev_tup, ev_lst, ev_frz, ev_ix, ev_sl, ev_bi, ev_isi, ev_lr, ev_call, ev_mth, evs_nil, evs_cons, evO_none, evO_some, evT_none, evT_some, evI_seq, evI_r1, evI_enum, evI_zip, List.map_cons, List.map_nil, List.cons_append, List.nil_append, List.replicate, getVar, List.getElem?_cons_zero, List.getElem?_cons_succ, lift_some', bnd_ret, bnd_assoc, look_some', tB, tI, hO, frz_d, frz_f, its_fresh, storeTop, storeAt, setAt, List.length_cons, List.length_nil, List.set_cons_zero, List.set_cons_succ, Nat.reduceLT, Nat.reduceAdd, Nat.reduceSub, if_true, if_false, Bool.false_eq_true, permute, hvs?, datas?, chk_true, m7', show lenOk 5 = true from rfl]
  have e3 : frzV (.fresh [.d (.tuple [.int 0, .int 1]), .d (.tuple [.int as.sum, .int 1]), .d (rq (Rat.divInt as.sum (2 : Nat))), .d (.tuple [.int d, .int 1]), .d (rq (Rat.divInt d2 (7 : Nat)))]) = Ev.ret (rD (.list [.tuple [.int 0, .int 1], .tuple [.int as.sum, .int 1], rq (Rat.divInt as.sum (2 : Nat)), .tuple [.int d, .int 1], rq (Rat.divInt d2 (7 : Nat))])) := frz_f [.tuple [.int 0, .int 1], .tuple [.int as.sum, .int 1], rq (Rat.divInt as.sum (2 : Nat)), .tuple [.int d, .int 1], rq (Rat.divInt d2 (7 : Nat))]
  simp only [exs_nil, exs_cons, ex_asg, ex_par, ex_expr, ex_ret, ex_ite, ev_var, ev_lit, ev_glob, ev_bin, ev_neg, ev_cmp, ev_chain, ev_not, ev_and, ev_or, ev_ite, ev_tup, ev_lst, ev_frz, ev_ix, ev_sl, ev_bi, ev_isi, ev_lr, ev_call, ev_mth, evs_nil, evs_cons, evO_none, evO_some, evT_none, evT_some, evI_seq, evI_r1, evI_enum, evI_zip, List.map_cons, List.map_nil, List.cons_append, List.nil_append, List.replicate, getVar, List.getElem?_cons_zero, List.getElem?_cons_succ, lift_some', bnd_ret, bnd_assoc, look_some', tB, tI, hO, frz_d, frz_f, its_fresh, storeTop, storeAt, setAt, List.length_cons, List.length_nil, List.set_cons_zero, List.set_cons_succ, Nat.reduceLT, Nat.reduceAdd, Nat.reduceSub, if_true, if_false, Bool.false_eq_true, permute, hvs?, datas?, chk_true, e3]
  rw [bnd_at _ ec]
  rfl
/-! ### what is given, by size -/
theorem whole_sum {as : List Int} (ax : Ax as) : ∃ N : Nat, (cR as).sum = ((N : Nat) : Rat) ∧ 0 < N ∧ N ≤ 792 := by
  obtain ⟨q1, q2⟩ := Ax.sum_le ax.rg
  have := ax.l1
  have := ax.l8
  refine ⟨as.sum.toNat, ?_, by omega, by omega⟩
  rw [cR_sum, ← Rat.intCast_natCast]
  congr 1
  omega
theorem phi_nb (r : Ru) {D N : Nat} {as : List Int} {E : Rat} (h : Sx D as E) (hN : (cR as).sum = ((N : Nat) : Rat)) (hN1 : 0 < N) {x : Rat} (hx : x ∈ cR as) : Nb (D * 840 * N) (phi r (cR as) E x) := by
  have s := h.ax.s792
  have hlo := h.lo
  have hhi := h.hi
  have hsum := hf_sum (cR as)
  obtain ⟨x1, x99, xn⟩ := h.ax.elt hx
  have rg := phi_range r h.ok hx
  cases r with
  | a => exact (mn_nb (xn _) h.cx.lv.1).mul
  | l =>
    have hl := h.rest.cx.lv
    exact ((xn _).sub (mn_nb (xn _) hl.1) (by show -1000000 ≤ phi .l (cR as) E x; grind) (by show phi .l (cR as) E x ≤ 1000000; grind)).mul
  | g =>
    obtain ⟨a, ha, rfl⟩ := mem_cR hx
    have hh : Nb D (1 / 2 * ((a : Int) : Rat)) := half_nb h.D2 (by have := h.ax.rg a ha; omega)
    by_cases q : (hf (cR as)).sum < E
    · have hc := (h.rest).hcx (by grind)
      have e : phi .g (cR as) E ((a : Int) : Rat) = ((a : Int) : Rat) - mn (1 / 2 * ((a : Int) : Rat)) (lvl (sq (hf (cR as))) ((cR as).sum - E)) := by
        show (if _ then _ else _) = _
        rw [if_pos q]
      rw [e] at rg ⊢
      exact ((xn _).sub (mn_nb hh.mul hc.lv.1) (by grind) (by grind)).mul
    · have hc := h.hcx (Rat.not_lt.mp q)
      have e : phi .g (cR as) E ((a : Int) : Rat) = mn (1 / 2 * ((a : Int) : Rat)) (lvl (sq (hf (cR as))) E) := by
        show (if _ then _ else _) = _
        rw [if_neg q]
      rw [e]
      exact (mn_nb hh.mul hc.lv.1).mul
  | p =>
    show Nb _ (x * (E / (cR as).sum))
    have rg' : 0 ≤ x * (E / (cR as).sum) ∧ x * (E / (cR as).sum) ≤ x := rg
    have hq0 : 0 ≤ E / (cR as).sum := le_div_of (by grind) (by grind)
    have hq1 : E / (cR as).sum ≤ 1 := div_le_of (by grind) (by grind)
    have h1 := Nb.over (n := N) hN1 h.nE (by rw [← hN]; grind) (by rw [← hN]; grind)
    rw [← hN] at h1
    have h2 := (xn 1).times h1 (by grind) (by grind)
    refine h2.dvd ?_
    rw [Nat.one_mul, Nat.mul_assoc, Nat.mul_comm 840 N, ← Nat.mul_assoc]
    exact Nat.dvd_mul_right _ _
theorem getI_mem {as : List Int} {k : Nat} (h : k < as.length) : as[k]? = some (as.getD k 0) ∧ as.getD k 0 ∈ as := by
  have e : as[k]? = some (as.getD k 0) := by
    rw [List.getD_eq_getElem?_getD, List.getElem?_eq_getElem h]
    rfl
  exact ⟨e, List.mem_of_getElem? e⟩
/-- those of some positions -/
theorem pick_ax {as : List Int} (ax : Ax as) {ks : List Nat} (hk : ∀ k ∈ ks, k < as.length) (hl : ks.length ≤ as.length) (hne : ks ≠ []) : Ax (ks.map fun k => as.getD k 0) := ⟨by
  rw [List.length_map]
  exact List.length_pos_iff.mpr hne, by
  rw [List.length_map]
  have := ax.l8
  omega, fun a ha => by
  obtain ⟨k, hk1, rfl⟩ := List.mem_map.mp ha
  exact ax.rg _ (getI_mem (hk k hk1)).2⟩
theorem ixc {as : List Int} (f : Rat → Rat) {k : Nat} (h : k < as.length) (hp : Hp) : ixV hp (rD (.list ((cR as).map fun x => rq (f x)))) (k : Nat) = some (rD (rq (f ((as.getD k 0 : Int) : Rat)))) := by
  refine ix_list (Int.natCast_nonneg _) ?_ hp
  unfold cR
  rw [Int.toNat_natCast, List.getElem?_map, List.getElem?_map, (getI_mem h).1]
  rfl
theorem it_rqs (xs : List Rat) : It (.list (xs.map rq)) 2 := It.list fun x hx => by
  obtain ⟨y, _, rfl⟩ := List.mem_map.mp hx
  exact it_rq y
theorem cR_pick (as : List Int) (ks : List Nat) (f : Rat → Rat) : (cR (ks.map fun k => as.getD k 0)).map f = ks.map fun k => f ((as.getD k 0 : Int) : Rat) := by
  unfold cR
  rw [List.map_map, List.map_map]
  rfl
theorem lconsistent_run (k n : Nat) (h : Hp) (hp : PotAt h n) {as : List Int} {E : Rat} (hs : Sx 14 as E) : ∃ h', callN prog (k + 9) "_law_consistent" [.ref n, .d (T as), .d (rq E)] h = some (rD (.bool true), h') ∧ PotAt h' n := by
  have l8 := hs.ax.l8
  refine call_ends (f := f__law_consistent) (by rfl) rfl ?_
  unfold f__law_consistent
  obtain ⟨ks, h1, e1, p1, l1, q1⟩ := compSeq_sub (turn := turnOf (callN prog (k + 8)) (.var 7) (.name 7) (some (.cmp .eq (.call "_law_draw" false [0, 1] [(.var 0), (.lit (.int 2))]) (.lit (.int 0)))) [7] [some (.ref n), some (.d (T as)), some (.d (rq E)), none, none, none, none, none])
    (fun i : Nat => I (i : Nat)) (fun i : Nat => I (i : Nat)) (fun h => PotAt h n) (List.range as.length) (fun x _ h hp => by
      obtain ⟨a, p1, q1, ea, a0, a1, ra⟩ := draw_run (k + 7) n h 2 (by omega) (by omega) hp
      refine ⟨decide (a = 0), _, ?_, hp.next ra⟩
      unfold turnOf
      simp only [exs_nil, exs_cons, ex_asg, ex_par, ex_expr, ex_ret, ex_ite, ev_var, ev_lit, ev_glob, ev_bin, ev_neg, ev_cmp, ev_chain, ev_not, ev_and, ev_or, ev_ite, ev_tup, ev_lst, ev_frz, ev_ix, ev_sl, ev_bi, ev_isi, ev_lr, ev_call, ev_mth, evs_nil, evs_cons, evO_none, evO_some, evT_none, evT_some, evI_seq, evI_r1, evI_enum, evI_zip, List.map_cons, List.map_nil, List.cons_append, List.nil_append, List.replicate, getVar, List.getElem?_cons_zero, List.getElem?_cons_succ, lift_some', bnd_ret, bnd_assoc, look_some', tB, tI, hO, frz_d, frz_f, its_fresh, storeTop, storeAt, setAt, List.length_cons, List.length_nil, List.set_cons_zero, List.set_cons_succ, Nat.reduceLT, Nat.reduceAdd, Nat.reduceSub, if_true, if_false, Bool.false_eq_true, permute, hvs?, datas?, chk_true, store_name, Ev.wipe, runCall_f]
      rw [bnd_at _ ea]
      simp only [exs_nil, exs_cons, ex_asg, ex_par, ex_expr, ex_ret, ex_ite, ev_var, ev_lit, ev_glob, ev_bin, ev_neg, ev_cmp, ev_chain, ev_not, ev_and, ev_or, ev_ite, ev_tup, ev_lst, ev_frz, ev_ix, ev_sl, ev_bi, ev_isi, ev_lr, ev_call, ev_mth, evs_nil, evs_cons, evO_none, evO_some, evT_none, evT_some, evI_seq, evI_r1, evI_enum, evI_zip, List.map_cons, List.map_nil, List.cons_append, List.nil_append, List.replicate, getVar, List.getElem?_cons_zero, List.getElem?_cons_succ, lift_some', bnd_ret, bnd_assoc, look_some', tB, tI, hO, frz_d, frz_f, its_fresh, storeTop, storeAt, setAt, List.length_cons, List.length_nil, List.set_cons_zero, List.set_cons_succ, Nat.reduceLT, Nat.reduceAdd, Nat.reduceSub, if_true, if_false, Bool.false_eq_true, permute, hvs?, datas?, chk_true, cmp_eqI]
      cases decide (a = 0) <;> rfl) h hp
  rw [List.length_range] at l1
  have hk : ∀ k ∈ ks, k < as.length := fun k hk => List.mem_range.mp (q1 k hk)
  have hI : evI (callN prog (k + 8)) (.range1 (.bi .len [(.var 1)])) [some (.ref n), some (.d (T as)), some (.d (rq E)), none, none, none, none, none] h = some (.seq ((List.range as.length).map fun i => I (i : Nat)), h) := by
    rw [evI_rn (n := as.length) (by simp only [exs_nil, exs_cons, ex_asg, ex_par, ex_expr, ex_ret, ex_ite, ev_var, ev_lit, ev_glob, ev_bin, ev_neg, ev_cmp, ev_chain, ev_not, ev_and, ev_or, ev_ite, ev_tup, ev_lst, ev_frz, ev_ix, ev_sl, ev_bi, ev_isi, ev_lr, ev_call, ev_mth, evs_nil, evs_cons, evO_none, evO_some, evT_none, evT_some, evI_seq, evI_r1, evI_enum, evI_zip, List.map_cons, List.map_nil, List.cons_append, List.nil_append, List.replicate, getVar, List.getElem?_cons_zero, List.getElem?_cons_succ, lift_some', bnd_ret, bnd_assoc, look_some', tB, tI, hO, frz_d, frz_f, its_fresh, storeTop, storeAt, setAt, List.length_cons, List.length_nil, List.set_cons_zero, List.set_cons_succ, Nat.reduceLT, Nat.reduceAdd, Nat.reduceSub, if_true, if_false, Bool.false_eq_true, permute, hvs?, datas?, chk_true, len_T]) (by omega)]
    rfl
  have hfrz : frzV (.fresh (ks.map fun i : Nat => I (i : Nat))) = Ev.ret (rD (.list (ks.map fun i : Nat => .int (i : Nat)))) := frz_run ks fun i => .int (i : Nat)
  refine Ends.go (env' := [some (.ref n), some (.d (T as)), some (.d (rq E)), some (.d (.list (ks.map fun i : Nat => .int (i : Nat)))), none, none, none, none]) (h' := h1) (by
    simp only [exs_nil, exs_cons, ex_asg, ex_par, ex_expr, ex_ret, ex_ite, ev_var, ev_lit, ev_glob, ev_bin, ev_neg, ev_cmp, ev_chain, ev_not, ev_and, ev_or, ev_ite, ev_tup, ev_lst, ev_frz, ev_ix, ev_sl, ev_bi, ev_isi, ev_lr, ev_call, ev_mth, evs_nil, evs_cons, evO_none, evO_some, evT_none, evT_some, evI_seq, evI_r1, evI_enum, evI_zip, List.map_cons, List.map_nil, List.cons_append, List.nil_append, List.replicate, getVar, List.getElem?_cons_zero, List.getElem?_cons_succ, lift_some', bnd_ret, bnd_assoc, look_some', tB, tI, hO, frz_d, frz_f, its_fresh, storeTop, storeAt, setAt, List.length_cons, List.length_nil, List.set_cons_zero, List.set_cons_succ, Nat.reduceLT, Nat.reduceAdd, Nat.reduceSub, if_true, if_false, Bool.false_eq_true, permute, hvs?, datas?, chk_true]
    rw [bnd_at _ (ev_comp_at hI e1 (by rw [List.length_map]; omega))]
    simp only [exs_nil, exs_cons, ex_asg, ex_par, ex_expr, ex_ret, ex_ite, ev_var, ev_lit, ev_glob, ev_bin, ev_neg, ev_cmp, ev_chain, ev_not, ev_and, ev_or, ev_ite, ev_tup, ev_lst, ev_frz, ev_ix, ev_sl, ev_bi, ev_isi, ev_lr, ev_call, ev_mth, evs_nil, evs_cons, evO_none, evO_some, evT_none, evT_some, evI_seq, evI_r1, evI_enum, evI_zip, List.map_cons, List.map_nil, List.cons_append, List.nil_append, List.replicate, getVar, List.getElem?_cons_zero, List.getElem?_cons_succ, lift_some', bnd_ret, bnd_assoc, look_some', tB, tI, hO, frz_d, frz_f, its_fresh, storeTop, storeAt, setAt, List.length_cons, List.length_nil, List.set_cons_zero, List.set_cons_succ, Nat.reduceLT, Nat.reduceAdd, Nat.reduceSub, if_true, if_false, Bool.false_eq_true, permute, hvs?, datas?, chk_true, hfrz]
    rfl) ?_
  have ik : It (.list (ks.map fun i : Nat => .int (i : Nat))) 1 := It.list fun x hx => by
    obtain ⟨y, _, rfl⟩ := List.mem_map.mp hx
    exact It.int _
  have i0 : It (.list []) 1 := It.list fun x hx => nomatch hx
  by_cases hne : ks = []
  · subst hne
    have eq : ∀ hp, cmpV hp .eq (rD (.list [])) (.fresh []) = some true := fun hp => eq_is (dat_d _) rfl i0 i0 (by decide) rfl
    refine ⟨[some (.ref n), some (.d (T as)), some (.d (rq E)), some (.d (.list [])), none, none, none, none], h1, ?_, p1⟩
    simp only [exs_nil, exs_cons, ex_asg, ex_par, ex_expr, ex_ret, ex_ite, ev_var, ev_lit, ev_glob, ev_bin, ev_neg, ev_cmp, ev_chain, ev_not, ev_and, ev_or, ev_ite, ev_tup, ev_lst, ev_frz, ev_ix, ev_sl, ev_bi, ev_isi, ev_lr, ev_call, ev_mth, evs_nil, evs_cons, evO_none, evO_some, evT_none, evT_some, evI_seq, evI_r1, evI_enum, evI_zip, List.map_cons, List.map_nil, List.cons_append, List.nil_append, List.replicate, getVar, List.getElem?_cons_zero, List.getElem?_cons_succ, lift_some', bnd_ret, bnd_assoc, look_some', tB, tI, hO, frz_d, frz_f, its_fresh, storeTop, storeAt, setAt, List.length_cons, List.length_nil, List.set_cons_zero, List.set_cons_succ, Nat.reduceLT, Nat.reduceAdd, Nat.reduceSub, if_true, if_false, Bool.false_eq_true, permute, hvs?, datas?, chk_true, show lenOk 0 = true from rfl, eq]
    rfl
  · have eq : ∀ hp, cmpV hp .eq (rD (.list (ks.map fun i : Nat => .int (i : Nat)))) (.fresh []) = some false := fun hp => eq_not (dat_d _) rfl ik i0 (by decide) (fun z => hne (by
      simp only [PyData.list.injEq, List.map_eq_nil_iff] at z
      exact z))
    refine Ends.pure (env' := [some (.ref n), some (.d (T as)), some (.d (rq E)), some (.d (.list (ks.map fun i : Nat => .int (i : Nat)))), none, none, none, none]) (by
      simp only [exs_nil, exs_cons, ex_asg, ex_par, ex_expr, ex_ret, ex_ite, ev_var, ev_lit, ev_glob, ev_bin, ev_neg, ev_cmp, ev_chain, ev_not, ev_and, ev_or, ev_ite, ev_tup, ev_lst, ev_frz, ev_ix, ev_sl, ev_bi, ev_isi, ev_lr, ev_call, ev_mth, evs_nil, evs_cons, evO_none, evO_some, evT_none, evT_some, evI_seq, evI_r1, evI_enum, evI_zip, List.map_cons, List.map_nil, List.cons_append, List.nil_append, List.replicate, getVar, List.getElem?_cons_zero, List.getElem?_cons_succ, lift_some', bnd_ret, bnd_assoc, look_some', tB, tI, hO, frz_d, frz_f, its_fresh, storeTop, storeAt, setAt, List.length_cons, List.length_nil, List.set_cons_zero, List.set_cons_succ, Nat.reduceLT, Nat.reduceAdd, Nat.reduceSub, if_true, if_false, Bool.false_eq_true, permute, hvs?, datas?, chk_true, show lenOk 0 = true from rfl, eq]) ?_
    have ax2 := pick_ax hs.ax hk l1 hne
    generalize hs2 : (ks.map fun k => as.getD k 0) = s2 at ax2
    obtain ⟨N, hN, hN1, hN2⟩ := whole_sum hs.ax
    have hsub : ∀ x ∈ cR s2, x ∈ cR as := fun x hx => by
      obtain ⟨a, ha, rfl⟩ := mem_cR hx
      rw [← hs2] at ha
      obtain ⟨j, hj, rfl⟩ := List.mem_map.mp ha
      exact List.mem_map.mpr ⟨_, (getI_mem (hk j hj)).2, rfl⟩
    have hn8 := ax2.l8
    obtain ⟨env', ⟨a, b, c, d, rfl⟩, el⟩ := ex_for_fold (C := callN prog (k + 8)) (t := .name 4) (it := .seq (.tup [(.lit (.str "awards")), (.lit (.str "losses")), (.lit (.str "garment")), (.lit (.str "parts"))])) (b := [.asg (.name 5) (.frz (.call "shared" true [0, 1, 2] [(.var 4), (.var 1), (.var 2)])), .asg (.name 6) (.frz (.comp (.ix (.var 5) (.var 7)) (.name 7) (.seq (.var 3)) none [7])), .ite (.cmp .ne (.call "shared" true [0, 1, 2] [(.var 4), (.bi .tuple [(.comp (.ix (.var 1) (.var 7)) (.name 7) (.seq (.var 3)) none [7])]), (.frz (.call "_law_total" true [0] [(.var 6)]))]) (.var 6)) [.ret (.lit (.bool false))] []])
      (env := [some (.ref n), some (.d (T as)), some (.d (rq E)), some (.d (.list (ks.map fun i : Nat => .int (i : Nat)))), none, none, none, none]) (fun (_ : Unit) env => ∃ a b c d, env = [some (.ref n), some (.d (T as)), some (.d (rq E)), some (.d (.list (ks.map fun i : Nat => .int (i : Nat)))), a, b, c, d]) (fun r : Ru => .d (.str r.name)) (fun s _ => s) [Ru.a, Ru.l, Ru.g, Ru.p] (by
        simp only [exs_nil, exs_cons, ex_asg, ex_par, ex_expr, ex_ret, ex_ite, ev_var, ev_lit, ev_glob, ev_bin, ev_neg, ev_cmp, ev_chain, ev_not, ev_and, ev_or, ev_ite, ev_tup, ev_lst, ev_frz, ev_ix, ev_sl, ev_bi, ev_isi, ev_lr, ev_call, ev_mth, evs_nil, evs_cons, evO_none, evO_some, evT_none, evT_some, evI_seq, evI_r1, evI_enum, evI_zip, List.map_cons, List.map_nil, List.cons_append, List.nil_append, List.replicate, getVar, List.getElem?_cons_zero, List.getElem?_cons_succ, lift_some', bnd_ret, bnd_assoc, look_some', tB, tI, hO, frz_d, frz_f, its_fresh, storeTop, storeAt, setAt, List.length_cons, List.length_nil, List.set_cons_zero, List.set_cons_succ, Nat.reduceLT, Nat.reduceAdd, Nat.reduceSub, if_true, if_false, Bool.false_eq_true, permute, hvs?, datas?, chk_true, show lenOk 4 = true from rfl]
        rfl) () ⟨_, _, _, _, rfl⟩ (fun r _ _ env ⟨a, b, c, d, he⟩ => by
        subst he
        have hnb : ∀ y ∈ (cR s2).map (phi r (cR as) E), Nb (14 * 840 * N) y ∧ 0 ≤ y := fun y hy => by
          obtain ⟨x, hx, rfl⟩ := List.mem_map.mp hy
          exact ⟨phi_nb r hs hN hN1 (hsub x hx), (phi_range r hs.ok (hsub x hx)).1⟩
        have ok2 := sub_ok r hs.ok hsub ax2.ne
        have h792 := ax2.s792
        have hE2 := ok2.hi
        have hlo2 := ok2.lo
        have hDpos : 0 < 14 * 840 * N := by omega
        have hD38 : 14 * 840 * N < 2 ^ 38 := by omega
        have nE2 : Nb (14 * 840 * N) (((cR s2).map (phi r (cR as) E)).sum) := by
          have : ∀ ys : List Rat, (∀ y ∈ ys, Nb (14 * 840 * N) y ∧ 0 ≤ y) → ys.sum ≤ 100000 → Nb (14 * 840 * N) ys.sum ∧ 0 ≤ ys.sum := by
            intro ys
            induction ys with
            | nil => exact fun _ _ => ⟨nb_zero, Rat.le_refl⟩
            | cons y ys ih =>
              intro hy hsum
              rw [List.sum_cons] at hsum ⊢
              obtain ⟨y1, y0⟩ := hy y List.mem_cons_self
              have r0 : 0 ≤ ys.sum := by
                have := sum_nonneg (xs := ys) (f := fun x => x) fun z hz => (hy z (List.mem_cons_of_mem _ hz)).2
                rwa [sum_id] at this
              obtain ⟨i1, i2⟩ := ih (fun z hz => hy z (List.mem_cons_of_mem _ hz)) (by grind)
              exact ⟨y1.add i1 (by grind) (by grind), by grind⟩
          exact (this _ hnb (by grind)).1
        have sx2 : Sx (14 * 840 * N) s2 (((cR s2).map (phi r (cR as) E)).sum) := ⟨ax2, hDpos, ⟨7 * 840 * N, by omega⟩, hD38, nE2, ok2.lo, ok2.hi⟩
        have hcons := consistent r hs.ok hsub ax2.ne
        refine ⟨[some (.ref n), some (.d (T as)), some (.d (rq E)), some (.d (.list (ks.map fun i : Nat => .int (i : Nat)))), some (.d (.str r.name)), some (.d (.list ((cR as).map fun x => rq (phi r (cR as) E x)))), some (.d (.list (((cR s2).map (phi r (cR as) E)).map rq))), d], ⟨_, _, _, _, rfl⟩, ?_⟩
        have epart : (ks.map fun j => rq (phi r (cR as) E ((as.getD j 0 : Int) : Rat))) = ((cR s2).map (phi r (cR as) E)).map rq := by
          rw [← hs2, cR_pick, List.map_map]
          rfl
        simp only [exs_nil, exs_cons, ex_asg, ex_par, ex_expr, ex_ret, ex_ite, ev_var, ev_lit, ev_glob, ev_bin, ev_neg, ev_cmp, ev_chain, ev_not, ev_and, ev_or, ev_ite, ev_tup, ev_lst, ev_frz, ev_ix, ev_sl, ev_bi, ev_isi, ev_lr, ev_call, ev_mth, evs_nil, evs_cons, evO_none, evO_some, evT_none, evT_some, evI_seq, evI_r1, evI_enum, evI_zip, List.map_cons, List.map_nil, List.cons_append, List.nil_append, List.replicate, getVar, List.getElem?_cons_zero, List.getElem?_cons_succ, lift_some', bnd_ret, bnd_assoc, look_some', tB, tI, hO, frz_d, frz_f, its_fresh, storeTop, storeAt, setAt, List.length_cons, List.length_nil, List.set_cons_zero, List.set_cons_succ, Nat.reduceLT, Nat.reduceAdd, Nat.reduceSub, if_true, if_false, Bool.false_eq_true, permute, hvs?, datas?, chk_true, store_name, pc (shared_run r k 14 hs) rfl (outOk_map _ _), frz_run]
        rw [ev_compM ks (fun j => I (j : Nat)) (fun j => .d (rq (phi r (cR as) E ((as.getD j 0 : Int) : Rat)))) (by simp only [exs_nil, exs_cons, ex_asg, ex_par, ex_expr, ex_ret, ex_ite, ev_var, ev_lit, ev_glob, ev_bin, ev_neg, ev_cmp, ev_chain, ev_not, ev_and, ev_or, ev_ite, ev_tup, ev_lst, ev_frz, ev_ix, ev_sl, ev_bi, ev_isi, ev_lr, ev_call, ev_mth, evs_nil, evs_cons, evO_none, evO_some, evT_none, evT_some, evI_seq, evI_r1, evI_enum, evI_zip, List.map_cons, List.map_nil, List.cons_append, List.nil_append, List.replicate, getVar, List.getElem?_cons_zero, List.getElem?_cons_succ, lift_some', bnd_ret, bnd_assoc, look_some', tB, tI, hO, frz_d, frz_f, its_fresh, storeTop, storeAt, setAt, List.length_cons, List.length_nil, List.set_cons_zero, List.set_cons_succ, Nat.reduceLT, Nat.reduceAdd, Nat.reduceSub, if_true, if_false, Bool.false_eq_true, permute, hvs?, datas?, chk_true, its_run]) (fun j hj => by
          unfold turnOf
          simp only [exs_nil, exs_cons, ex_asg, ex_par, ex_expr, ex_ret, ex_ite, ev_var, ev_lit, ev_glob, ev_bin, ev_neg, ev_cmp, ev_chain, ev_not, ev_and, ev_or, ev_ite, ev_tup, ev_lst, ev_frz, ev_ix, ev_sl, ev_bi, ev_isi, ev_lr, ev_call, ev_mth, evs_nil, evs_cons, evO_none, evO_some, evT_none, evT_some, evI_seq, evI_r1, evI_enum, evI_zip, List.map_cons, List.map_nil, List.cons_append, List.nil_append, List.replicate, getVar, List.getElem?_cons_zero, List.getElem?_cons_succ, lift_some', bnd_ret, bnd_assoc, look_some', tB, tI, hO, frz_d, frz_f, its_fresh, storeTop, storeAt, setAt, List.length_cons, List.length_nil, List.set_cons_zero, List.set_cons_succ, Nat.reduceLT, Nat.reduceAdd, Nat.reduceSub, if_true, if_false, Bool.false_eq_true, permute, hvs?, datas?, chk_true, store_name, Ev.wipe, ixc (phi r (cR as) E) (hk j hj)]) (by omega)]
        simp only [exs_nil, exs_cons, ex_asg, ex_par, ex_expr, ex_ret, ex_ite, ev_var, ev_lit, ev_glob, ev_bin, ev_neg, ev_cmp, ev_chain, ev_not, ev_and, ev_or, ev_ite, ev_tup, ev_lst, ev_frz, ev_ix, ev_sl, ev_bi, ev_isi, ev_lr, ev_call, ev_mth, evs_nil, evs_cons, evO_none, evO_some, evT_none, evT_some, evI_seq, evI_r1, evI_enum, evI_zip, List.map_cons, List.map_nil, List.cons_append, List.nil_append, List.replicate, getVar, List.getElem?_cons_zero, List.getElem?_cons_succ, lift_some', bnd_ret, bnd_assoc, look_some', tB, tI, hO, frz_d, frz_f, its_fresh, storeTop, storeAt, setAt, List.length_cons, List.length_nil, List.set_cons_zero, List.set_cons_succ, Nat.reduceLT, Nat.reduceAdd, Nat.reduceSub, if_true, if_false, Bool.false_eq_true, permute, hvs?, datas?, chk_true, frz_run, epart]
        rw [ev_compM ks (fun j => I (j : Nat)) (fun j => I (as.getD j 0)) (by simp only [exs_nil, exs_cons, ex_asg, ex_par, ex_expr, ex_ret, ex_ite, ev_var, ev_lit, ev_glob, ev_bin, ev_neg, ev_cmp, ev_chain, ev_not, ev_and, ev_or, ev_ite, ev_tup, ev_lst, ev_frz, ev_ix, ev_sl, ev_bi, ev_isi, ev_lr, ev_call, ev_mth, evs_nil, evs_cons, evO_none, evO_some, evT_none, evT_some, evI_seq, evI_r1, evI_enum, evI_zip, List.map_cons, List.map_nil, List.cons_append, List.nil_append, List.replicate, getVar, List.getElem?_cons_zero, List.getElem?_cons_succ, lift_some', bnd_ret, bnd_assoc, look_some', tB, tI, hO, frz_d, frz_f, its_fresh, storeTop, storeAt, setAt, List.length_cons, List.length_nil, List.set_cons_zero, List.set_cons_succ, Nat.reduceLT, Nat.reduceAdd, Nat.reduceSub, if_true, if_false, Bool.false_eq_true, permute, hvs?, datas?, chk_true, its_run]) (fun j hj => by
          unfold turnOf
          simp only [exs_nil, exs_cons, ex_asg, ex_par, ex_expr, ex_ret, ex_ite, ev_var, ev_lit, ev_glob, ev_bin, ev_neg, ev_cmp, ev_chain, ev_not, ev_and, ev_or, ev_ite, ev_tup, ev_lst, ev_frz, ev_ix, ev_sl, ev_bi, ev_isi, ev_lr, ev_call, ev_mth, evs_nil, evs_cons, evO_none, evO_some, evT_none, evT_some, evI_seq, evI_r1, evI_enum, evI_zip, List.map_cons, List.map_nil, List.cons_append, List.nil_append, List.replicate, getVar, List.getElem?_cons_zero, List.getElem?_cons_succ, lift_some', bnd_ret, bnd_assoc, look_some', tB, tI, hO, frz_d, frz_f, its_fresh, storeTop, storeAt, setAt, List.length_cons, List.length_nil, List.set_cons_zero, List.set_cons_succ, Nat.reduceLT, Nat.reduceAdd, Nat.reduceSub, if_true, if_false, Bool.false_eq_true, permute, hvs?, datas?, chk_true, store_name, Ev.wipe, ixT (getI_mem (hk j hj)).1]) (by omega)]
        have etup : ∀ hp, biV hp .tuple [.fresh (ks.map fun j => I (as.getD j 0))] = some (rD (T s2)) := fun hp => by
          rw [← hs2]
          have := tupI_run (ks.map fun j => as.getD j 0) hp
          rw [List.map_map] at this
          exact this
        simp only [exs_nil, exs_cons, ex_asg, ex_par, ex_expr, ex_ret, ex_ite, ev_var, ev_lit, ev_glob, ev_bin, ev_neg, ev_cmp, ev_chain, ev_not, ev_and, ev_or, ev_ite, ev_tup, ev_lst, ev_frz, ev_ix, ev_sl, ev_bi, ev_isi, ev_lr, ev_call, ev_mth, evs_nil, evs_cons, evO_none, evO_some, evT_none, evT_some, evI_seq, evI_r1, evI_enum, evI_zip, List.map_cons, List.map_nil, List.cons_append, List.nil_append, List.replicate, getVar, List.getElem?_cons_zero, List.getElem?_cons_succ, lift_some', bnd_ret, bnd_assoc, look_some', tB, tI, hO, frz_d, frz_f, its_fresh, storeTop, storeAt, setAt, List.length_cons, List.length_nil, List.set_cons_zero, List.set_cons_succ, Nat.reduceLT, Nat.reduceAdd, Nat.reduceSub, if_true, if_false, Bool.false_eq_true, permute, hvs?, datas?, chk_true, etup, pc (ltotal_run (k + 5) (14 * 840 * N) hDpos (by omega) (W := .list (((cR s2).map (phi r (cR as) E)).map rq)) ((cR s2).map (phi r (cR as) E)) (fun hp => its_rq _ hp) hnb (by grind)) rfl rfl, pc (shared_run r k (14 * 840 * N) sx2) rfl (outOk_map _ _)]
        have eres : (cR s2).map (fun x => rq (phi r (cR s2) (((cR s2).map (phi r (cR as) E)).sum) x)) = ((cR s2).map (phi r (cR as) E)).map rq := by
          have := congrArg (List.map rq) hcons
          unfold shr at this
          rw [List.map_map] at this
          exact this
        have ecmp : ∀ hp, cmpV hp .ne (.fresh ((cR s2).map fun x => .d (rq (phi r (cR s2) (((cR s2).map (phi r (cR as) E)).sum) x)))) (rD (.list (((cR s2).map (phi r (cR as) E)).map rq))) = some false := fun hp => by
          refine ne_is (dat_f (cR s2) fun x => rq (phi r (cR s2) (((cR s2).map (phi r (cR as) E)).sum) x)) (dat_d _) (k := 2) ?_ (it_rqs _) (by decide) (by rw [eres])
          rw [eres]
          exact it_rqs _
        simp only [exs_nil, exs_cons, ex_asg, ex_par, ex_expr, ex_ret, ex_ite, ev_var, ev_lit, ev_glob, ev_bin, ev_neg, ev_cmp, ev_chain, ev_not, ev_and, ev_or, ev_ite, ev_tup, ev_lst, ev_frz, ev_ix, ev_sl, ev_bi, ev_isi, ev_lr, ev_call, ev_mth, evs_nil, evs_cons, evO_none, evO_some, evT_none, evT_some, evI_seq, evI_r1, evI_enum, evI_zip, List.map_cons, List.map_nil, List.cons_append, List.nil_append, List.replicate, getVar, List.getElem?_cons_zero, List.getElem?_cons_succ, lift_some', bnd_ret, bnd_assoc, look_some', tB, tI, hO, frz_d, frz_f, its_fresh, storeTop, storeAt, setAt, List.length_cons, List.length_nil, List.set_cons_zero, List.set_cons_succ, Nat.reduceLT, Nat.reduceAdd, Nat.reduceSub, if_true, if_false, Bool.false_eq_true, permute, hvs?, datas?, chk_true, ecmp])
    refine Ends.pure el ?_
    exact Ends.ret (by simp only [exs_nil, exs_cons, ex_asg, ex_par, ex_expr, ex_ret, ex_ite, ev_var, ev_lit, ev_glob, ev_bin, ev_neg, ev_cmp, ev_chain, ev_not, ev_and, ev_or, ev_ite, ev_tup, ev_lst, ev_frz, ev_ix, ev_sl, ev_bi, ev_isi, ev_lr, ev_call, ev_mth, evs_nil, evs_cons, evO_none, evO_some, evT_none, evT_some, evI_seq, evI_r1, evI_enum, evI_zip, List.map_cons, List.map_nil, List.cons_append, List.nil_append, List.replicate, getVar, List.getElem?_cons_zero, List.getElem?_cons_succ, lift_some', bnd_ret, bnd_assoc, look_some', tB, tI, hO, frz_d, frz_f, its_fresh, storeTop, storeAt, setAt, List.length_cons, List.length_nil, List.set_cons_zero, List.set_cons_succ, Nat.reduceLT, Nat.reduceAdd, Nat.reduceSub, if_true, if_false, Bool.false_eq_true, permute, hvs?, datas?, chk_true]) p1
end Lw

set_option linter.all false
set_option Elab.async false
set_option maxRecDepth 100000
set_option maxHeartbeats 1000000
/-! N10: least amounts by own sums. -/
namespace Lw
open PySem Ev
theorem sh_rq {x : Rat} (h : Sm x) : Sh (rq x) 1 10000 := by
  have z : (2 : Nat) ^ 200 ≤ 2 ^ 1000 := Nat.pow_le_pow_right (by decide) (by decide)
  have := Sh.tuple (xs := [.int x.num, .int ((x.den : Nat) : Int)]) (k := 0) (w := 1921) (fun d hd => by
    simp only [List.mem_cons, List.not_mem_nil, or_false] at hd
    rcases hd with rfl | rfl
    · exact Sh.int (Nat.lt_of_lt_of_le h.n z)
    · exact Sh.int (by
        rw [Int.natAbs_natCast]
        exact Nat.lt_of_lt_of_le h.d z))
  exact this.mono (Nat.le_refl _) (by simp only [List.length_cons, List.length_nil]; omega)
theorem filter_sum (l : Rat) : ∀ c : List Rat, ((c.filter fun x => decide (l < x)).map fun x => x - l).sum = c.sum - sm c l
  | [] => by
    show (0 : Rat) = 0 - 0
    decide +kernel
  | x :: c => by
    have ih := filter_sum l c
    have e : sm (x :: c) l = mn x l + sm c l := by
      unfold sm
      rw [List.map_cons, List.sum_cons]
    rw [e, List.sum_cons]
    by_cases q : l < x
    · rw [List.filter_cons_of_pos (by simpa using q), List.map_cons, List.sum_cons, ih]
      unfold mn
      rw [if_pos q]
      grind
    · rw [List.filter_cons_of_neg (by simpa using q), ih]
      unfold mn
      rw [if_neg q]
      grind
theorem num0_iff {x : Rat} (h : 0 ≤ x) : decide (0 < x.num) = !decide (x = 0) := by
  rw [num_pos_iff]
  by_cases c : x = 0
  · subst c
    decide +kernel
  · rw [decide_eq_false c, decide_eq_true (by grind)]
    rfl
theorem lstv_facts (r : Ru) (hr : r = .a ∨ r = .l) {i : Nat} {as : List Int} {a : Int} {num : Rat} (h : Lx 6 as i a num) : Nb 6 (lstv r (cR as) ((a : Int) : Rat) num) ∧ 0 ≤ lstv r (cR as) ((a : Int) : Rat) num ∧ lstv r (cR as) ((a : Int) : Rat) num ≤ (cR as).sum := by
  have hel : ∀ x ∈ cR as, Nb 6 x ∧ 1 ≤ x ∧ x ≤ 99 := fun x hx => ⟨(h.ax.elt hx).2.2 6, (h.ax.elt hx).1, (h.ax.elt hx).2.1⟩
  have s := h.ax.s792
  have n0 := h.n0
  have n1 := h.n1
  have ra : ((a : Int) : Rat) ≤ 99 := Rat.intCast_le_intCast.mpr (h.ax.rg a h.am).2
  have na : Nb 6 ((a : Int) : Rat) := Nb.int (by have := h.ax.rg a h.am; omega) (by have := h.ax.rg a h.am; omega)
  have smn : ∀ l : Rat, Nb 6 l → 0 ≤ l → ∀ c : List Rat, (∀ x ∈ c, Nb 6 x ∧ 1 ≤ x ∧ x ≤ 99) → c.sum ≤ 792 → Nb 6 (sm c l) ∧ 0 ≤ sm c l ∧ sm c l ≤ c.sum := by
    intro l hl l0 c
    induction c with
    | nil => exact fun _ _ => ⟨nb_zero, Rat.le_refl, Rat.le_refl⟩
    | cons x c ih =>
      intro hx hs
      obtain ⟨x1, x2, x3⟩ := hx x List.mem_cons_self
      rw [List.sum_cons] at hs ⊢
      have r0 : 0 ≤ c.sum := by
        have := sum_nonneg (xs := c) (f := fun x => x) fun z hz => by have := (hx z (List.mem_cons_of_mem _ hz)).2.1; grind
        rwa [sum_id] at this
      obtain ⟨i1, i2, i3⟩ := ih (fun z hz => hx z (List.mem_cons_of_mem _ hz)) (by grind)
      have e : sm (x :: c) l = mn x l + sm c l := by
        unfold sm
        rw [List.map_cons, List.sum_cons]
      have m0 : 0 ≤ mn x l := mn_nonneg (by grind) l0
      have m1 := mn_le_y x l
      rw [e]
      exact ⟨(mn_nb x1 hl).add i1 (by grind) (by grind), by grind, by grind⟩
  obtain ⟨N, hN, _, hN2⟩ := whole_sum h.ax
  have nS : Nb 6 (cR as).sum := by
    rw [hN]
    exact nb_nat (by omega)
  rcases hr with rfl | rfl
  · exact smn num h.nn n0 (cR as) hel s.1
  · unfold lstv
    dsimp only
    by_cases q : num = 0
    · rw [if_pos q]
      exact ⟨nb_zero, Rat.le_refl, by grind⟩
    · rw [if_neg q]
      have nl : Nb 6 (((a : Int) : Rat) - num) := na.sub h.nn (by grind) (by grind)
      obtain ⟨j1, j2, j3⟩ := smn _ nl (by grind) (cR as) hel s.1
      exact ⟨nS.sub j1 (by grind) (by grind), by grind, by grind⟩
theorem due_enough (r : Ru) (hr : r = .a ∨ r = .l) {i : Nat} {as : List Int} {a : Int} {num : Rat} (h : Lx 6 as i a num) (o : Ok (cR as) (lstv r (cR as) ((a : Int) : Rat) num)) : num ≤ phi r (cR as) (lstv r (cR as) ((a : Int) : Rat) num) ((a : Int) : Rat) := by
  have hm : ((a : Int) : Rat) ∈ cR as := List.mem_map.mpr ⟨a, h.am, rfl⟩
  have n0 := h.n0
  have n1 := h.n1
  rcases hr with rfl | rfl
  · rw [least_a o hm h.n1 rfl]
    exact Rat.le_refl
  · by_cases q : num = 0
    · have := (phi_range .l o hm).1
      rw [q] at this ⊢
      exact this
    · rw [least_l o hm (line := ((a : Int) : Rat) - num) (by grind) (by unfold lstv; dsimp only; rw [if_neg q])]
      grind
theorem less_not (r : Ru) (hr : r = .a ∨ r = .l) {i : Nat} {as : List Int} {a : Int} {num le : Rat} (h : Lx 6 as i a num) (o : Ok (cR as) le) (hl : le < lstv r (cR as) ((a : Int) : Rat) num) : phi r (cR as) le ((a : Int) : Rat) < num := by
  have hm : ((a : Int) : Rat) ∈ cR as := List.mem_map.mpr ⟨a, h.am, rfl⟩
  have n0 := h.n0
  have n1 := h.n1
  have l0 := o.lo
  rcases hr with rfl | rfl
  · exact less_a o hl
  · unfold lstv at hl
    dsimp only at hl
    by_cases q : num = 0
    · rw [if_pos q] at hl
      grind
    · rw [if_neg q] at hl
      have := less_l o hm (line := ((a : Int) : Rat) - num) (by grind) hl
      grind
theorem seq2 (C : CallT) (e0 e1 e2 e3 e5 e7 e8 e9 e10 e11 e12 : Option HV) (x4 x6 : PyData) : evI C (.seq (.tup [(.tup [(.lit (.str "awards")), (.var 4)]), (.tup [(.lit (.str "losses")), (.var 6)])])) [e0, e1, e2, e3, some (.d x4), e5, some (.d x6), e7, e8, e9, e10, e11, e12] = Ev.ret (.seq [.d (.tuple [.str "awards", x4]), .d (.tuple [.str "losses", x6])]) := by
  simp only [exs_nil, exs_cons, ex_asg, ex_par, ex_expr, ex_ret, ex_ite, ev_var, ev_lit, ev_glob, ev_bin, ev_neg, ev_cmp, ev_chain, ev_not, ev_and, ev_or, ev_ite, ev_tup, ev_lst, ev_frz, ev_ix, ev_sl, ev_bi, ev_isi, ev_lr, ev_call, ev_mth, evs_nil, evs_cons, evO_none, evO_some, evT_none, evT_some, evI_seq, evI_r1, evI_enum, evI_zip, List.map_cons, List.map_nil, List.cons_append, List.nil_append, List.replicate, getVar, List.getElem?_cons_zero, List.getElem?_cons_succ, lift_some', bnd_ret, bnd_assoc, look_some', tB, tI, hO, frz_d, frz_f, its_fresh, storeTop, storeAt, setAt, List.length_cons, List.length_nil, List.set_cons_zero, List.set_cons_succ, Nat.reduceLT, Nat.reduceAdd, Nat.reduceSub, if_true, if_false, Bool.false_eq_true, permute, hvs?, datas?, chk_true, lk2]
  rfl
theorem less2 {C : CallT} {due m : Rat} (h1 : runCall C "_law_made" true [I 999, I 1000] = Ev.ret (rD (rq m))) {x y : PyData} (h2 : runCall C "_law_mul" true [.d (rq due), .d (rq m)] = Ev.ret (rD x)) (h3 : runCall C "_law_div" true [.d (rq due), .d (rq ((2 : Int) : Rat))] = Ev.ret (rD y)) (e0 e1 e2 e3 e4 e5 e6 e7 e8 e9 e11 e12 : Option HV) : evI C (.seq (.tup [(.frz (.call "_law_mul" true [0, 1] [(.var 10), (.frz (.call "_law_made" true [0, 1] [(.lit (.int 999)), (.lit (.int 1000))]))])), (.frz (.call "_law_div" true [0, 1] [(.var 10), (.tup [(.lit (.int 2)), (.lit (.int 1))])]))])) [e0, e1, e2, e3, e4, e5, e6, e7, e8, e9, some (.d (rq due)), e11, e12] = Ev.ret (.seq [.d x, .d y]) := by
  have two : HV.d (.tuple [.int 2, .int 1]) = .d (rq ((2 : Int) : Rat)) := by rw [rq_int]
  simp only [exs_nil, exs_cons, ex_asg, ex_par, ex_expr, ex_ret, ex_ite, ev_var, ev_lit, ev_glob, ev_bin, ev_neg, ev_cmp, ev_chain, ev_not, ev_and, ev_or, ev_ite, ev_tup, ev_lst, ev_frz, ev_ix, ev_sl, ev_bi, ev_isi, ev_lr, ev_call, ev_mth, evs_nil, evs_cons, evO_none, evO_some, evT_none, evT_some, evI_seq, evI_r1, evI_enum, evI_zip, List.map_cons, List.map_nil, List.cons_append, List.nil_append, List.replicate, getVar, List.getElem?_cons_zero, List.getElem?_cons_succ, lift_some', bnd_ret, bnd_assoc, look_some', tB, tI, hO, frz_d, frz_f, its_fresh, storeTop, storeAt, setAt, List.length_cons, List.length_nil, List.set_cons_zero, List.set_cons_succ, Nat.reduceLT, Nat.reduceAdd, Nat.reduceSub, if_true, if_false, Bool.false_eq_true, permute, hvs?, datas?, chk_true, h1, h2, lk2, two, h3]
  rfl
theorem lleast_run (k n : Nat) (h : Hp) (hp : PotAt h n) {as : List Int} (ax : Ax as) : ∃ h', callN prog (k + 10) "_law_least_right" [.ref n, .d (T as)] h = some (rD (.bool true), h') ∧ PotAt h' n := by
  obtain ⟨q1, q2⟩ := Ax.sum_le ax.rg
  have l1 := ax.l1
  have l8 := ax.l8
  have hlen := cR_len as
  refine call_ends (f := f__law_least_right) (by rfl) rfl ?_
  unfold f__law_least_right
  obtain ⟨d, p1, r1, e1, d0, d1, z1⟩ := draw_run (k + 8) n h (as.length : Nat) (by omega) (by omega) hp
  obtain ⟨i, rfl⟩ : ∃ i : Nat, d = i := ⟨d.toNat, by omega⟩
  have hi : i < as.length := by omega
  have hp1 := hp.next z1
  obtain ⟨hai, ham⟩ := getI_mem hi
  generalize haa : as.getD i 0 = a at hai ham
  have hra := ax.rg a ham
  obtain ⟨d2, p2, r2, e2, d20, d21, z2⟩ := draw_run (k + 8) n _ (3 * a + 1) (by omega) (by omega) hp1
  have hp2 := hp1.next z2
  obtain ⟨c, p3, r3, e3, hc, z3⟩ := pick_run (k + 7) n _ [.tuple [.int 0, .int 1], .tuple [.int a, .int 1], rq (Rat.divInt d2 (3 : Nat))] (by simp) (by simp) hp2
  have hp3 := hp2.next z3
  have hnum : ∃ num, c = rq num ∧ Lx 6 as i a num := by
    simp only [List.mem_cons, List.not_mem_nil, or_false] at hc
    have a0 : (0 : Rat) ≤ ((a : Int) : Rat) := Rat.intCast_le_intCast.mpr (show (0 : Int) ≤ a by omega)
    rcases hc with rfl | rfl | rfl
    · exact ⟨((0 : Int) : Rat), (rq_int 0).symm, ax, by decide, by decide, hi, hai, nb_zero, by decide +kernel, a0⟩
    · exact ⟨((a : Int) : Rat), (rq_int _).symm, ax, by decide, by decide, hi, hai, Nb.int (by omega) (by omega), a0, Rat.le_refl⟩
    · obtain ⟨b1, b2, b3⟩ := nb_div (D := 6) (q := 3) (p := d2) (by decide) (by decide) (by omega) (by omega)
      refine ⟨_, rfl, ax, by decide, by decide, hi, hai, b1, b2, ?_⟩
      have e7 : ((3 : Nat) : Rat) = 3 := rfl
      have := Rat.intCast_le_intCast.mpr (show d2 ≤ 3 * a by omega)
      rw [Rat.intCast_mul] at this
      have e8 : ((3 : Int) : Rat) = 3 := rfl
      grind
  obtain ⟨num, rfl, hx⟩ := hnum
  have sn := hx.nn.sm (by decide) (by decide)
  have n0 := hx.n0
  have n1 := hx.n1
  have na : Nb 6 ((a : Int) : Rat) := Nb.int (by omega) (by omega)
  have ra : ((a : Int) : Rat) ≤ 99 := Rat.intCast_le_intCast.mpr hra.2
  have nl : Nb 6 (((a : Int) : Rat) - num) := na.sub hx.nn (by grind) (by grind)
  have sl := nl.sm (by decide) (by decide)
  have hel : ∀ x ∈ cR as, Nb 6 x ∧ 1 ≤ x ∧ x ≤ 99 := fun x hx => ⟨(ax.elt hx).2.2 6, (ax.elt hx).1, (ax.elt hx).2.1⟩
  have sx : ∀ x ∈ cR as, Sm x := fun x hx => (hel x hx).1.sm (by decide) (by decide)
  have h792 := ax.s792
  -- where, whole
  refine Ends.go (env' := [some (.ref n), some (.d (T as)), none, none, none, none, none, some (I (i : Nat)), some (.d (rq (cR as).sum)), none, none, none, none]) (h' := h.set n (OP p1 r1)) (by
    rw [cR_sum, rq_int]
    simp only [exs_nil, exs_cons, ex_asg, ex_par, ex_expr, ex_ret, ex_ite, ev_var, ev_lit, ev_glob, ev_bin, ev_neg, ev_cmp, ev_chain, ev_not, ev_and, ev_or, ev_ite, ev_tup, ev_lst, ev_frz, ev_ix, ev_sl, ev_bi, ev_isi, ev_lr, ev_call, ev_mth, evs_nil, evs_cons, evO_none, evO_some, evT_none, evT_some, evI_seq, evI_r1, evI_enum, evI_zip, List.map_cons, List.map_nil, List.cons_append, List.nil_append, List.replicate, getVar, List.getElem?_cons_zero, List.getElem?_cons_succ, lift_some', bnd_ret, bnd_assoc, look_some', tB, tI, hO, frz_d, frz_f, its_fresh, storeTop, storeAt, setAt, List.length_cons, List.length_nil, List.set_cons_zero, List.set_cons_succ, Nat.reduceLT, Nat.reduceAdd, Nat.reduceSub, if_true, if_false, Bool.false_eq_true, permute, hvs?, datas?, chk_true, ex_par, len_T, runCall_f]
    rw [bnd_at _ e1]
    simp only [exs_nil, exs_cons, ex_asg, ex_par, ex_expr, ex_ret, ex_ite, ev_var, ev_lit, ev_glob, ev_bin, ev_neg, ev_cmp, ev_chain, ev_not, ev_and, ev_or, ev_ite, ev_tup, ev_lst, ev_frz, ev_ix, ev_sl, ev_bi, ev_isi, ev_lr, ev_call, ev_mth, evs_nil, evs_cons, evO_none, evO_some, evT_none, evT_some, evI_seq, evI_r1, evI_enum, evI_zip, List.map_cons, List.map_nil, List.cons_append, List.nil_append, List.replicate, getVar, List.getElem?_cons_zero, List.getElem?_cons_succ, lift_some', bnd_ret, bnd_assoc, look_some', tB, tI, hO, frz_d, frz_f, its_fresh, storeTop, storeAt, setAt, List.length_cons, List.length_nil, List.set_cons_zero, List.set_cons_succ, Nat.reduceLT, Nat.reduceAdd, Nat.reduceSub, if_true, if_false, Bool.false_eq_true, permute, hvs?, datas?, chk_true, sumT_run, lk2, decide_true, Bool.and_self, List.reverse_cons, List.reverse_nil, storeAts]
    rfl) ?_
  -- the number
  have m3 : runCall (callN prog (k + 9)) "_law_made" true [I d2, I 3] = Ev.ret (rD (rq (Rat.divInt d2 (3 : Nat)))) := pc (lmade_run (k + 8) d2 (3 : Nat) (by decide) (Nat.lt_of_lt_of_le (show d2.natAbs < 2 ^ 20 by omega) (Nat.pow_le_pow_right (by decide) (by decide))) (by decide)) rfl rfl
  refine Ends.go (env' := [some (.ref n), some (.d (T as)), some (.d (rq num)), none, none, none, none, some (I (i : Nat)), some (.d (rq (cR as).sum)), none, none, none, none]) (h' := ((h.set n (OP p1 r1)).set n (OP p2 r2)).set n (OP p3 r3)) (by
    simp only [exs_nil, exs_cons, ex_asg, ex_par, ex_expr, ex_ret, ex_ite, ev_var, ev_lit, ev_glob, ev_bin, ev_neg, ev_cmp, ev_chain, ev_not, ev_and, ev_or, ev_ite, ev_tup, ev_lst, ev_frz, ev_ix, ev_sl, ev_bi, ev_isi, ev_lr, ev_call, ev_mth, evs_nil, evs_cons, evO_none, evO_some, evT_none, evT_some, evI_seq, evI_r1, evI_enum, evI_zip, List.map_cons, List.map_nil, List.cons_append, List.nil_append, List.replicate, getVar, List.getElem?_cons_zero, List.getElem?_cons_succ, lift_some', bnd_ret, bnd_assoc, look_some', tB, tI, hO, frz_d, frz_f, its_fresh, storeTop, storeAt, setAt, List.length_cons, List.length_nil, List.set_cons_zero, List.set_cons_succ, Nat.reduceLT, Nat.reduceAdd, Nat.reduceSub, if_true, if_false, Bool.false_eq_true, permute, hvs?, datas?, chk_true, lk2, ixT hai, bin_mulI 3 a _ (by decide) (Nat.lt_of_lt_of_le (bits_abs (k := 20) (show a.natAbs < 2 ^ 20 by omega) (by decide)) (by decide)), bin_addI, runCall_f]
    rw [bnd_at _ e2]
    simp only [exs_nil, exs_cons, ex_asg, ex_par, ex_expr, ex_ret, ex_ite, ev_var, ev_lit, ev_glob, ev_bin, ev_neg, ev_cmp, ev_chain, ev_not, ev_and, ev_or, ev_ite, ev_tup, ev_lst, ev_frz, ev_ix, ev_sl, ev_bi, ev_isi, ev_lr, ev_call, ev_mth, evs_nil, evs_cons, evO_none, evO_some, evT_none, evT_some, evI_seq, evI_r1, evI_enum, evI_zip, List.map_cons, List.map_nil, List.cons_append, List.nil_append, List.replicate, getVar, List.getElem?_cons_zero, List.getElem?_cons_succ, lift_some', bnd_ret, bnd_assoc, look_some', tB, tI, hO, frz_d, frz_f, its_fresh, storeTop, storeAt, setAt, List.length_cons, List.length_nil, List.set_cons_zero, List.set_cons_succ, Nat.reduceLT, Nat.reduceAdd, Nat.reduceSub, if_true, if_false, Bool.false_eq_true, permute, hvs?, datas?, chk_true, m3, lk3]
    have e4 : frzV (.fresh [.d (.tuple [.int 0, .int 1]), .d (.tuple [.int a, .int 1]), .d (rq (Rat.divInt d2 (3 : Nat)))]) = Ev.ret (rD (.list [.tuple [.int 0, .int 1], .tuple [.int a, .int 1], rq (Rat.divInt d2 (3 : Nat))])) := frz_f [.tuple [.int 0, .int 1], .tuple [.int a, .int 1], rq (Rat.divInt d2 (3 : Nat))]
    simp only [exs_nil, exs_cons, ex_asg, ex_par, ex_expr, ex_ret, ex_ite, ev_var, ev_lit, ev_glob, ev_bin, ev_neg, ev_cmp, ev_chain, ev_not, ev_and, ev_or, ev_ite, ev_tup, ev_lst, ev_frz, ev_ix, ev_sl, ev_bi, ev_isi, ev_lr, ev_call, ev_mth, evs_nil, evs_cons, evO_none, evO_some, evT_none, evT_some, evI_seq, evI_r1, evI_enum, evI_zip, List.map_cons, List.map_nil, List.cons_append, List.nil_append, List.replicate, getVar, List.getElem?_cons_zero, List.getElem?_cons_succ, lift_some', bnd_ret, bnd_assoc, look_some', tB, tI, hO, frz_d, frz_f, its_fresh, storeTop, storeAt, setAt, List.length_cons, List.length_nil, List.set_cons_zero, List.set_cons_succ, Nat.reduceLT, Nat.reduceAdd, Nat.reduceSub, if_true, if_false, Bool.false_eq_true, permute, hvs?, datas?, chk_true, e4]
    rw [bnd_at _ e3]
    simp only [exs_nil, exs_cons, ex_asg, ex_par, ex_expr, ex_ret, ex_ite, ev_var, ev_lit, ev_glob, ev_bin, ev_neg, ev_cmp, ev_chain, ev_not, ev_and, ev_or, ev_ite, ev_tup, ev_lst, ev_frz, ev_ix, ev_sl, ev_bi, ev_isi, ev_lr, ev_call, ev_mth, evs_nil, evs_cons, evO_none, evO_some, evT_none, evT_some, evI_seq, evI_r1, evI_enum, evI_zip, List.map_cons, List.map_nil, List.cons_append, List.nil_append, List.replicate, getVar, List.getElem?_cons_zero, List.getElem?_cons_succ, lift_some', bnd_ret, bnd_assoc, look_some', tB, tI, hO, frz_d, frz_f, its_fresh, storeTop, storeAt, setAt, List.length_cons, List.length_nil, List.set_cons_zero, List.set_cons_succ, Nat.reduceLT, Nat.reduceAdd, Nat.reduceSub, if_true, if_false, Bool.false_eq_true, permute, hvs?, datas?, chk_true]
    rfl) ?_
  generalize hH : ((h.set n (OP p1 r1)).set n (OP p2 r2)).set n (OP p3 r3) = H at hp3
  refine Ends.pure (env' := [some (.ref n), some (.d (T as)), some (.d (rq num)), some (.d (.list ((cR as).map rq))), none, none, none, some (I (i : Nat)), some (.d (rq (cR as).sum)), none, none, none, none]) (by
    simp only [exs_nil, exs_cons, ex_asg, ex_par, ex_expr, ex_ret, ex_ite, ev_var, ev_lit, ev_glob, ev_bin, ev_neg, ev_cmp, ev_chain, ev_not, ev_and, ev_or, ev_ite, ev_tup, ev_lst, ev_frz, ev_ix, ev_sl, ev_bi, ev_isi, ev_lr, ev_call, ev_mth, evs_nil, evs_cons, evO_none, evO_some, evT_none, evT_some, evI_seq, evI_r1, evI_enum, evI_zip, List.map_cons, List.map_nil, List.cons_append, List.nil_append, List.replicate, getVar, List.getElem?_cons_zero, List.getElem?_cons_succ, lift_some', bnd_ret, bnd_assoc, look_some', tB, tI, hO, frz_d, frz_f, its_fresh, storeTop, storeAt, setAt, List.length_cons, List.length_nil, List.set_cons_zero, List.set_cons_succ, Nat.reduceLT, Nat.reduceAdd, Nat.reduceSub, if_true, if_false, Bool.false_eq_true, permute, hvs?, datas?, chk_true]
    rw [ev_compM as (fun a => I a) (fun a => .d (rq ((a : Int) : Rat))) (by simp only [exs_nil, exs_cons, ex_asg, ex_par, ex_expr, ex_ret, ex_ite, ev_var, ev_lit, ev_glob, ev_bin, ev_neg, ev_cmp, ev_chain, ev_not, ev_and, ev_or, ev_ite, ev_tup, ev_lst, ev_frz, ev_ix, ev_sl, ev_bi, ev_isi, ev_lr, ev_call, ev_mth, evs_nil, evs_cons, evO_none, evO_some, evT_none, evT_some, evI_seq, evI_r1, evI_enum, evI_zip, List.map_cons, List.map_nil, List.cons_append, List.nil_append, List.replicate, getVar, List.getElem?_cons_zero, List.getElem?_cons_succ, lift_some', bnd_ret, bnd_assoc, look_some', tB, tI, hO, frz_d, frz_f, its_fresh, storeTop, storeAt, setAt, List.length_cons, List.length_nil, List.set_cons_zero, List.set_cons_succ, Nat.reduceLT, Nat.reduceAdd, Nat.reduceSub, if_true, if_false, Bool.false_eq_true, permute, hvs?, datas?, chk_true, itsT_run]) (fun a _ => by
      unfold turnOf
      rw [rq_int]
      simp only [exs_nil, exs_cons, ex_asg, ex_par, ex_expr, ex_ret, ex_ite, ev_var, ev_lit, ev_glob, ev_bin, ev_neg, ev_cmp, ev_chain, ev_not, ev_and, ev_or, ev_ite, ev_tup, ev_lst, ev_frz, ev_ix, ev_sl, ev_bi, ev_isi, ev_lr, ev_call, ev_mth, evs_nil, evs_cons, evO_none, evO_some, evT_none, evT_some, evI_seq, evI_r1, evI_enum, evI_zip, List.map_cons, List.map_nil, List.cons_append, List.nil_append, List.replicate, getVar, List.getElem?_cons_zero, List.getElem?_cons_succ, lift_some', bnd_ret, bnd_assoc, look_some', tB, tI, hO, frz_d, frz_f, its_fresh, storeTop, storeAt, setAt, List.length_cons, List.length_nil, List.set_cons_zero, List.set_cons_succ, Nat.reduceLT, Nat.reduceAdd, Nat.reduceSub, if_true, if_false, Bool.false_eq_true, permute, hvs?, datas?, chk_true, store_name, Ev.wipe, lk2]) (by omega)]
    have : frzV (.fresh (as.map fun a => .d (rq ((a : Int) : Rat)))) = Ev.ret (rD (.list ((cR as).map rq))) := by
      rw [frz_run]
      unfold cR
      rw [List.map_map]
      rfl
    simp only [exs_nil, exs_cons, ex_asg, ex_par, ex_expr, ex_ret, ex_ite, ev_var, ev_lit, ev_glob, ev_bin, ev_neg, ev_cmp, ev_chain, ev_not, ev_and, ev_or, ev_ite, ev_tup, ev_lst, ev_frz, ev_ix, ev_sl, ev_bi, ev_isi, ev_lr, ev_call, ev_mth, evs_nil, evs_cons, evO_none, evO_some, evT_none, evT_some, evI_seq, evI_r1, evI_enum, evI_zip, List.map_cons, List.map_nil, List.cons_append, List.nil_append, List.replicate, getVar, List.getElem?_cons_zero, List.getElem?_cons_succ, lift_some', bnd_ret, bnd_assoc, look_some', tB, tI, hO, frz_d, frz_f, its_fresh, storeTop, storeAt, setAt, List.length_cons, List.length_nil, List.set_cons_zero, List.set_cons_succ, Nat.reduceLT, Nat.reduceAdd, Nat.reduceSub, if_true, if_false, Bool.false_eq_true, permute, hvs?, datas?, chk_true, this]) ?_
  have fu := lstv_facts .a (.inl rfl) hx
  have fd := lstv_facts .l (.inr rfl) hx
  have ltot : ∀ (xs : List Rat), (∀ x ∈ xs, Nb 6 x ∧ 0 ≤ x) → xs.sum ≤ 100000 → runCall (callN prog (k + 9)) "_law_total" true [.d (.list (xs.map rq))] = Ev.ret (rD (rq xs.sum)) := fun xs h1 h2 => pc (ltotal_run (k + 6) 6 (by decide) (by decide) (W := .list (xs.map rq)) xs (fun hp => its_rq xs hp) h1 h2) rfl rfl
  refine Ends.pure (env' := [some (.ref n), some (.d (T as)), some (.d (rq num)), some (.d (.list ((cR as).map rq))), some (.d (rq (lstv .a (cR as) ((a : Int) : Rat) num))), none, none, some (I (i : Nat)), some (.d (rq (cR as).sum)), none, none, none, none]) (by
    simp only [exs_nil, exs_cons, ex_asg, ex_par, ex_expr, ex_ret, ex_ite, ev_var, ev_lit, ev_glob, ev_bin, ev_neg, ev_cmp, ev_chain, ev_not, ev_and, ev_or, ev_ite, ev_tup, ev_lst, ev_frz, ev_ix, ev_sl, ev_bi, ev_isi, ev_lr, ev_call, ev_mth, evs_nil, evs_cons, evO_none, evO_some, evT_none, evT_some, evI_seq, evI_r1, evI_enum, evI_zip, List.map_cons, List.map_nil, List.cons_append, List.nil_append, List.replicate, getVar, List.getElem?_cons_zero, List.getElem?_cons_succ, lift_some', bnd_ret, bnd_assoc, look_some', tB, tI, hO, frz_d, frz_f, its_fresh, storeTop, storeAt, setAt, List.length_cons, List.length_nil, List.set_cons_zero, List.set_cons_succ, Nat.reduceLT, Nat.reduceAdd, Nat.reduceSub, if_true, if_false, Bool.false_eq_true, permute, hvs?, datas?, chk_true]
    rw [ev_compM (cR as) (fun x => .d (rq x)) (fun x => .d (rq (mn x num))) (by simp only [exs_nil, exs_cons, ex_asg, ex_par, ex_expr, ex_ret, ex_ite, ev_var, ev_lit, ev_glob, ev_bin, ev_neg, ev_cmp, ev_chain, ev_not, ev_and, ev_or, ev_ite, ev_tup, ev_lst, ev_frz, ev_ix, ev_sl, ev_bi, ev_isi, ev_lr, ev_call, ev_mth, evs_nil, evs_cons, evO_none, evO_some, evT_none, evT_some, evI_seq, evI_r1, evI_enum, evI_zip, List.map_cons, List.map_nil, List.cons_append, List.nil_append, List.replicate, getVar, List.getElem?_cons_zero, List.getElem?_cons_succ, lift_some', bnd_ret, bnd_assoc, look_some', tB, tI, hO, frz_d, frz_f, its_fresh, storeTop, storeAt, setAt, List.length_cons, List.length_nil, List.set_cons_zero, List.set_cons_succ, Nat.reduceLT, Nat.reduceAdd, Nat.reduceSub, if_true, if_false, Bool.false_eq_true, permute, hvs?, datas?, chk_true, its_rq]) (fun x hxx => by
      unfold turnOf mn
      simp only [exs_nil, exs_cons, ex_asg, ex_par, ex_expr, ex_ret, ex_ite, ev_var, ev_lit, ev_glob, ev_bin, ev_neg, ev_cmp, ev_chain, ev_not, ev_and, ev_or, ev_ite, ev_tup, ev_lst, ev_frz, ev_ix, ev_sl, ev_bi, ev_isi, ev_lr, ev_call, ev_mth, evs_nil, evs_cons, evO_none, evO_some, evT_none, evT_some, evI_seq, evI_r1, evI_enum, evI_zip, List.map_cons, List.map_nil, List.cons_append, List.nil_append, List.replicate, getVar, List.getElem?_cons_zero, List.getElem?_cons_succ, lift_some', bnd_ret, bnd_assoc, look_some', tB, tI, hO, frz_d, frz_f, its_fresh, storeTop, storeAt, setAt, List.length_cons, List.length_nil, List.set_cons_zero, List.set_cons_succ, Nat.reduceLT, Nat.reduceAdd, Nat.reduceSub, if_true, if_false, Bool.false_eq_true, permute, hvs?, datas?, chk_true, store_name, Ev.wipe, pc (llt_run (k + 8) sn (sx x hxx)) rfl rfl]
      by_cases q : num < x
      · simp only [exs_nil, exs_cons, ex_asg, ex_par, ex_expr, ex_ret, ex_ite, ev_var, ev_lit, ev_glob, ev_bin, ev_neg, ev_cmp, ev_chain, ev_not, ev_and, ev_or, ev_ite, ev_tup, ev_lst, ev_frz, ev_ix, ev_sl, ev_bi, ev_isi, ev_lr, ev_call, ev_mth, evs_nil, evs_cons, evO_none, evO_some, evT_none, evT_some, evI_seq, evI_r1, evI_enum, evI_zip, List.map_cons, List.map_nil, List.cons_append, List.nil_append, List.replicate, getVar, List.getElem?_cons_zero, List.getElem?_cons_succ, lift_some', bnd_ret, bnd_assoc, look_some', tB, tI, hO, frz_d, frz_f, its_fresh, storeTop, storeAt, setAt, List.length_cons, List.length_nil, List.set_cons_zero, List.set_cons_succ, Nat.reduceLT, Nat.reduceAdd, Nat.reduceSub, if_true, if_false, Bool.false_eq_true, permute, hvs?, datas?, chk_true, decide_eq_true q, if_pos q]
      · simp only [exs_nil, exs_cons, ex_asg, ex_par, ex_expr, ex_ret, ex_ite, ev_var, ev_lit, ev_glob, ev_bin, ev_neg, ev_cmp, ev_chain, ev_not, ev_and, ev_or, ev_ite, ev_tup, ev_lst, ev_frz, ev_ix, ev_sl, ev_bi, ev_isi, ev_lr, ev_call, ev_mth, evs_nil, evs_cons, evO_none, evO_some, evT_none, evT_some, evI_seq, evI_r1, evI_enum, evI_zip, List.map_cons, List.map_nil, List.cons_append, List.nil_append, List.replicate, getVar, List.getElem?_cons_zero, List.getElem?_cons_succ, lift_some', bnd_ret, bnd_assoc, look_some', tB, tI, hO, frz_d, frz_f, its_fresh, storeTop, storeAt, setAt, List.length_cons, List.length_nil, List.set_cons_zero, List.set_cons_succ, Nat.reduceLT, Nat.reduceAdd, Nat.reduceSub, if_true, if_false, Bool.false_eq_true, permute, hvs?, datas?, chk_true, decide_eq_false q, if_neg q]) (by omega)]
    simp only [exs_nil, exs_cons, ex_asg, ex_par, ex_expr, ex_ret, ex_ite, ev_var, ev_lit, ev_glob, ev_bin, ev_neg, ev_cmp, ev_chain, ev_not, ev_and, ev_or, ev_ite, ev_tup, ev_lst, ev_frz, ev_ix, ev_sl, ev_bi, ev_isi, ev_lr, ev_call, ev_mth, evs_nil, evs_cons, evO_none, evO_some, evT_none, evT_some, evI_seq, evI_r1, evI_enum, evI_zip, List.map_cons, List.map_nil, List.cons_append, List.nil_append, List.replicate, getVar, List.getElem?_cons_zero, List.getElem?_cons_succ, lift_some', bnd_ret, bnd_assoc, look_some', tB, tI, hO, frz_d, frz_f, its_fresh, storeTop, storeAt, setAt, List.length_cons, List.length_nil, List.set_cons_zero, List.set_cons_succ, Nat.reduceLT, Nat.reduceAdd, Nat.reduceSub, if_true, if_false, Bool.false_eq_true, permute, hvs?, datas?, chk_true, frz_run, map_rq (cR as) (fun x => mn x num), ltot ((cR as).map fun x => mn x num) (fun y hy => by
      obtain ⟨x, hx2, rfl⟩ := List.mem_map.mp hy
      have := hel x hx2
      exact ⟨mn_nb this.1 hx.nn, mn_nonneg (by grind) n0⟩) (by
      have := fu.2.2
      have e : lstv .a (cR as) ((a : Int) : Rat) num = ((cR as).map fun x => mn x num).sum := rfl
      rw [e] at this
      grind)]
    rfl) ?_
  refine Ends.pure (env' := [some (.ref n), some (.d (T as)), some (.d (rq num)), some (.d (.list ((cR as).map rq))), some (.d (rq (lstv .a (cR as) ((a : Int) : Rat) num))), some (.d (rq (((a : Int) : Rat) - num))), none, some (I (i : Nat)), some (.d (rq (cR as).sum)), none, none, none, none]) (by
    simp only [exs_nil, exs_cons, ex_asg, ex_par, ex_expr, ex_ret, ex_ite, ev_var, ev_lit, ev_glob, ev_bin, ev_neg, ev_cmp, ev_chain, ev_not, ev_and, ev_or, ev_ite, ev_tup, ev_lst, ev_frz, ev_ix, ev_sl, ev_bi, ev_isi, ev_lr, ev_call, ev_mth, evs_nil, evs_cons, evO_none, evO_some, evT_none, evT_some, evI_seq, evI_r1, evI_enum, evI_zip, List.map_cons, List.map_nil, List.cons_append, List.nil_append, List.replicate, getVar, List.getElem?_cons_zero, List.getElem?_cons_succ, lift_some', bnd_ret, bnd_assoc, look_some', tB, tI, hO, frz_d, frz_f, its_fresh, storeTop, storeAt, setAt, List.length_cons, List.length_nil, List.set_cons_zero, List.set_cons_succ, Nat.reduceLT, Nat.reduceAdd, Nat.reduceSub, if_true, if_false, Bool.false_eq_true, permute, hvs?, datas?, chk_true, ixT hai, lk2, int_hv, pc (lsub_run (k + 7) (na.sm (by decide) (by decide)) sn) rfl rfl]) ?_
  refine Ends.pure (env' := [some (.ref n), some (.d (T as)), some (.d (rq num)), some (.d (.list ((cR as).map rq))), some (.d (rq (lstv .a (cR as) ((a : Int) : Rat) num))), some (.d (rq (((a : Int) : Rat) - num))), some (.d (rq (lstv .l (cR as) ((a : Int) : Rat) num))), some (I (i : Nat)), some (.d (rq (cR as).sum)), none, none, none, none]) (by
    simp only [exs_nil, exs_cons, ex_asg, ex_par, ex_expr, ex_ret, ex_ite, ev_var, ev_lit, ev_glob, ev_bin, ev_neg, ev_cmp, ev_chain, ev_not, ev_and, ev_or, ev_ite, ev_tup, ev_lst, ev_frz, ev_ix, ev_sl, ev_bi, ev_isi, ev_lr, ev_call, ev_mth, evs_nil, evs_cons, evO_none, evO_some, evT_none, evT_some, evI_seq, evI_r1, evI_enum, evI_zip, List.map_cons, List.map_nil, List.cons_append, List.nil_append, List.replicate, getVar, List.getElem?_cons_zero, List.getElem?_cons_succ, lift_some', bnd_ret, bnd_assoc, look_some', tB, tI, hO, frz_d, frz_f, its_fresh, storeTop, storeAt, setAt, List.length_cons, List.length_nil, List.set_cons_zero, List.set_cons_succ, Nat.reduceLT, Nat.reduceAdd, Nat.reduceSub, if_true, if_false, Bool.false_eq_true, permute, hvs?, datas?, chk_true, rq0, cmp_gt, num0_iff n0]
    by_cases q : num = 0
    · have e : lstv .l (cR as) ((a : Int) : Rat) num = 0 := by
        unfold lstv
        dsimp only
        rw [if_pos q]
      rw [e, rq_zero]
      simp only [exs_nil, exs_cons, ex_asg, ex_par, ex_expr, ex_ret, ex_ite, ev_var, ev_lit, ev_glob, ev_bin, ev_neg, ev_cmp, ev_chain, ev_not, ev_and, ev_or, ev_ite, ev_tup, ev_lst, ev_frz, ev_ix, ev_sl, ev_bi, ev_isi, ev_lr, ev_call, ev_mth, evs_nil, evs_cons, evO_none, evO_some, evT_none, evT_some, evI_seq, evI_r1, evI_enum, evI_zip, List.map_cons, List.map_nil, List.cons_append, List.nil_append, List.replicate, getVar, List.getElem?_cons_zero, List.getElem?_cons_succ, lift_some', bnd_ret, bnd_assoc, look_some', tB, tI, hO, frz_d, frz_f, its_fresh, storeTop, storeAt, setAt, List.length_cons, List.length_nil, List.set_cons_zero, List.set_cons_succ, Nat.reduceLT, Nat.reduceAdd, Nat.reduceSub, if_true, if_false, Bool.false_eq_true, permute, hvs?, datas?, chk_true, decide_eq_true q, Bool.not_true, lk2]
    · simp only [exs_nil, exs_cons, ex_asg, ex_par, ex_expr, ex_ret, ex_ite, ev_var, ev_lit, ev_glob, ev_bin, ev_neg, ev_cmp, ev_chain, ev_not, ev_and, ev_or, ev_ite, ev_tup, ev_lst, ev_frz, ev_ix, ev_sl, ev_bi, ev_isi, ev_lr, ev_call, ev_mth, evs_nil, evs_cons, evO_none, evO_some, evT_none, evT_some, evI_seq, evI_r1, evI_enum, evI_zip, List.map_cons, List.map_nil, List.cons_append, List.nil_append, List.replicate, getVar, List.getElem?_cons_zero, List.getElem?_cons_succ, lift_some', bnd_ret, bnd_assoc, look_some', tB, tI, hO, frz_d, frz_f, its_fresh, storeTop, storeAt, setAt, List.length_cons, List.length_nil, List.set_cons_zero, List.set_cons_succ, Nat.reduceLT, Nat.reduceAdd, Nat.reduceSub, if_true, if_false, Bool.false_eq_true, permute, hvs?, datas?, chk_true, decide_eq_false q, Bool.not_false]
      rw [ev_comp (cR as) (fun x => .d (rq x)) (fun x => .d (rq (x - (((a : Int) : Rat) - num)))) (fun x => decide (((a : Int) : Rat) - num < x)) (by simp only [exs_nil, exs_cons, ex_asg, ex_par, ex_expr, ex_ret, ex_ite, ev_var, ev_lit, ev_glob, ev_bin, ev_neg, ev_cmp, ev_chain, ev_not, ev_and, ev_or, ev_ite, ev_tup, ev_lst, ev_frz, ev_ix, ev_sl, ev_bi, ev_isi, ev_lr, ev_call, ev_mth, evs_nil, evs_cons, evO_none, evO_some, evT_none, evT_some, evI_seq, evI_r1, evI_enum, evI_zip, List.map_cons, List.map_nil, List.cons_append, List.nil_append, List.replicate, getVar, List.getElem?_cons_zero, List.getElem?_cons_succ, lift_some', bnd_ret, bnd_assoc, look_some', tB, tI, hO, frz_d, frz_f, its_fresh, storeTop, storeAt, setAt, List.length_cons, List.length_nil, List.set_cons_zero, List.set_cons_succ, Nat.reduceLT, Nat.reduceAdd, Nat.reduceSub, if_true, if_false, Bool.false_eq_true, permute, hvs?, datas?, chk_true, its_rq]) (fun x hxx => by
        unfold turnOf
        simp only [exs_nil, exs_cons, ex_asg, ex_par, ex_expr, ex_ret, ex_ite, ev_var, ev_lit, ev_glob, ev_bin, ev_neg, ev_cmp, ev_chain, ev_not, ev_and, ev_or, ev_ite, ev_tup, ev_lst, ev_frz, ev_ix, ev_sl, ev_bi, ev_isi, ev_lr, ev_call, ev_mth, evs_nil, evs_cons, evO_none, evO_some, evT_none, evT_some, evI_seq, evI_r1, evI_enum, evI_zip, List.map_cons, List.map_nil, List.cons_append, List.nil_append, List.replicate, getVar, List.getElem?_cons_zero, List.getElem?_cons_succ, lift_some', bnd_ret, bnd_assoc, look_some', tB, tI, hO, frz_d, frz_f, its_fresh, storeTop, storeAt, setAt, List.length_cons, List.length_nil, List.set_cons_zero, List.set_cons_succ, Nat.reduceLT, Nat.reduceAdd, Nat.reduceSub, if_true, if_false, Bool.false_eq_true, permute, hvs?, datas?, chk_true, store_name, Ev.wipe, pc (llt_run (k + 8) sl (sx x hxx)) rfl rfl]
        by_cases q : ((a : Int) : Rat) - num < x
        · simp only [exs_nil, exs_cons, ex_asg, ex_par, ex_expr, ex_ret, ex_ite, ev_var, ev_lit, ev_glob, ev_bin, ev_neg, ev_cmp, ev_chain, ev_not, ev_and, ev_or, ev_ite, ev_tup, ev_lst, ev_frz, ev_ix, ev_sl, ev_bi, ev_isi, ev_lr, ev_call, ev_mth, evs_nil, evs_cons, evO_none, evO_some, evT_none, evT_some, evI_seq, evI_r1, evI_enum, evI_zip, List.map_cons, List.map_nil, List.cons_append, List.nil_append, List.replicate, getVar, List.getElem?_cons_zero, List.getElem?_cons_succ, lift_some', bnd_ret, bnd_assoc, look_some', tB, tI, hO, frz_d, frz_f, its_fresh, storeTop, storeAt, setAt, List.length_cons, List.length_nil, List.set_cons_zero, List.set_cons_succ, Nat.reduceLT, Nat.reduceAdd, Nat.reduceSub, if_true, if_false, Bool.false_eq_true, permute, hvs?, datas?, chk_true, decide_eq_true q, pc (lsub_run (k + 7) (sx x hxx) sl) rfl rfl]
        · simp only [exs_nil, exs_cons, ex_asg, ex_par, ex_expr, ex_ret, ex_ite, ev_var, ev_lit, ev_glob, ev_bin, ev_neg, ev_cmp, ev_chain, ev_not, ev_and, ev_or, ev_ite, ev_tup, ev_lst, ev_frz, ev_ix, ev_sl, ev_bi, ev_isi, ev_lr, ev_call, ev_mth, evs_nil, evs_cons, evO_none, evO_some, evT_none, evT_some, evI_seq, evI_r1, evI_enum, evI_zip, List.map_cons, List.map_nil, List.cons_append, List.nil_append, List.replicate, getVar, List.getElem?_cons_zero, List.getElem?_cons_succ, lift_some', bnd_ret, bnd_assoc, look_some', tB, tI, hO, frz_d, frz_f, its_fresh, storeTop, storeAt, setAt, List.length_cons, List.length_nil, List.set_cons_zero, List.set_cons_succ, Nat.reduceLT, Nat.reduceAdd, Nat.reduceSub, if_true, if_false, Bool.false_eq_true, permute, hvs?, datas?, chk_true, decide_eq_false q]) (by omega)]
      have e : ((((cR as).filter fun x => decide (((a : Int) : Rat) - num < x)).map fun x => x - (((a : Int) : Rat) - num))).sum = lstv .l (cR as) ((a : Int) : Rat) num := by
        rw [filter_sum]
        unfold lstv
        dsimp only
        rw [if_neg q]
      have lt := ltot (((cR as).filter fun x => decide (((a : Int) : Rat) - num < x)).map fun x => x - (((a : Int) : Rat) - num)) (fun y hy => by
        obtain ⟨x, hx2, rfl⟩ := List.mem_map.mp hy
        obtain ⟨hx3, hx4⟩ := List.mem_filter.mp hx2
        have := hel x hx3
        have hx5 := of_decide_eq_true hx4
        exact ⟨this.1.sub nl (by grind) (by grind), by grind⟩) (by
        rw [e]
        have := fd.2.2
        grind)
      rw [e] at lt
      simp only [exs_nil, exs_cons, ex_asg, ex_par, ex_expr, ex_ret, ex_ite, ev_var, ev_lit, ev_glob, ev_bin, ev_neg, ev_cmp, ev_chain, ev_not, ev_and, ev_or, ev_ite, ev_tup, ev_lst, ev_frz, ev_ix, ev_sl, ev_bi, ev_isi, ev_lr, ev_call, ev_mth, evs_nil, evs_cons, evO_none, evO_some, evT_none, evT_some, evI_seq, evI_r1, evI_enum, evI_zip, List.map_cons, List.map_nil, List.cons_append, List.nil_append, List.replicate, getVar, List.getElem?_cons_zero, List.getElem?_cons_succ, lift_some', bnd_ret, bnd_assoc, look_some', tB, tI, hO, frz_d, frz_f, its_fresh, storeTop, storeAt, setAt, List.length_cons, List.length_nil, List.set_cons_zero, List.set_cons_succ, Nat.reduceLT, Nat.reduceAdd, Nat.reduceSub, if_true, if_false, Bool.false_eq_true, permute, hvs?, datas?, chk_true, frz_run, map_rq ((cR as).filter fun x => decide (((a : Int) : Rat) - num < x)) (fun x => x - (((a : Int) : Rat) - num)), lt]) ?_
  -- both rules
  obtain ⟨env', ⟨u1, u2, u3, u4, rfl⟩, el⟩ := ex_for_fold (C := callN prog (k + 9)) (t := .tup [(.name 9), (.name 10)]) (it := .seq (.tup [(.tup [(.lit (.str "awards")), (.var 4)]), (.tup [(.lit (.str "losses")), (.var 6)])])) (b := [.ite (.cmp .ne (.bi .repr [(.lst [(.frz (.call "least_amount" true [0, 1, 2, 3] [(.var 9), (.var 1), (.var 7), (.var 2)])), (.frz (.call "least_amount" true [3, 2, 1, 0] [(.var 2), (.var 7), (.var 1), (.var 9)]))])]) (.bi .repr [(.lst [(.var 10), (.var 10)])])) [.ret (.lit (.bool false))] [], .ite (.or (.call "_law_lt" true [0, 1] [(.var 8), (.var 10)]) (.call "_law_lt" true [0, 1] [(.ix (.call "shared" true [0, 1, 2] [(.var 9), (.var 1), (.var 10)]) (.var 7)), (.var 2)])) [.ret (.lit (.bool false))] [], .for_ (.name 11) (.seq (.tup [(.frz (.call "_law_mul" true [0, 1] [(.var 10), (.frz (.call "_law_made" true [0, 1] [(.lit (.int 999)), (.lit (.int 1000))]))])), (.frz (.call "_law_div" true [0, 1] [(.var 10), (.tup [(.lit (.int 2)), (.lit (.int 1))])]))])) [.ite (.and (.cmp .gt (.ix (.var 10) (.lit (.int 0))) (.lit (.int 0))) (.not (.call "_law_lt" true [0, 1] [(.ix (.call "shared" true [0, 1, 2] [(.var 9), (.var 1), (.var 11)]) (.var 7)), (.var 2)]))) [.ret (.lit (.bool false))] []]])
    (env := [some (.ref n), some (.d (T as)), some (.d (rq num)), some (.d (.list ((cR as).map rq))), some (.d (rq (lstv .a (cR as) ((a : Int) : Rat) num))), some (.d (rq (((a : Int) : Rat) - num))), some (.d (rq (lstv .l (cR as) ((a : Int) : Rat) num))), some (I (i : Nat)), some (.d (rq (cR as).sum)), none, none, none, none])
    (fun (_ : Unit) env => ∃ u1 u2 u3 u4, env = [some (.ref n), some (.d (T as)), some (.d (rq num)), some (.d (.list ((cR as).map rq))), some (.d (rq (lstv .a (cR as) ((a : Int) : Rat) num))), some (.d (rq (((a : Int) : Rat) - num))), some (.d (rq (lstv .l (cR as) ((a : Int) : Rat) num))), some (I (i : Nat)), some (.d (rq (cR as).sum)), u1, u2, u3, u4])
    (fun r : Ru => .d (.tuple [.str r.name, rq (lstv r (cR as) ((a : Int) : Rat) num)])) (fun s _ => s) [Ru.a, Ru.l] (seq2 _ _ _ _ _ _ _ _ _ _ _ _ _ _) () ⟨_, _, _, _, rfl⟩ (fun r hrm _ env ⟨u1, u2, u3, u4, he⟩ => by
      subst he
      have hr : r = .a ∨ r = .l := by
        simp only [List.mem_cons, List.not_mem_nil, or_false] at hrm
        exact hrm
      obtain ⟨f1, f2, f3⟩ := lstv_facts r hr hx
      have hla := leastamount_run r hr (k + 3) 6 hx
      have hla2 := due_enough r hr hx
      have hla3 := fun le => less_not (le := le) r hr hx
      have hnotr : ∀ rr : Ru, (rr = .a ∨ rr = .l) → True := fun _ _ => trivial
      generalize lstv r (cR as) ((a : Int) : Rat) num = due at *
      have sd := f1.sm (by decide) (by decide)
      have sS : Sm (cR as).sum := by
        obtain ⟨N, hN, _, hN2⟩ := whole_sum ax
        rw [hN]
        exact (nb_nat (D := 1) (by omega)).sm (by decide) (by decide)
      have xd : Sx 6 as due := ⟨ax, by decide, by decide, by decide, f1, f2, f3⟩
      have s2 := sh2 (sh_rq sd) (sh_rq sd)
      have ixF : ∀ (le : Rat) (hp : Hp), ixV hp (.fresh ((cR as).map fun x => .d (rq (phi r (cR as) le x)))) (i : Nat) = some (rD (rq (phi r (cR as) le ((a : Int) : Rat)))) := fun le hp => by
        simp only [ixV, getAny, getSeq, getLst, List.length_map, place, Int.natCast_nonneg, if_true, List.getElem?_map]
        rw [if_pos (by omega)]
        simp only [Int.toNat_natCast, hx.ci, Option.map_some]
      have hmem : ((a : Int) : Rat) ∈ cR as := List.mem_map.mpr ⟨a, hx.am, rfl⟩
      obtain ⟨N, hN, hN1, hN2⟩ := whole_sum ax
      have sphi : ∀ (D : Nat) (le : Rat), D < 2 ^ 38 → Sx D as le → Sm (phi r (cR as) le ((a : Int) : Rat)) := fun D le hD hs => (phi_nb r hs hN hN1 hmem).sm (Nat.mul_pos (Nat.mul_pos hs.D0 (by decide)) hN1) (by
        have : D * 840 * N ≤ D * 840 * 792 := Nat.mul_le_mul_left _ hN2
        omega)
      have xs2 : Sx 12000 as (due * Rat.divInt 999 (1000 : Nat)) ∧ (0 < due → due * Rat.divInt 999 (1000 : Nat) < due) := by
        obtain ⟨b1, b2, b3⟩ := nb_div (D := 1000) (q := 1000) (p := 999) (by decide) (by decide) (by omega) (by omega)
        have e7 : ((1000 : Nat) : Rat) = 1000 := rfl
        have e8 : ((999 : Int) : Rat) = 999 := rfl
        rw [e7, e8] at b3
        generalize Rat.divInt 999 (1000 : Nat) = f at *
        have hf : f = 999 / 1000 := by grind
        subst hf
        have := f1.times b1 (by grind) (by grind)
        exact ⟨⟨ax, by decide, by decide, by decide, this.dvd (by decide), by grind, by grind⟩, fun _ => by grind⟩
      have xs3 : Sx 12000 as (due / ((2 : Int) : Rat)) ∧ (0 < due → due / ((2 : Int) : Rat) < due) := by
        have e2 : ((2 : Int) : Rat) = ((2 : Nat) : Rat) := rfl
        have e3 : ((2 : Nat) : Rat) = 2 := rfl
        rw [e2]
        have := Nb.over (n := 2) (by decide) f1 (by rw [e3]; grind) (by rw [e3]; grind)
        refine ⟨⟨ax, by decide, by decide, by decide, this.dvd (by decide), ?_, ?_⟩, fun _ => ?_⟩ <;> rw [e3] <;> grind
      have m999 : runCall (callN prog (k + 9)) "_law_made" true [I 999, I 1000] = Ev.ret (rD (rq (Rat.divInt 999 (1000 : Nat)))) := pc (lmade_run (k + 8) 999 (1000 : Nat) (by decide) (Nat.lt_of_lt_of_le (show (999 : Int).natAbs < 2 ^ 20 by decide) (Nat.pow_le_pow_right (by decide) (by decide))) (by decide)) rfl rfl
      have s999 : Sm (Rat.divInt 999 (1000 : Nat)) := (nb_div (D := 1000) (q := 1000) (p := 999) (by decide) (by decide) (by omega) (by omega)).1.sm (by decide) (by decide)
      have two : HV.d (.tuple [.int 2, .int 1]) = .d (rq ((2 : Int) : Rat)) := by rw [rq_int]
      obtain ⟨env2, ⟨w, rfl⟩, e2⟩ := ex_for_fold (C := callN prog (k + 9)) (t := .name 11) (it := .seq (.tup [(.frz (.call "_law_mul" true [0, 1] [(.var 10), (.frz (.call "_law_made" true [0, 1] [(.lit (.int 999)), (.lit (.int 1000))]))])), (.frz (.call "_law_div" true [0, 1] [(.var 10), (.tup [(.lit (.int 2)), (.lit (.int 1))])]))])) (b := [.ite (.and (.cmp .gt (.ix (.var 10) (.lit (.int 0))) (.lit (.int 0))) (.not (.call "_law_lt" true [0, 1] [(.ix (.call "shared" true [0, 1, 2] [(.var 9), (.var 1), (.var 11)]) (.var 7)), (.var 2)]))) [.ret (.lit (.bool false))] []])
        (env := [some (.ref n), some (.d (T as)), some (.d (rq num)), some (.d (.list ((cR as).map rq))), some (.d (rq (lstv .a (cR as) ((a : Int) : Rat) num))), some (.d (rq (((a : Int) : Rat) - num))), some (.d (rq (lstv .l (cR as) ((a : Int) : Rat) num))), some (I (i : Nat)), some (.d (rq (cR as).sum)), some (.d (.str r.name)), some (.d (rq due)), u3, u4])
        (fun (_ : Unit) env => ∃ w, env = [some (.ref n), some (.d (T as)), some (.d (rq num)), some (.d (.list ((cR as).map rq))), some (.d (rq (lstv .a (cR as) ((a : Int) : Rat) num))), some (.d (rq (((a : Int) : Rat) - num))), some (.d (rq (lstv .l (cR as) ((a : Int) : Rat) num))), some (I (i : Nat)), some (.d (rq (cR as).sum)), some (.d (.str r.name)), some (.d (rq due)), w, u4])
        (fun x => .d (rq x)) (fun s _ => s) [due * Rat.divInt 999 (1000 : Nat), due / ((2 : Int) : Rat)] (less2 m999 (pc (lmul_run (k + 7) sd s999) rfl rfl) (pc (ldiv_run (k + 7) sd (sm_int (m := 2) (by decide)) (by decide +kernel)) rfl rfl) _ _ _ _ _ _ _ _ _ _ _ _) () ⟨_, rfl⟩ (fun le hle _ env ⟨w, he⟩ => by
          subst he
          have hle2 : Sx 12000 as le ∧ (0 < due → le < due) := by
            simp only [List.mem_cons, List.not_mem_nil, or_false] at hle
            rcases hle with rfl | rfl <;> assumption
          refine ⟨_, ⟨some (.d (rq le)), rfl⟩, ?_⟩
          simp only [exs_nil, exs_cons, ex_asg, ex_par, ex_expr, ex_ret, ex_ite, ev_var, ev_lit, ev_glob, ev_bin, ev_neg, ev_cmp, ev_chain, ev_not, ev_and, ev_or, ev_ite, ev_tup, ev_lst, ev_frz, ev_ix, ev_sl, ev_bi, ev_isi, ev_lr, ev_call, ev_mth, evs_nil, evs_cons, evO_none, evO_some, evT_none, evT_some, evI_seq, evI_r1, evI_enum, evI_zip, List.map_cons, List.map_nil, List.cons_append, List.nil_append, List.replicate, getVar, List.getElem?_cons_zero, List.getElem?_cons_succ, lift_some', bnd_ret, bnd_assoc, look_some', tB, tI, hO, frz_d, frz_f, its_fresh, storeTop, storeAt, setAt, List.length_cons, List.length_nil, List.set_cons_zero, List.set_cons_succ, Nat.reduceLT, Nat.reduceAdd, Nat.reduceSub, if_true, if_false, Bool.false_eq_true, permute, hvs?, datas?, chk_true, store_name, rq0, cmp_gt, num_pos_iff]
          by_cases q : 0 < due
          · simp only [exs_nil, exs_cons, ex_asg, ex_par, ex_expr, ex_ret, ex_ite, ev_var, ev_lit, ev_glob, ev_bin, ev_neg, ev_cmp, ev_chain, ev_not, ev_and, ev_or, ev_ite, ev_tup, ev_lst, ev_frz, ev_ix, ev_sl, ev_bi, ev_isi, ev_lr, ev_call, ev_mth, evs_nil, evs_cons, evO_none, evO_some, evT_none, evT_some, evI_seq, evI_r1, evI_enum, evI_zip, List.map_cons, List.map_nil, List.cons_append, List.nil_append, List.replicate, getVar, List.getElem?_cons_zero, List.getElem?_cons_succ, lift_some', bnd_ret, bnd_assoc, look_some', tB, tI, hO, frz_d, frz_f, its_fresh, storeTop, storeAt, setAt, List.length_cons, List.length_nil, List.set_cons_zero, List.set_cons_succ, Nat.reduceLT, Nat.reduceAdd, Nat.reduceSub, if_true, if_false, Bool.false_eq_true, permute, hvs?, datas?, chk_true, decide_eq_true q, pc (shared_run r (k + 1) 12000 hle2.1) rfl (outOk_map _ _), ixF, pc (llt_run (k + 8) (sphi 12000 le (by decide) hle2.1) sn) rfl rfl, decide_eq_true (hla3 le hle2.1.ok (hle2.2 q)), Bool.not_true]
          · simp only [exs_nil, exs_cons, ex_asg, ex_par, ex_expr, ex_ret, ex_ite, ev_var, ev_lit, ev_glob, ev_bin, ev_neg, ev_cmp, ev_chain, ev_not, ev_and, ev_or, ev_ite, ev_tup, ev_lst, ev_frz, ev_ix, ev_sl, ev_bi, ev_isi, ev_lr, ev_call, ev_mth, evs_nil, evs_cons, evO_none, evO_some, evT_none, evT_some, evI_seq, evI_r1, evI_enum, evI_zip, List.map_cons, List.map_nil, List.cons_append, List.nil_append, List.replicate, getVar, List.getElem?_cons_zero, List.getElem?_cons_succ, lift_some', bnd_ret, bnd_assoc, look_some', tB, tI, hO, frz_d, frz_f, its_fresh, storeTop, storeAt, setAt, List.length_cons, List.length_nil, List.set_cons_zero, List.set_cons_succ, Nat.reduceLT, Nat.reduceAdd, Nat.reduceSub, if_true, if_false, Bool.false_eq_true, permute, hvs?, datas?, chk_true, decide_eq_false q])
      refine ⟨_, ⟨some (.d (.str r.name)), some (.d (rq due)), w, u4, rfl⟩, ?_⟩
      simp only [exs_nil, exs_cons, ex_asg, ex_par, ex_expr, ex_ret, ex_ite, ev_var, ev_lit, ev_glob, ev_bin, ev_neg, ev_cmp, ev_chain, ev_not, ev_and, ev_or, ev_ite, ev_tup, ev_lst, ev_frz, ev_ix, ev_sl, ev_bi, ev_isi, ev_lr, ev_call, ev_mth, evs_nil, evs_cons, evO_none, evO_some, evT_none, evT_some, evI_seq, evI_r1, evI_enum, evI_zip, List.map_cons, List.map_nil, List.cons_append, List.nil_append, List.replicate, getVar, List.getElem?_cons_zero, List.getElem?_cons_succ, lift_some', bnd_ret, bnd_assoc, look_some', tB, tI, hO, frz_d, frz_f, its_fresh, storeTop, storeAt, setAt, List.length_cons, List.length_nil, List.set_cons_zero, List.set_cons_succ, Nat.reduceLT, Nat.reduceAdd, Nat.reduceSub, if_true, if_false, Bool.false_eq_true, permute, hvs?, datas?, chk_true, store2, pc hla rfl rfl, lk2, repr_2 (s2.ok (by decide) (by decide)), ne_same s2.so, pc (llt_run (k + 8) sS sd) rfl rfl, decide_eq_false (Rat.not_lt.mpr f3), pc (shared_run r (k + 1) 6 xd) rfl (outOk_map _ _), ixF, pc (llt_run (k + 8) (sphi 6 due (by decide) xd) sn) rfl rfl, decide_eq_false (Rat.not_lt.mpr (hla2 xd.ok)), e2])
  refine Ends.pure el ?_
  exact Ends.ret (by simp only [exs_nil, exs_cons, ex_asg, ex_par, ex_expr, ex_ret, ex_ite, ev_var, ev_lit, ev_glob, ev_bin, ev_neg, ev_cmp, ev_chain, ev_not, ev_and, ev_or, ev_ite, ev_tup, ev_lst, ev_frz, ev_ix, ev_sl, ev_bi, ev_isi, ev_lr, ev_call, ev_mth, evs_nil, evs_cons, evO_none, evO_some, evT_none, evT_some, evI_seq, evI_r1, evI_enum, evI_zip, List.map_cons, List.map_nil, List.cons_append, List.nil_append, List.replicate, getVar, List.getElem?_cons_zero, List.getElem?_cons_succ, lift_some', bnd_ret, bnd_assoc, look_some', tB, tI, hO, frz_d, frz_f, its_fresh, storeTop, storeAt, setAt, List.length_cons, List.length_nil, List.set_cons_zero, List.set_cons_succ, Nat.reduceLT, Nat.reduceAdd, Nat.reduceSub, if_true, if_false, Bool.false_eq_true, permute, hvs?, datas?, chk_true]) hp3
end Lw

set_option linter.all false
set_option Elab.async false
set_option maxRecDepth 100000
set_option maxHeartbeats 1000000
/-! N11: pairs by own sums; one row. -/
namespace Lw
open PySem Ev
theorem loopS_map {σ δ ε : Type} (step : σ → ε → σ ⊕ RV) (f : δ → ε) : ∀ (xs : List δ) (s : σ), loopS step s (xs.map f) = loopS (fun s x => step s (f x)) s xs
  | [], _ => rfl
  | x :: xs, s => by
    rw [List.map_cons, loopS, loopS]
    cases step s (f x) with
    | inl s' => exact loopS_map step f xs s'
    | inr v => rfl
theorem zip_snd {α : Type} (l : List α) : l.zipIdx.map Prod.snd = List.range l.length := by
  rw [List.zipIdx_map_snd, List.range_eq_range']
theorem lpairout_run (n D : Nat) {as : List Int} {W : PyData} {ws : List Rat} (hW : Wq W ws) (px : Px D as ws) : callN prog (n + 4) "_law_pair_out" [.d (T as), .d W] = Ev.ret (rD (outD (PP (cR as) ws) as.length)) := by
  have hl8 := px.ax.l8
  have D1 := px.D1
  refine call_gives (f := f__law_pair_out) (by rfl) rfl ?_
  unfold f__law_pair_out
  obtain ⟨env', e, r⟩ := ex_for_loop (C := callN prog (n + 3)) (t := .tup [(.name 2), (.name 3)]) (it := .enum (.var 0)) (b := [.for_ (.name 4) (.range2 (.bin .add (.var 2) (.lit (.int 1))) (.bi .len [(.var 0)])) [.ite (.cmp .ne (.call "_law_garment" true [0, 1, 2] [(.var 3), (.ix (.var 0) (.var 4)), (.frz (.call "_law_add" true [0, 1] [(.ix (.var 1) (.var 2)), (.ix (.var 1) (.var 4))]))]) (.tup [(.ix (.var 1) (.var 2)), (.ix (.var 1) (.var 4))])) [.ret (.tup [(.var 2), (.var 4)])] []]])
    (env := [some (.d (T as)), some (.d W), none, none, none]) (fun (_ : Unit) env => ∃ p q r, env = [some (.d (T as)), some (.d W), p, q, r]) (fun p : Int × Nat => .d (.tuple [.int p.2, .int p.1])) (fun _ p => outI (PP (cR as) ws) as.length p.2) as.zipIdx (by
      have e : ∀ h, seqData h (rD (T as)) = some (as.map .int) := fun h => seqD_tup as .int h
      simp only [exs_nil, exs_cons, ex_asg, ex_par, ex_expr, ex_ret, ex_ite, ev_var, ev_lit, ev_glob, ev_bin, ev_neg, ev_cmp, ev_chain, ev_not, ev_and, ev_or, ev_ite, ev_tup, ev_lst, ev_frz, ev_ix, ev_sl, ev_bi, ev_isi, ev_lr, ev_call, ev_mth, evs_nil, evs_cons, evO_none, evO_some, evT_none, evT_some, evI_seq, evI_r1, evI_enum, evI_zip, List.map_cons, List.map_nil, List.cons_append, List.nil_append, List.replicate, getVar, List.getElem?_cons_zero, List.getElem?_cons_succ, lift_some', bnd_ret, bnd_assoc, look_some', tB, tI, hO, frz_d, frz_f, its_fresh, storeTop, storeAt, setAt, List.length_cons, List.length_nil, List.set_cons_zero, List.set_cons_succ, Nat.reduceLT, Nat.reduceAdd, Nat.reduceSub, if_true, if_false, Bool.false_eq_true, permute, hvs?, datas?, chk_true, e, enum_map]) () ⟨_, _, _, rfl⟩ (fun p hp _ env ⟨p1, q1, r1, he⟩ => by
      obtain ⟨a, i⟩ := p
      subst he
      obtain ⟨_, hi, ha⟩ := List.mem_zipIdx hp
      have hi : i < as.length := by omega
      have hai : as[i]? = some a := by
        rw [List.getElem?_eq_getElem hi, ha]
        congr 1
      have hra := px.ax.rg a (List.mem_of_getElem? hai)
      have hca : (cR as).getD i 0 = ((a : Int) : Rat) := by
        rw [List.getD_eq_getElem?_getD]
        unfold cR
        rw [List.getElem?_map, hai]
        rfl
      obtain ⟨env', e, r⟩ := ex_for_loop (C := callN prog (n + 3)) (t := .name 4) (it := .range2 (.bin .add (.var 2) (.lit (.int 1))) (.bi .len [(.var 0)])) (b := [.ite (.cmp .ne (.call "_law_garment" true [0, 1, 2] [(.var 3), (.ix (.var 0) (.var 4)), (.frz (.call "_law_add" true [0, 1] [(.ix (.var 1) (.var 2)), (.ix (.var 1) (.var 4))]))]) (.tup [(.ix (.var 1) (.var 2)), (.ix (.var 1) (.var 4))])) [.ret (.tup [(.var 2), (.var 4)])] []])
        (env := [some (.d (T as)), some (.d W), some (I (i : Nat)), some (I a), r1]) (fun (_ : Unit) env => ∃ r, env = [some (.d (T as)), some (.d W), some (I (i : Nat)), some (I a), r]) (fun k => I (((i : Nat) : Int) + 1 + (k : Nat)))
        (fun _ k => if PP (cR as) ws i (i + 1 + k) then .inl () else .inr (rD (.tuple [.int (i : Nat), .int ((i + 1 + k : Nat) : Int)]))) (List.range (as.length - (i + 1)))
        (by
          have := evI_r2 (C := callN prog (n + 3)) (env := [some (.d (T as)), some (.d W), some (I (i : Nat)), some (I a), r1]) (a := .bin .add (.var 2) (.lit (.int 1))) (b := .bi .len [(.var 0)]) (m := (i : Int) + 1) (n := (as.length : Nat)) (by simp only [exs_nil, exs_cons, ex_asg, ex_par, ex_expr, ex_ret, ex_ite, ev_var, ev_lit, ev_glob, ev_bin, ev_neg, ev_cmp, ev_chain, ev_not, ev_and, ev_or, ev_ite, ev_tup, ev_lst, ev_frz, ev_ix, ev_sl, ev_bi, ev_isi, ev_lr, ev_call, ev_mth, evs_nil, evs_cons, evO_none, evO_some, evT_none, evT_some, evI_seq, evI_r1, evI_enum, evI_zip, List.map_cons, List.map_nil, List.cons_append, List.nil_append, List.replicate, getVar, List.getElem?_cons_zero, List.getElem?_cons_succ, lift_some', bnd_ret, bnd_assoc, look_some', tB, tI, hO, frz_d, frz_f, its_fresh, storeTop, storeAt, setAt, List.length_cons, List.length_nil, List.set_cons_zero, List.set_cons_succ, Nat.reduceLT, Nat.reduceAdd, Nat.reduceSub, if_true, if_false, Bool.false_eq_true, permute, hvs?, datas?, chk_true, bin_addI]) (by simp only [exs_nil, exs_cons, ex_asg, ex_par, ex_expr, ex_ret, ex_ite, ev_var, ev_lit, ev_glob, ev_bin, ev_neg, ev_cmp, ev_chain, ev_not, ev_and, ev_or, ev_ite, ev_tup, ev_lst, ev_frz, ev_ix, ev_sl, ev_bi, ev_isi, ev_lr, ev_call, ev_mth, evs_nil, evs_cons, evO_none, evO_some, evT_none, evT_some, evI_seq, evI_r1, evI_enum, evI_zip, List.map_cons, List.map_nil, List.cons_append, List.nil_append, List.replicate, getVar, List.getElem?_cons_zero, List.getElem?_cons_succ, lift_some', bnd_ret, bnd_assoc, look_some', tB, tI, hO, frz_d, frz_f, its_fresh, storeTop, storeAt, setAt, List.length_cons, List.length_nil, List.set_cons_zero, List.set_cons_succ, Nat.reduceLT, Nat.reduceAdd, Nat.reduceSub, if_true, if_false, Bool.false_eq_true, permute, hvs?, datas?, chk_true, len_T]) (by omega) (by omega)
          rw [this, show ((as.length : Nat) - ((i : Int) + 1)).toNat = as.length - (i + 1) by omega]) () ⟨_, rfl⟩ (fun k hk _ env ⟨r, he⟩ => by
          have hk := List.mem_range.mp hk
          subst he
          have ej : ((i : Nat) : Int) + 1 + (k : Nat) = ((i + 1 + k : Nat) : Int) := by omega
          rw [ej]
          have hj : i + 1 + k < as.length := by omega
          generalize hjj : i + 1 + k = j at *
          refine ⟨[some (.d (T as)), some (.d W), some (I (i : Nat)), some (I a), some (I (j : Nat))], ?_, fun _ _ => ⟨_, rfl⟩⟩
          have hbj := getI_mem hj
          have hrb := px.ax.rg _ hbj.2
          have hcb : (cR as).getD j 0 = ((as.getD j 0 : Int) : Rat) := by
            rw [List.getD_eq_getElem?_getD]
            unfold cR
            rw [List.getElem?_map, hbj.1]
            rfl
          have g := px.gx hi hj
          have x3 := fun hp => hW.ix hp i _ (getD_some (by rw [px.len]; exact hi))
          have x4 := fun hp => hW.ix hp j _ (getD_some (by rw [px.len]; exact hj))
          have s1 := (px.nb _ (getD_mem (ws := ws) (i := i) (by rw [px.len]; exact hi))).1.sm px.D0 (by omega)
          have s2 := (px.nb _ (getD_mem (ws := ws) (i := j) (by rw [px.len]; exact hj))).1.sm px.D0 (by omega)
          unfold PP
          rw [hca, hcb] at g ⊢
          simp only [exs_nil, exs_cons, ex_asg, ex_par, ex_expr, ex_ret, ex_ite, ev_var, ev_lit, ev_glob, ev_bin, ev_neg, ev_cmp, ev_chain, ev_not, ev_and, ev_or, ev_ite, ev_tup, ev_lst, ev_frz, ev_ix, ev_sl, ev_bi, ev_isi, ev_lr, ev_call, ev_mth, evs_nil, evs_cons, evO_none, evO_some, evT_none, evT_some, evI_seq, evI_r1, evI_enum, evI_zip, List.map_cons, List.map_nil, List.cons_append, List.nil_append, List.replicate, getVar, List.getElem?_cons_zero, List.getElem?_cons_succ, lift_some', bnd_ret, bnd_assoc, look_some', tB, tI, hO, frz_d, frz_f, its_fresh, storeTop, storeAt, setAt, List.length_cons, List.length_nil, List.set_cons_zero, List.set_cons_succ, Nat.reduceLT, Nat.reduceAdd, Nat.reduceSub, if_true, if_false, Bool.false_eq_true, permute, hvs?, datas?, chk_true, store_name, ixT hbj.1, x3, x4, pc (ladd_run (n + 1) s1 s2) rfl rfl, pc (lgarment_run n D g (by omega) (by omega)) rfl rfl, lk2, pair_ne]
          by_cases q : cg1 ((a : Int) : Rat) ((as.getD j 0 : Int) : Rat) (ws.getD i 0 + ws.getD j 0) = ws.getD i 0 ∧ cg2 ((a : Int) : Rat) ((as.getD j 0 : Int) : Rat) (ws.getD i 0 + ws.getD j 0) = ws.getD j 0
          · simp only [exs_nil, exs_cons, ex_asg, ex_par, ex_expr, ex_ret, ex_ite, ev_var, ev_lit, ev_glob, ev_bin, ev_neg, ev_cmp, ev_chain, ev_not, ev_and, ev_or, ev_ite, ev_tup, ev_lst, ev_frz, ev_ix, ev_sl, ev_bi, ev_isi, ev_lr, ev_call, ev_mth, evs_nil, evs_cons, evO_none, evO_some, evT_none, evT_some, evI_seq, evI_r1, evI_enum, evI_zip, List.map_cons, List.map_nil, List.cons_append, List.nil_append, List.replicate, getVar, List.getElem?_cons_zero, List.getElem?_cons_succ, lift_some', bnd_ret, bnd_assoc, look_some', tB, tI, hO, frz_d, frz_f, its_fresh, storeTop, storeAt, setAt, List.length_cons, List.length_nil, List.set_cons_zero, List.set_cons_succ, Nat.reduceLT, Nat.reduceAdd, Nat.reduceSub, if_true, if_false, Bool.false_eq_true, permute, hvs?, datas?, chk_true, decide_eq_true q, Bool.not_true]
            rfl
          · simp only [exs_nil, exs_cons, ex_asg, ex_par, ex_expr, ex_ret, ex_ite, ev_var, ev_lit, ev_glob, ev_bin, ev_neg, ev_cmp, ev_chain, ev_not, ev_and, ev_or, ev_ite, ev_tup, ev_lst, ev_frz, ev_ix, ev_sl, ev_bi, ev_isi, ev_lr, ev_call, ev_mth, evs_nil, evs_cons, evO_none, evO_some, evT_none, evT_some, evI_seq, evI_r1, evI_enum, evI_zip, List.map_cons, List.map_nil, List.cons_append, List.nil_append, List.replicate, getVar, List.getElem?_cons_zero, List.getElem?_cons_succ, lift_some', bnd_ret, bnd_assoc, look_some', tB, tI, hO, frz_d, frz_f, its_fresh, storeTop, storeAt, setAt, List.length_cons, List.length_nil, List.set_cons_zero, List.set_cons_succ, Nat.reduceLT, Nat.reduceAdd, Nat.reduceSub, if_true, if_false, Bool.false_eq_true, permute, hvs?, datas?, chk_true, decide_eq_false q, Bool.not_false, lk2]
            rfl)
      refine ⟨env', ?_, fun s' es => ?_⟩
      · simp only [exs_nil, exs_cons, ex_asg, ex_par, ex_expr, ex_ret, ex_ite, ev_var, ev_lit, ev_glob, ev_bin, ev_neg, ev_cmp, ev_chain, ev_not, ev_and, ev_or, ev_ite, ev_tup, ev_lst, ev_frz, ev_ix, ev_sl, ev_bi, ev_isi, ev_lr, ev_call, ev_mth, evs_nil, evs_cons, evO_none, evO_some, evT_none, evT_some, evI_seq, evI_r1, evI_enum, evI_zip, List.map_cons, List.map_nil, List.cons_append, List.nil_append, List.replicate, getVar, List.getElem?_cons_zero, List.getElem?_cons_succ, lift_some', bnd_ret, bnd_assoc, look_some', tB, tI, hO, frz_d, frz_f, its_fresh, storeTop, storeAt, setAt, List.length_cons, List.length_nil, List.set_cons_zero, List.set_cons_succ, Nat.reduceLT, Nat.reduceAdd, Nat.reduceSub, if_true, if_false, Bool.false_eq_true, permute, hvs?, datas?, chk_true, store2]
        rw [e, bnd_ret]
        unfold outI
        generalize loopS _ _ _ = o
        cases o <;> rfl
      · obtain ⟨q', hq⟩ := r s' es
        exact ⟨_, _, _, hq⟩)
  have hz : loopS (fun (_ : Unit) (p : Int × Nat) => outI (PP (cR as) ws) as.length p.2) () as.zipIdx = outS (PP (cR as) ws) as.length := by
    unfold outS
    rw [← zip_snd as, loopS_map]
  rw [hz] at e r
  rcases outS_cases (PP (cR as) ws) as.length with ⟨h1, _⟩ | ⟨i, j, _, _, _, h1⟩
  · have ed : outD (PP (cR as) ws) as.length = .none := by
      unfold outD
      rw [h1]
    rw [ed]
    obtain ⟨p, q, r, rfl⟩ := r () h1
    exact Gives.loopL e h1 (Gives.ret (by simp only [exs_nil, exs_cons, ex_asg, ex_par, ex_expr, ex_ret, ex_ite, ev_var, ev_lit, ev_glob, ev_bin, ev_neg, ev_cmp, ev_chain, ev_not, ev_and, ev_or, ev_ite, ev_tup, ev_lst, ev_frz, ev_ix, ev_sl, ev_bi, ev_isi, ev_lr, ev_call, ev_mth, evs_nil, evs_cons, evO_none, evO_some, evT_none, evT_some, evI_seq, evI_r1, evI_enum, evI_zip, List.map_cons, List.map_nil, List.cons_append, List.nil_append, List.replicate, getVar, List.getElem?_cons_zero, List.getElem?_cons_succ, lift_some', bnd_ret, bnd_assoc, look_some', tB, tI, hO, frz_d, frz_f, its_fresh, storeTop, storeAt, setAt, List.length_cons, List.length_nil, List.set_cons_zero, List.set_cons_succ, Nat.reduceLT, Nat.reduceAdd, Nat.reduceSub, if_true, if_false, Bool.false_eq_true, permute, hvs?, datas?, chk_true]))
  · have ed : outD (PP (cR as) ws) as.length = .tuple [.int (i : Nat), .int (j : Nat)] := by
      unfold outD
      rw [h1]
    rw [ed]
    exact Gives.loopR e h1
/-- nobody is out just of garment awards -/
theorem out_iff {D F : Nat} {as : List Int} {E : Rat} (h : Sx D as E) {ws : List Rat} (a : Aw F as E ws) : (outD (PP (cR as) ws) as.length = .none ∧ ws = shr .g (cR as) E) ∨ (∃ i j : Nat, i < 100 ∧ j < 100 ∧ outD (PP (cR as) ws) as.length = .tuple [.int (i : Nat), .int (j : Nat)] ∧ ws ≠ shr .g (cR as) E) := by
  have hlen := cR_len as
  have hl8 := h.ax.l8
  have hwl := a.len
  rcases outS_cases (PP (cR as) ws) as.length with ⟨h1, h2⟩ | ⟨i, j, hij, hj, hf, h1⟩
  · left
    refine ⟨by
      unfold outD
      rw [h1], pairs_unique h.ok (by omega) a.sum fun i j x y u v hij hx hy hu hv => ?_⟩
    have hj : j < as.length := by
      have := (List.getElem?_eq_some_iff.mp hy).1
      omega
    have := h2 i j hij hj
    unfold PP at this
    have e1 : (cR as).getD i 0 = x := by rw [List.getD_eq_getElem?_getD, hx]; rfl
    have e2 : (cR as).getD j 0 = y := by rw [List.getD_eq_getElem?_getD, hy]; rfl
    have e3 : ws.getD i 0 = u := by rw [List.getD_eq_getElem?_getD, hu]; rfl
    have e4 : ws.getD j 0 = v := by rw [List.getD_eq_getElem?_getD, hv]; rfl
    rw [e1, e2, e3, e4] at this
    exact of_decide_eq_true this
  · right
    refine ⟨i, j, by omega, by omega, by
      unfold outD
      rw [h1], fun e => ?_⟩
    have hsl : (shr .g (cR as) E).length = as.length := by
      unfold shr
      rw [List.length_map, hlen]
    have key : ∀ k, k < as.length → ws.getD k 0 = phi .g (cR as) E ((cR as).getD k 0) := fun k hk => by
      rw [e]
      unfold shr
      rw [List.getD_eq_getElem?_getD, List.getD_eq_getElem?_getD, List.getElem?_map, List.getElem?_eq_getElem (by omega)]
      rfl
    have mi := getD_mem (ws := cR as) (i := i) (by omega)
    have mj := getD_mem (ws := cR as) (i := j) (by omega)
    have := pair_g h.ok mi mj
    unfold PP at hf
    rw [key i (by omega), key j hj] at hf
    exact absurd this (of_decide_eq_false hf)
theorem ne_bool (a b : Bool) (h : Hp) : cmpV h .ne (rD (.bool a)) (rD (.bool b)) = some (a != b) := by
  cases a <;> cases b <;> kernel_rfl
theorem is_none (d : PyData) (h : Hp) : cmpV h .is_ (rD d) (rD .none) = some (Ev.isNone (rD d)) := nr rfl
/-- one row of awards -/
theorem row_run (k n D F : Nat) {as : List Int} {E : Rat} (h : Sx 14 as E) (hD : D = 14) (hF : 0 < F) (hF2 : F < 2 ^ 60) {ws : List Rat} (a : Aw F as E ws) (px : Px F as ws) (e0 e3 e4 e5 e6 e7 e8 e9 e11 e12 : Option HV) :
    ∃ x, exs (callN prog (k + 9)) [.asg (.name 4) (.frz (.call "_law_pair_out" true [0, 1] [(.var 1), (.var 10)])), .ite (.cmp .ne (.bi .repr [(.lst [(.frz (.call "pair_out" true [0, 1, 2] [(.var 1), (.var 2), (.var 10)])), (.frz (.call "pair_out" true [2, 1, 0] [(.bi .tuple [(.var 10)]), (.var 2), (.var 1)]))])]) (.bi .repr [(.lst [(.var 4), (.var 4)])])) [.ret (.lit (.bool false))] [], .ite (.cmp .ne (.cmp .is_ (.var 4) (.lit .none)) (.cmp .eq (.var 10) (.call "shared" true [0, 1, 2] [(.lit (.str "garment")), (.var 1), (.var 2)]))) [.ret (.lit (.bool false))] []] [e0, some (.d (T as)), some (.d (rq E)), e3, e4, e5, e6, e7, e8, e9, some (.d (.list (ws.map rq))), e11, e12] = Ev.ret (.nx, [e0, some (.d (T as)), some (.d (rq E)), e3, x, e5, e6, e7, e8, e9, some (.d (.list (ws.map rq))), e11, e12]) := by
  have w1 := Wq.list ws
  have w2 := Wq.tuple ws
  have p0 := pc (lpairout_run (k + 5) F w1 px) rfl rfl
  have p1 := pc (pairout_run (k + 1) 14 F h hF hF2 w1 a px) rfl rfl
  have p2 := pc (pairout_run (k + 1) 14 F h hF hF2 w2 a px) rfl rfl
  have ht : ∀ hp, biV hp .tuple [rD (.list (ws.map rq))] = some (rD (.tuple (ws.map rq))) := fun hp => by
    simp only [biV, getSeq, getLst, allData_map]
  have hshg := pc (shared_run .g (k + 1) 14 h) rfl (outOk_map _ _)
  simp only [Ru.name] at hshg
  have hgd : ∀ hp, getDat hp (.fresh ((cR as).map fun x => .d (rq (phi .g (cR as) E x)))) = some (.list ((shr .g (cR as) E).map rq)) := fun hp => by
    have := dat_f (h := hp) (cR as) fun x => rq (phi .g (cR as) E x)
    rw [this]
    unfold shr
    rw [List.map_map]
    rfl
  have inj : ∀ {xs ys : List Rat}, xs.map rq = ys.map rq → xs = ys := fun {xs ys} e => List.map_inj_right (fun _ _ => rq_inj) |>.mp e
  rcases out_iff h a with ⟨o1, o2⟩ | ⟨i, j, hi, hj, o1, o2⟩
  · rw [o1] at p0 p1 p2
    have s2 := sh2 Sh.none Sh.none
    have eq : ∀ hp, cmpV hp .eq (rD (.list (ws.map rq))) (.fresh ((cR as).map fun x => .d (rq (phi .g (cR as) E x)))) = some true := fun hp => eq_is (dat_d _) (hgd hp) (it_rqs _) (it_rqs _) (by decide) (by rw [o2])
    refine ⟨some (.d .none), ?_⟩
    simp only [exs_nil, exs_cons, ex_asg, ex_par, ex_expr, ex_ret, ex_ite, ev_var, ev_lit, ev_glob, ev_bin, ev_neg, ev_cmp, ev_chain, ev_not, ev_and, ev_or, ev_ite, ev_tup, ev_lst, ev_frz, ev_ix, ev_sl, ev_bi, ev_isi, ev_lr, ev_call, ev_mth, evs_nil, evs_cons, evO_none, evO_some, evT_none, evT_some, evI_seq, evI_r1, evI_enum, evI_zip, List.map_cons, List.map_nil, List.cons_append, List.nil_append, List.replicate, getVar, List.getElem?_cons_zero, List.getElem?_cons_succ, lift_some', bnd_ret, bnd_assoc, look_some', tB, tI, hO, frz_d, frz_f, its_fresh, storeTop, storeAt, setAt, List.length_cons, List.length_nil, List.set_cons_zero, List.set_cons_succ, Nat.reduceLT, Nat.reduceAdd, Nat.reduceSub, if_true, if_false, Bool.false_eq_true, permute, hvs?, datas?, chk_true, p0, p1, ht, p2, lk2, repr_2 (s2.ok (by decide) (by decide)), ne_same s2.so, is_none, hshg, eq, ne_bool]
    rfl
  · rw [o1] at p0 p1 p2
    have st : Sh (.tuple [.int (i : Nat), .int (j : Nat)]) 1 14000 := shT (l := [(i : Int), (j : Int)]) (fun a ha => by
      simp only [List.mem_cons, List.not_mem_nil, or_false] at ha
      omega) (by simp)
    have s2 := sh2 st st
    have eq : ∀ hp, cmpV hp .eq (rD (.list (ws.map rq))) (.fresh ((cR as).map fun x => .d (rq (phi .g (cR as) E x)))) = some false := fun hp => eq_not (dat_d _) (hgd hp) (it_rqs _) (it_rqs _) (by decide) (fun z => o2 (inj (by
      simp only [PyData.list.injEq] at z
      exact z)))
    refine ⟨some (.d (.tuple [.int (i : Nat), .int (j : Nat)])), ?_⟩
    simp only [exs_nil, exs_cons, ex_asg, ex_par, ex_expr, ex_ret, ex_ite, ev_var, ev_lit, ev_glob, ev_bin, ev_neg, ev_cmp, ev_chain, ev_not, ev_and, ev_or, ev_ite, ev_tup, ev_lst, ev_frz, ev_ix, ev_sl, ev_bi, ev_isi, ev_lr, ev_call, ev_mth, evs_nil, evs_cons, evO_none, evO_some, evT_none, evT_some, evI_seq, evI_r1, evI_enum, evI_zip, List.map_cons, List.map_nil, List.cons_append, List.nil_append, List.replicate, getVar, List.getElem?_cons_zero, List.getElem?_cons_succ, lift_some', bnd_ret, bnd_assoc, look_some', tB, tI, hO, frz_d, frz_f, its_fresh, storeTop, storeAt, setAt, List.length_cons, List.length_nil, List.set_cons_zero, List.set_cons_succ, Nat.reduceLT, Nat.reduceAdd, Nat.reduceSub, if_true, if_false, Bool.false_eq_true, permute, hvs?, datas?, chk_true, p0, p1, ht, p2, lk2, repr_2 (s2.ok (by decide) (by decide)), ne_same s2.so, is_none, hshg, eq, ne_bool]
    rfl
end Lw

set_option linter.all false
set_option Elab.async false
set_option maxRecDepth 100000
set_option maxHeartbeats 1000000
/-! N12: the law. -/
namespace Lw
open PySem Ev
section
variable {C : CallT}
def Runs (C : CallT) (b : List S) (env : Ev.Env) (h : Hp) (G : Ev.Env → Hp → Prop) : Prop := ∃ env' h', exs C b env h = some ((.nx, env'), h') ∧ G env' h'
theorem Runs.go {s : S} {r : List S} {env env' : Ev.Env} {h h' : Hp} {G : Ev.Env → Hp → Prop} (e : ex C s env h = some ((.nx, env'), h')) (k : Runs C r env' h' G) : Runs C (s :: r) env h G := by
  obtain ⟨env2, h2, e2, g⟩ := k
  refine ⟨env2, h2, ?_, g⟩
  rw [exs_cons, bnd_at _ e]
  exact e2
theorem Runs.pure {s : S} {r : List S} {env env' : Ev.Env} {h : Hp} {G : Ev.Env → Hp → Prop} (e : ex C s env = Ev.ret (.nx, env')) (k : Runs C r env' h G) : Runs C (s :: r) env h G := Runs.go (by rw [e]; rfl) k
theorem Runs.nil {env : Ev.Env} {h : Hp} {G : Ev.Env → Hp → Prop} (g : G env h) : Runs C [] env h G := ⟨env, h, rfl, g⟩
end
theorem repr_3 {h : Hp} {a b c : PyData} (s : showOk (.list [a, b, c]) = true) : biV h .repr [.fresh [.d a, .d b, .d c]] = some (rD (.str (PyData.list [a, b, c]).shown)) := repr_f (xs := [a, b, c]) (g := id) s
theorem mul3 (v : HV) (h : Hp) : binV h .mul (.fresh [v]) (rD (.int 3)) = some (.fresh [v, v, v]) := by rfl
theorem slice2 (x y : PyData) (r : List PyData) (h : Hp) : slV h (rD (.list (x :: y :: r))) (some 2) none = some (.fresh (r.map .d)) := by
  simp only [slV, getAnyL, getLst, Ev.cutL, sIx, List.length_map, List.length_cons, List.map_cons]
  rw [if_neg (by omega), show min (2 : Int).toNat (r.length + 1 + 1) = 2 by show min 2 _ = 2; omega, List.drop_succ_cons, List.drop_succ_cons, List.drop_zero, List.take_of_length_le (by rw [List.length_map]; omega)]
theorem add2 (x y : HV) (r : List HV) (hl : r.length ≤ 90) (h : Hp) : binV h .add (.fresh [x, y]) (.fresh r) = some (.fresh (x :: y :: r)) := by
  have e : lenOk (2 + r.length) = true := lenOk_of (by omega)
  have e2 : binLL .add [x, y] r = some (.fresh ([x, y] ++ r)) := by
    unfold binLL
    rw [if_pos ⟨rfl, e⟩]
  exact e2
theorem mem_zip_of {α β : Type} : ∀ {ws : List α} {as : List β}, ws.length = as.length → ∀ w ∈ ws, ∃ a, (w, a) ∈ ws.zip as
  | [], _, _, w, hw => nomatch hw
  | x :: ws, [], h, _, _ => by cases h
  | x :: ws, a :: as, h, w, hw => by
    rcases List.mem_cons.mp hw with rfl | hw
    · exact ⟨a, List.mem_cons_self⟩
    · obtain ⟨b, hb⟩ := mem_zip_of (ws := ws) (as := as) (by simpa using h) w hw
      exact ⟨b, List.mem_cons_of_mem _ hb⟩
theorem px_of {F : Nat} {as : List Int} {E : Rat} (ax : Ax as) (hF : 0 < F) (hF2 : F < 2 ^ 60) {ws : List Rat} (a : Aw F as E ws) : Px F as ws := ⟨ax, hF, hF2, a.len, fun w hw => by
  obtain ⟨b, hb⟩ := mem_zip_of a.len w hw
  have h1 := a.rg _ hb
  have h2 := ax.rg b (List.of_mem_zip hb).2
  have h3 : ((b : Int) : Rat) ≤ 99 := Rat.intCast_le_intCast.mpr h2.2
  have h1a : 0 ≤ w := h1.1
  have h1b : w ≤ ((b : Int) : Rat) := h1.2
  exact ⟨a.nb w hw, h1a, by grind⟩⟩
theorem first_aw (r : Ru) {F N : Nat} {as : List Int} {E : Rat} (h : Sx 14 as E) (hN : (cR as).sum = ((N : Nat) : Rat)) (hN1 : 0 < N) (hF : 14 * 840 * N ∣ F) : Aw F as E ((cR as).map (phi r (cR as) E)) := by
  refine ⟨by rw [List.length_map, cR_len], fun w hw => ?_, fun p hp => ?_, sh_sum r h.ok⟩
  · obtain ⟨x, hx, rfl⟩ := List.mem_map.mp hw
    exact (phi_nb r h hN hN1 hx).dvd hF
  · obtain ⟨w, a⟩ := p
    have e : ((cR as).map (phi r (cR as) E)).zip as = as.map fun a => (phi r (cR as) E ((a : Int) : Rat), a) := by
      have : ∀ l : List Int, ((cR l).map (phi r (cR as) E)).zip l = l.map fun a => (phi r (cR as) E ((a : Int) : Rat), a) := fun l => by
        induction l with
        | nil => rfl
        | cons a l ih =>
          unfold cR at ih ⊢
          rw [List.map_cons, List.map_cons, List.zip_cons_cons, ih, List.map_cons]
      exact this as
    rw [e] at hp
    obtain ⟨b, hb, e2⟩ := List.mem_map.mp hp
    cases e2
    exact phi_range r h.ok (List.mem_map.mpr ⟨a, hb, rfl⟩)
theorem second_aw {F : Nat} {a0 a1 : Int} {ar : List Int} {E g0 g1 u : Rat} {gr : List Rat} (a : Aw F (a0 :: a1 :: ar) E (g0 :: g1 :: gr)) (hu : Nb F u) (u0 : 0 ≤ u) (u1 : u ≤ g0) (u2 : u ≤ ((a1 : Int) : Rat) - g1) (h99 : ((a0 : Int) : Rat) ≤ 99 ∧ ((a1 : Int) : Rat) ≤ 99) : Aw F (a0 :: a1 :: ar) E ((g0 - u) :: (g1 + u) :: gr) := by
  have z0 := a.rg (g0, a0) List.mem_cons_self
  have z1 := a.rg (g1, a1) (List.mem_cons_of_mem _ List.mem_cons_self)
  have z0a : 0 ≤ g0 := z0.1
  have z0b : g0 ≤ ((a0 : Int) : Rat) := z0.2
  have z1a : 0 ≤ g1 := z1.1
  have z1b : g1 ≤ ((a1 : Int) : Rat) := z1.2
  have n0 := a.nb g0 List.mem_cons_self
  have n1 := a.nb g1 (List.mem_cons_of_mem _ List.mem_cons_self)
  refine ⟨a.len, fun w hw => ?_, fun p hp => ?_, ?_⟩
  · rcases List.mem_cons.mp hw with rfl | hw
    · exact n0.sub hu (by grind) (by grind)
    · rcases List.mem_cons.mp hw with rfl | hw
      · exact n1.add hu (by grind) (by grind)
      · exact a.nb w (List.mem_cons_of_mem _ (List.mem_cons_of_mem _ hw))
  · rcases List.mem_cons.mp hp with rfl | hp
    · show 0 ≤ g0 - u ∧ g0 - u ≤ ((a0 : Int) : Rat)
      grind
    · rcases List.mem_cons.mp hp with rfl | hp
      · show 0 ≤ g1 + u ∧ g1 + u ≤ ((a1 : Int) : Rat)
        grind
      · exact a.rg p (List.mem_cons_of_mem _ (List.mem_cons_of_mem _ hp))
  · have := a.sum
    rw [List.sum_cons, List.sum_cons] at this ⊢
    grind
abbrev C10 (K : Nat) : CallT := callN prog (K + 10)
abbrev bodyW : List S := [.asg (.name 4) (.frz (.call "_law_pair_out" true [0, 1] [(.var 1), (.var 10)])), .ite (.cmp .ne (.bi .repr [(.lst [(.frz (.call "pair_out" true [0, 1, 2] [(.var 1), (.var 2), (.var 10)])), (.frz (.call "pair_out" true [2, 1, 0] [(.bi .tuple [(.var 10)]), (.var 2), (.var 1)]))])]) (.bi .repr [(.lst [(.var 4), (.var 4)])])) [.ret (.lit (.bool false))] [], .ite (.cmp .ne (.cmp .is_ (.var 4) (.lit .none)) (.cmp .eq (.var 10) (.call "shared" true [0, 1, 2] [(.lit (.str "garment")), (.var 1), (.var 2)]))) [.ret (.lit (.bool false))] []]
abbrev bodyR : List S := [.asg (.name 8) (.frz (.call "shared" true [0, 1, 2] [(.var 5), (.var 1), (.var 2)])), .asg (.name 9) (.new (.lst [(.var 8)])), .ite (.cmp .gt (.bi .len [(.var 1)]) (.lit (.int 1))) [.asg (.name 11) (.frz (.call "_law_sub" true [0, 1] [(.tup [(.ix (.var 1) (.lit (.int 1))), (.lit (.int 1))]), (.ix (.var 8) (.lit (.int 1)))])), .asg (.name 12) (.frz (.call "_law_mul" true [0, 1] [(.ite (.call "_law_lt" true [0, 1] [(.ix (.var 8) (.lit (.int 0))), (.var 11)]) (.ix (.var 8) (.lit (.int 0))) (.var 11)), (.frz (.call "_law_made" true [0, 1] [(.frz (.call "_law_draw" false [0, 1] [(.var 0), (.lit (.int 4))])), (.lit (.int 3))]))])), .expr (.mth .append (.var 9) [(.frz (.bin .add (.lst [(.frz (.call "_law_sub" true [0, 1] [(.ix (.var 8) (.lit (.int 0))), (.var 12)])), (.frz (.call "_law_add" true [0, 1] [(.ix (.var 8) (.lit (.int 1))), (.var 12)]))]) (.sl (.var 8) (some (.lit (.int 2))) none)))])] [], .for_ (.name 10) (.seq (.var 9)) [.asg (.name 4) (.frz (.call "_law_pair_out" true [0, 1] [(.var 1), (.var 10)])), .ite (.cmp .ne (.bi .repr [(.lst [(.frz (.call "pair_out" true [0, 1, 2] [(.var 1), (.var 2), (.var 10)])), (.frz (.call "pair_out" true [2, 1, 0] [(.bi .tuple [(.var 10)]), (.var 2), (.var 1)]))])]) (.bi .repr [(.lst [(.var 4), (.var 4)])])) [.ret (.lit (.bool false))] [], .ite (.cmp .ne (.cmp .is_ (.var 4) (.lit .none)) (.cmp .eq (.var 10) (.call "shared" true [0, 1, 2] [(.lit (.str "garment")), (.var 1), (.var 2)]))) [.ret (.lit (.bool false))] []]]
def rowV (ws : List Rat) : HV := .d (.list (ws.map rq))
/-- the loop over the rows -/
theorem rows_run (K : Nat) {F : Nat} {as : List Int} {E : Rat} (hs : Sx 14 as E) (hF : 0 < F) (hF2 : F < 2 ^ 60) (rows : List (List Rat)) (hr : ∀ ws ∈ rows, Aw F as E ws) (hl : rows.length ≤ 100) (h : Hp) (R : Nat) (hR : h[R]? = some (.lst (rows.map rowV))) (e0 e3 e4 e5 e6 e7 e8 e10 e11 e12 : Option HV) :
    ∃ x y, ex (C10 K) (.for_ (.name 10) (.seq (.var 9)) bodyW) [e0, some (.d (T as)), some (.d (rq E)), e3, e4, e5, e6, e7, e8, some (.ref R), e10, e11, e12] h = some ((.nx, [e0, some (.d (T as)), some (.d (rq E)), e3, x, e5, e6, e7, e8, some (.ref R), y, e11, e12]), h) := by
  have hI : evI (C10 K) (.seq (.var 9)) [e0, some (.d (T as)), some (.d (rq E)), e3, e4, e5, e6, e7, e8, some (.ref R), e10, e11, e12] h = some (.live R, h) := by
    simp only [exs_nil, exs_cons, ex_asg, ex_par, ex_expr, ex_ret, ex_ite, ev_var, ev_lit, ev_glob, ev_bin, ev_neg, ev_cmp, ev_chain, ev_not, ev_and, ev_or, ev_ite, ev_tup, ev_lst, ev_frz, ev_ix, ev_sl, ev_bi, ev_isi, ev_lr, ev_call, ev_mth, evs_nil, evs_cons, evO_none, evO_some, evT_none, evT_some, evI_seq, evI_r1, evI_enum, evI_zip, List.map_cons, List.map_nil, List.cons_append, List.nil_append, List.replicate, getVar, List.getElem?_cons_zero, List.getElem?_cons_succ, lift_some', bnd_ret, bnd_assoc, look_some', tB, tI, hO, frz_d, frz_f, its_fresh, storeTop, storeAt, setAt, List.length_cons, List.length_nil, List.set_cons_zero, List.set_cons_succ, Nat.reduceLT, Nat.reduceAdd, Nat.reduceSub, if_true, if_false, Bool.false_eq_true, permute, hvs?, datas?, chk_true]
    exact look_at _ _ (by simp only [itsOf, hR])
  obtain ⟨env', h', e, ⟨x, y, rfl⟩, rfl⟩ := forLive_inv (turn := fun x env => bnd (lift (store (.name 10) x env)) fun env1 => exs (C10 K) bodyW env1) rowV R rows
    (fun _ env h' => (∃ x y, env = [e0, some (.d (T as)), some (.d (rq E)), e3, x, e5, e6, e7, e8, some (.ref R), y, e11, e12]) ∧ h' = h) (fun _ _ _ ⟨_, e⟩ => by rw [e]; exact hR) (fun k ws env h2 hk ⟨⟨x, y, he⟩, hh⟩ => by
      subst he
      subst hh
      have hws := List.mem_of_getElem? hk
      have aw := hr ws hws
      obtain ⟨z, ez⟩ := row_run (K + 1) 0 14 F hs rfl hF hF2 aw (px_of hs.ax hF hF2 aw) e0 e3 x e5 e6 e7 e8 (some (.ref R)) e11 e12
      refine ⟨[e0, some (.d (T as)), some (.d (rq E)), e3, z, e5, e6, e7, e8, some (.ref R), some (rowV ws), e11, e12], h2, ?_, ⟨_, _, rfl⟩, rfl⟩
      simp only [store_name, setAt, List.length_cons, List.length_nil, List.set_cons_zero, List.set_cons_succ, Nat.reduceLT, Nat.reduceAdd, if_true, lift_some', bnd_ret]
      show exs (callN prog (K + 1 + 9)) bodyW [e0, some (.d (T as)), some (.d (rq E)), e3, x, e5, e6, e7, e8, some (.ref R), some (.d (.list (ws.map rq))), e11, e12] h2 = _
      rw [ez]
      rfl) 16777217 0 _ h (by omega) (by omega) ⟨⟨e4, e10, rfl⟩, rfl⟩
  refine ⟨x, y, ?_⟩
  rw [ex_for, bnd_at _ hI]
  exact e
theorem rule_run (K n : Nat) (h : Hp) (hp : PotAt h n) {as : List Int} {E : Rat} (hs : Sx 14 as E) (r : Ru) (e3 e4 e6 e7 e8 e9 e10 e11 e12 : Option HV) :
    Runs (C10 K) bodyR [some (.ref n), some (.d (T as)), some (.d (rq E)), e3, e4, some (.d (.str r.name)), e6, e7, e8, e9, e10, e11, e12] h fun env' h' => (∃ e4 e5 e8 e9 e10 e11 e12, env' = [some (.ref n), some (.d (T as)), some (.d (rq E)), e3, e4, e5, e6, e7, e8, e9, e10, e11, e12]) ∧ PotAt h' n := by
  obtain ⟨N, hN, hN1, hN2⟩ := whole_sum hs.ax
  have hF : 0 < 14 * 840 * N * 3 := by omega
  have hF2 : 14 * 840 * N * 3 < 2 ^ 60 := by omega
  have aw := first_aw r (F := 14 * 840 * N * 3) hs hN hN1 ⟨3, rfl⟩
  have l1 := hs.ax.l1
  have l8 := hs.ax.l8
  have hn := hp.lt
  have egot : (cR as).map (fun x => rq (phi r (cR as) E x)) = ((cR as).map (phi r (cR as) E)).map rq := map_rq (cR as) (phi r (cR as) E)
  refine Runs.pure (env' := [some (.ref n), some (.d (T as)), some (.d (rq E)), e3, e4, some (.d (.str r.name)), e6, e7, some (rowV ((cR as).map (phi r (cR as) E))), e9, e10, e11, e12]) (by
    simp only [exs_nil, exs_cons, ex_asg, ex_par, ex_expr, ex_ret, ex_ite, ev_var, ev_lit, ev_glob, ev_bin, ev_neg, ev_cmp, ev_chain, ev_not, ev_and, ev_or, ev_ite, ev_tup, ev_lst, ev_frz, ev_ix, ev_sl, ev_bi, ev_isi, ev_lr, ev_call, ev_mth, evs_nil, evs_cons, evO_none, evO_some, evT_none, evT_some, evI_seq, evI_r1, evI_enum, evI_zip, List.map_cons, List.map_nil, List.cons_append, List.nil_append, List.replicate, getVar, List.getElem?_cons_zero, List.getElem?_cons_succ, lift_some', bnd_ret, bnd_assoc, look_some', tB, tI, hO, frz_d, frz_f, its_fresh, storeTop, storeAt, setAt, List.length_cons, List.length_nil, List.set_cons_zero, List.set_cons_succ, Nat.reduceLT, Nat.reduceAdd, Nat.reduceSub, if_true, if_false, Bool.false_eq_true, permute, hvs?, datas?, chk_true, pc (shared_run r (K + 2) 14 hs) rfl (outOk_map _ _), frz_run, egot]
    rfl) ?_
  generalize hws : (cR as).map (phi r (cR as) E) = ws at aw
  have i1 : newV (.fresh [rowV ws]) h = some (.hv (.ref h.length), h ++ [.lst ([ws].map rowV)]) := rfl
  refine Runs.go (env' := [some (.ref n), some (.d (T as)), some (.d (rq E)), e3, e4, some (.d (.str r.name)), e6, e7, some (rowV ws), some (.ref h.length), e10, e11, e12]) (h' := h ++ [.lst ([ws].map rowV)]) (by
    simp only [exs_nil, exs_cons, ex_asg, ex_par, ex_expr, ex_ret, ex_ite, ev_var, ev_lit, ev_glob, ev_bin, ev_neg, ev_cmp, ev_chain, ev_not, ev_and, ev_or, ev_ite, ev_tup, ev_lst, ev_frz, ev_ix, ev_sl, ev_bi, ev_isi, ev_lr, ev_call, ev_mth, evs_nil, evs_cons, evO_none, evO_some, evT_none, evT_some, evI_seq, evI_r1, evI_enum, evI_zip, List.map_cons, List.map_nil, List.cons_append, List.nil_append, List.replicate, getVar, List.getElem?_cons_zero, List.getElem?_cons_succ, lift_some', bnd_ret, bnd_assoc, look_some', tB, tI, hO, frz_d, frz_f, its_fresh, storeTop, storeAt, setAt, List.length_cons, List.length_nil, List.set_cons_zero, List.set_cons_succ, Nat.reduceLT, Nat.reduceAdd, Nat.reduceSub, if_true, if_false, Bool.false_eq_true, permute, hvs?, datas?, chk_true, ev_new, lk1]
    rw [bnd_at _ i1]
    rfl) ?_
  have hp1 := hp.app [Ob.lst ([ws].map rowV)]
  have hR : (h ++ [Ob.lst ([ws].map rowV)])[h.length]? = some (.lst ([ws].map rowV)) := by simp
  generalize hH : h ++ [Ob.lst ([ws].map rowV)] = H at hp1 hR
  by_cases hone : as.length = 1
  · refine Runs.pure (env' := [some (.ref n), some (.d (T as)), some (.d (rq E)), e3, e4, some (.d (.str r.name)), e6, e7, some (rowV ws), some (.ref h.length), e10, e11, e12]) (by
      simp only [exs_nil, exs_cons, ex_asg, ex_par, ex_expr, ex_ret, ex_ite, ev_var, ev_lit, ev_glob, ev_bin, ev_neg, ev_cmp, ev_chain, ev_not, ev_and, ev_or, ev_ite, ev_tup, ev_lst, ev_frz, ev_ix, ev_sl, ev_bi, ev_isi, ev_lr, ev_call, ev_mth, evs_nil, evs_cons, evO_none, evO_some, evT_none, evT_some, evI_seq, evI_r1, evI_enum, evI_zip, List.map_cons, List.map_nil, List.cons_append, List.nil_append, List.replicate, getVar, List.getElem?_cons_zero, List.getElem?_cons_succ, lift_some', bnd_ret, bnd_assoc, look_some', tB, tI, hO, frz_d, frz_f, its_fresh, storeTop, storeAt, setAt, List.length_cons, List.length_nil, List.set_cons_zero, List.set_cons_succ, Nat.reduceLT, Nat.reduceAdd, Nat.reduceSub, if_true, if_false, Bool.false_eq_true, permute, hvs?, datas?, chk_true, len_T, cmp_gt, decide_eq_false (show ¬ (1 : Int) < (as.length : Nat) by omega)]) ?_
    obtain ⟨x, y, e⟩ := rows_run K hs hF hF2 [ws] (fun w hw => by rw [List.mem_singleton.mp hw]; exact aw) (by simp) H h.length hR (some (.ref n)) e3 e4 (some (.d (.str r.name))) e6 e7 (some (rowV ws)) e10 e11 e12
    exact Runs.go e (Runs.nil ⟨⟨_, _, _, _, _, _, _, rfl⟩, hp1⟩)
  · obtain ⟨a0, a1, ar, rfl⟩ : ∃ a0 a1 ar, as = a0 :: a1 :: ar := by
      match as, l1, hone with
      | a0 :: a1 :: ar, _, _ => exact ⟨a0, a1, ar, rfl⟩
      | [a0], _, h => exact absurd rfl h
    obtain ⟨g0, g1, gr, rfl⟩ : ∃ g0 g1 gr, ws = g0 :: g1 :: gr := by
      have := aw.len
      match ws, this with
      | g0 :: g1 :: gr, _ => exact ⟨g0, g1, gr, rfl⟩
      | [g0], h => simp at h
      | [], h => simp at h
    have r0 := hs.ax.rg a0 List.mem_cons_self
    have r1 := hs.ax.rg a1 (List.mem_cons_of_mem _ List.mem_cons_self)
    have r0' : ((a0 : Int) : Rat) ≤ 99 := Rat.intCast_le_intCast.mpr r0.2
    have r1' : ((a1 : Int) : Rat) ≤ 99 := Rat.intCast_le_intCast.mpr r1.2
    have z0 : 0 ≤ g0 ∧ g0 ≤ ((a0 : Int) : Rat) := aw.rg (g0, a0) List.mem_cons_self
    have z1 : 0 ≤ g1 ∧ g1 ≤ ((a1 : Int) : Rat) := aw.rg (g1, a1) (List.mem_cons_of_mem _ List.mem_cons_self)
    -- before the thirds
    have aw0 := first_aw r (F := 14 * 840 * N) hs hN hN1 ⟨1, by rw [Nat.mul_one]⟩
    rw [hws] at aw0
    have hF0 : 0 < 14 * 840 * N := by omega
    have n0 := aw0.nb g0 List.mem_cons_self
    have n1 := aw0.nb g1 (List.mem_cons_of_mem _ List.mem_cons_self)
    have na1 : Nb (14 * 840 * N) ((a1 : Int) : Rat) := Nb.int (by omega) (by omega)
    have nroom : Nb (14 * 840 * N) (((a1 : Int) : Rat) - g1) := na1.sub n1 (by grind) (by grind)
    have s0 := n0.sm hF0 (by omega)
    have s1 := n1.sm hF0 (by omega)
    have sroom := nroom.sm hF0 (by omega)
    obtain ⟨d, p, q, ed, d0, d1, zz⟩ := draw_run (K + 9) n H 4 (by omega) (by omega) hp1
    have hp2 := hp1.next zz
    obtain ⟨b1, b2, b3⟩ := nb_div (D := 3) (q := 3) (p := d) (by decide) (by decide) (by omega) (by omega)
    have ethree : ((3 : Nat) : Rat) = 3 := rfl
    have d3 : ((d : Int) : Rat) ≤ 3 := Rat.intCast_le_intCast.mpr (show d ≤ 3 by omega)
    rw [ethree] at b3
    have m3 : runCall (C10 K) "_law_made" true [I d, I 3] = Ev.ret (rD (rq (Rat.divInt d (3 : Nat)))) := pc (lmade_run (K + 9) d (3 : Nat) (by decide) (Nat.lt_of_lt_of_le (show d.natAbs < 2 ^ 20 by omega) (Nat.pow_le_pow_right (by decide) (by decide))) (by decide)) rfl rfl
    generalize Rat.divInt d (3 : Nat) = f at b1 b2 b3 m3
    have hf1 : f ≤ 1 := by grind
    obtain ⟨m, hm, hm0, hm1, hm2, nm⟩ : ∃ m : Rat, (if g0 < ((a1 : Int) : Rat) - g1 then g0 else ((a1 : Int) : Rat) - g1) = m ∧ 0 ≤ m ∧ m ≤ g0 ∧ m ≤ ((a1 : Int) : Rat) - g1 ∧ Nb (14 * 840 * N) m := by
      refine ⟨_, rfl, ?_⟩
      split
      · exact ⟨by grind, by grind, by grind, n0⟩
      · exact ⟨by grind, by grind, by grind, nroom⟩
    have hmf : m * f ≤ m := by
      have := Rat.mul_le_mul_of_nonneg_left hf1 hm0
      grind
    have hmf0 : 0 ≤ m * f := Rat.mul_nonneg hm0 b2
    have nu : Nb (14 * 840 * N * 3) (m * f) := nm.times b1 (by grind) (by grind)
    have aw2 := second_aw aw nu hmf0 (by grind) (by grind) ⟨r0', r1'⟩
    have su := nu.sm hF (by omega)
    have sm' := nm.sm hF0 (by omega)
    have sf := b1.sm (by decide) (by decide)
    have hgl : gr.length ≤ 90 := by
      have := aw.len
      simp only [List.length_cons] at this l8
      omega
    have x0 : ∀ hp, ixV hp (.hv (rowV (g0 :: g1 :: gr))) 0 = some (rD (rq g0)) := fun hp => ix_list (ds := (g0 :: g1 :: gr).map rq) (i := 0) (by decide) rfl hp
    have x1 : ∀ hp, ixV hp (.hv (rowV (g0 :: g1 :: gr))) 1 = some (rD (rq g1)) := fun hp => ix_list (ds := (g0 :: g1 :: gr).map rq) (i := 1) (by decide) rfl hp
    have xa : ∀ hp, ixV hp (rD (T (a0 :: a1 :: ar))) 1 = some (rD (.int a1)) := fun hp => ix_tup (ds := (a0 :: a1 :: ar).map .int) (i := 1) (by decide) rfl hp
    have xs : ∀ hp, slV hp (.hv (rowV (g0 :: g1 :: gr))) (some 2) none = some (.fresh ((gr.map rq).map .d)) := fun hp => slice2 (rq g0) (rq g1) (gr.map rq) hp
    have hRlt : h.length ≠ n := by omega
    have hR2 : (H.set n (OP p q))[h.length]? = some (.lst ([g0 :: g1 :: gr].map rowV)) := by
      rw [List.getElem?_set_ne (by omega)]
      exact hR
    have happ : mtV .append (.hv (.ref h.length)) [.hv (rowV ((g0 - m * f) :: (g1 + m * f) :: gr))] (H.set n (OP p q)) = some (rD .none, (H.set n (OP p q)).set h.length (.lst ([g0 :: g1 :: gr, (g0 - m * f) :: (g1 + m * f) :: gr].map rowV))) := by
      unfold mtV
      simp only [hR2]
      rfl
    have hfz : frzV (.fresh (.d (rq (g0 - m * f)) :: .d (rq (g1 + m * f)) :: (gr.map rq).map .d)) = Ev.ret (.hv (rowV ((g0 - m * f) :: (g1 + m * f) :: gr))) := frz_f (((g0 - m * f) :: (g1 + m * f) :: gr).map rq)
    have hadd : ∀ hp, binV hp .add (.fresh [.d (rq (g0 - m * f)), .d (rq (g1 + m * f))]) (.fresh ((gr.map rq).map .d)) = some (.fresh (.d (rq (g0 - m * f)) :: .d (rq (g1 + m * f)) :: (gr.map rq).map .d)) := fun hp => add2 _ _ _ (by simpa using hgl) hp
    have hlt3 : (if decide (g0 < ((a1 : Int) : Rat) - g1) = true then Ev.ret (rD (rq g0)) else Ev.ret (rD (rq (((a1 : Int) : Rat) - g1)))) = (Ev.ret (rD (rq m)) : M RV) := by
      rw [← hm]
      by_cases c : g0 < ((a1 : Int) : Rat) - g1
      · rw [if_pos c, if_pos (decide_eq_true c)]
      · rw [if_neg c, if_neg (by rw [decide_eq_false c]; exact Bool.false_ne_true)]
    refine Runs.go (env' := [some (.ref n), some (.d (T (a0 :: a1 :: ar))), some (.d (rq E)), e3, e4, some (.d (.str r.name)), e6, e7, some (rowV (g0 :: g1 :: gr)), some (.ref h.length), e10, some (.d (rq (((a1 : Int) : Rat) - g1))), some (.d (rq (m * f)))]) (h' := (H.set n (OP p q)).set h.length (.lst ([g0 :: g1 :: gr, (g0 - m * f) :: (g1 + m * f) :: gr].map rowV))) (by
      have hgt : decide ((1 : Int) < (((a0 :: a1 :: ar).length : Nat) : Int)) = true := decide_eq_true (by simp only [List.length_cons]; omega)
      have hgtS : ∀ hp, cmpV hp .gt (rD (.int (((a0 :: a1 :: ar).length : Nat) : Int))) (rD (.int 1)) = some true := fun hp => by rw [cmp_gt, hgt]
      have hlenS : ∀ hp, biV hp .len [rD (T (a0 :: a1 :: ar))] = some (rD (.int (((a0 :: a1 :: ar).length : Nat) : Int))) := fun hp => len_T _ hp
      generalize hLL : (((a0 :: a1 :: ar).length : Nat) : Int) = LL at hgtS hlenS
      generalize hTT : T (a0 :: a1 :: ar) = TT at hlenS xa
      generalize hrow : rowV (g0 :: g1 :: gr) = ROW at x0 x1 xs
      simp only [exs_nil, exs_cons, ex_asg, ex_par, ex_expr, ex_ret, ex_ite, ev_var, ev_lit, ev_glob, ev_bin, ev_neg, ev_cmp, ev_chain, ev_not, ev_and, ev_or, ev_ite, ev_tup, ev_lst, ev_frz, ev_ix, ev_sl, ev_bi, ev_isi, ev_lr, ev_call, ev_mth, evs_nil, evs_cons, evO_none, evO_some, evT_none, evT_some, evI_seq, evI_r1, evI_enum, evI_zip, List.map_cons, List.map_nil, List.cons_append, List.nil_append, List.replicate, getVar, List.getElem?_cons_zero, List.getElem?_cons_succ, lift_some', bnd_ret, bnd_assoc, look_some', tB, tI, hO, frz_d, frz_f, its_fresh, storeTop, storeAt, setAt, List.length_cons, List.length_nil, List.set_cons_zero, List.set_cons_succ, Nat.reduceLT, Nat.reduceAdd, Nat.reduceSub, if_true, if_false, Bool.false_eq_true, permute, hvs?, datas?, chk_true, hlenS, hgtS, xa, lk2, int_hv, x1, x0, pc (lsub_run (K + 8) (na1.sm hF0 (by omega)) s1) rfl rfl, pc (llt_run (K + 9) s0 sroom) rfl rfl, hlt3, runCall_f]
      rw [bnd_at _ ed]
      simp only [exs_nil, exs_cons, ex_asg, ex_par, ex_expr, ex_ret, ex_ite, ev_var, ev_lit, ev_glob, ev_bin, ev_neg, ev_cmp, ev_chain, ev_not, ev_and, ev_or, ev_ite, ev_tup, ev_lst, ev_frz, ev_ix, ev_sl, ev_bi, ev_isi, ev_lr, ev_call, ev_mth, evs_nil, evs_cons, evO_none, evO_some, evT_none, evT_some, evI_seq, evI_r1, evI_enum, evI_zip, List.map_cons, List.map_nil, List.cons_append, List.nil_append, List.replicate, getVar, List.getElem?_cons_zero, List.getElem?_cons_succ, lift_some', bnd_ret, bnd_assoc, look_some', tB, tI, hO, frz_d, frz_f, its_fresh, storeTop, storeAt, setAt, List.length_cons, List.length_nil, List.set_cons_zero, List.set_cons_succ, Nat.reduceLT, Nat.reduceAdd, Nat.reduceSub, if_true, if_false, Bool.false_eq_true, permute, hvs?, datas?, chk_true, m3, pc (lmul_run (K + 8) sm' sf) rfl rfl, x0, x1, pc (lsub_run (K + 8) s0 su) rfl rfl, pc (ladd_run (K + 8) s1 su) rfl rfl, lk2, xs, hadd, hfz]
      rw [bnd_at _ happ]
      rfl) ?_
    have hp3 : PotAt ((H.set n (OP p q)).set h.length (.lst ([g0 :: g1 :: gr, (g0 - m * f) :: (g1 + m * f) :: gr].map rowV))) n := hp2.other (by omega) _
    have hR3 : ((H.set n (OP p q)).set h.length (.lst ([g0 :: g1 :: gr, (g0 - m * f) :: (g1 + m * f) :: gr].map rowV)))[h.length]? = some (.lst ([g0 :: g1 :: gr, (g0 - m * f) :: (g1 + m * f) :: gr].map rowV)) := List.getElem?_set_self (List.getElem?_eq_some_iff.mp hR2).1
    obtain ⟨x, y, e⟩ := rows_run K hs hF hF2 [g0 :: g1 :: gr, (g0 - m * f) :: (g1 + m * f) :: gr] (fun w hw => by
      simp only [List.mem_cons, List.not_mem_nil, or_false] at hw
      rcases hw with rfl | rfl
      · exact aw
      · exact aw2) (by simp) _ h.length hR3 (some (.ref n)) e3 e4 (some (.d (.str r.name))) e6 e7 (some (rowV (g0 :: g1 :: gr))) e10 (some (.d (rq (((a1 : Int) : Rat) - g1)))) (some (.d (rq (m * f))))
    exact Runs.go e (Runs.nil ⟨⟨_, _, _, _, _, _, _, rfl⟩, hp3⟩)
end Lw

set_option linter.all false
set_option Elab.async false
set_option maxRecDepth 100000
set_option maxHeartbeats 1000000
/-! N13: the law, whole. -/
namespace Lw
open PySem Ev
theorem sh3 {a b c : PyData} {k w : Nat} (ha : Sh a k w) (hb : Sh b k w) (hc : Sh c k w) : Sh (.list [a, b, c]) (k + 1) (3 * (w + 2) + 3) := by
  have := Sh.list (xs := [a, b, c]) (k := k) (w := w) (fun x hx => by
    simp only [List.mem_cons, List.not_mem_nil, or_false] at hx
    rcases hx with rfl | rfl | rfl <;> assumption)
  exact this.mono (Nat.le_refl _) (by simp only [List.length_cons, List.length_nil]; omega)
/-- an amount for two -/
theorem two_amount {one other d : Int} (h1 : 1 ≤ one ∧ one ≤ 99) (h2 : 1 ≤ other ∧ other ≤ 99) (d0 : 0 ≤ d) (d1 : d ≤ 5 * (one + other)) {c : PyData} (hc : c ∈ [.tuple [.int 0, .int 1], .tuple [.int one, .int 1], .tuple [.int other, .int 1], .tuple [.int (one + other), .int 1], rq (Rat.divInt d (5 : Nat))]) : ∃ E, c = rq E ∧ Nb 10 E ∧ 0 ≤ E ∧ E ≤ (((one + other : Int)) : Rat) := by
  have z : ∀ i : Int, 0 ≤ i → i ≤ one + other → ∃ E, PyData.tuple [.int i, .int 1] = rq E ∧ Nb 10 E ∧ 0 ≤ E ∧ E ≤ (((one + other : Int)) : Rat) := fun i h0 h1 =>
    ⟨((i : Int) : Rat), (rq_int i).symm, Nb.int (by omega) (by omega), Rat.intCast_le_intCast.mpr h0, Rat.intCast_le_intCast.mpr h1⟩
  simp only [List.mem_cons, List.not_mem_nil, or_false] at hc
  rcases hc with rfl | rfl | rfl | rfl | rfl
  · exact z 0 (by omega) (by omega)
  · exact z one (by omega) (by omega)
  · exact z other (by omega) (by omega)
  · exact z (one + other) (by omega) (by omega)
  · obtain ⟨b1, b2, b3⟩ := nb_div (D := 10) (q := 5) (p := d) (by decide) (by decide) (by omega) (by omega)
    refine ⟨_, rfl, b1, b2, ?_⟩
    have e7 : ((5 : Nat) : Rat) = 5 := rfl
    have := Rat.intCast_le_intCast.mpr d1
    rw [Rat.intCast_mul] at this
    have e8 : ((5 : Int) : Rat) = 5 := rfl
    grind
theorem lright_run (K n : Nat) (h : Hp) (hp : PotAt h n) : ∃ h', callN prog (K + 11) "_law_right" [.ref n] h = some (rD (.bool true), h') ∧ PotAt h' n := by
  refine call_ends (f := f__law_right) (by rfl) rfl ?_
  unfold f__law_right
  obtain ⟨as, h1, e1, ax, hp1⟩ := lasked_run (K + 7) n h hp
  obtain ⟨E, h2, e2, hs, hp2⟩ := lamount_run (K + 7) n h1 hp1 ax
  obtain ⟨h3, e3, hp3⟩ := lconsistent_run (K + 1) n h2 hp2 hs
  obtain ⟨h4, e4, hp4⟩ := lleast_run K n h3 hp3 ax
  obtain ⟨d1, p1, q1, e5, d10, d11, z1⟩ := draw_run (K + 9) n h4 99 (by omega) (by omega) hp4
  have hp5 := hp4.next z1
  obtain ⟨d2, p2, q2, e6, d20, d21, z2⟩ := draw_run (K + 9) n _ 99 (by omega) (by omega) hp5
  have hp6 := hp5.next z2
  obtain ⟨one, hone⟩ : ∃ one : Int, 1 + d1 = one := ⟨_, rfl⟩
  obtain ⟨other, hother⟩ : ∃ other : Int, 1 + d2 = other := ⟨_, rfl⟩
  have r1 : 1 ≤ one ∧ one ≤ 99 := by omega
  have r2 : 1 ≤ other ∧ other ≤ 99 := by omega
  obtain ⟨d3, p3, q3, e7, d30, d31, z3⟩ := draw_run (K + 9) n _ (5 * (one + other) + 1) (by omega) (by omega) hp6
  have hp7 := hp6.next z3
  obtain ⟨c, p4, q4, e8, hc, z4⟩ := pick_run (K + 8) n _ [.tuple [.int 0, .int 1], .tuple [.int one, .int 1], .tuple [.int other, .int 1], .tuple [.int (one + other), .int 1], rq (Rat.divInt d3 (5 : Nat))] (by simp) (by simp) hp7
  have hp8 := hp7.next z4
  obtain ⟨B, rfl, nB, B0, B1⟩ := two_amount r1 r2 d30 (by omega) hc
  have b1 : ((one : Int) : Rat) ≤ 99 := Rat.intCast_le_intCast.mpr r1.2
  have b2 : ((other : Int) : Rat) ≤ 99 := Rat.intCast_le_intCast.mpr r2.2
  have b3 : 1 ≤ ((one : Int) : Rat) := Rat.intCast_le_intCast.mpr r1.1
  have b4 : 1 ≤ ((other : Int) : Rat) := Rat.intCast_le_intCast.mpr r2.1
  have B2 : B ≤ ((one : Int) : Rat) + ((other : Int) : Rat) := by rw [← Rat.intCast_add]; exact B1
  have na : Nb 10 ((one : Int) : Rat) := Nb.int (by omega) (by omega)
  have nb : Nb 10 ((other : Int) : Rat) := Nb.int (by omega) (by omega)
  have gx : Gx 10 ((one : Int) : Rat) ((other : Int) : Rat) B := ⟨by decide, by decide, na, nb, nB, by grind, by grind, by grind⟩
  have ax2 : Ax [one, other] := ⟨by simp, by simp, fun a ha => by
    simp only [List.mem_cons, List.not_mem_nil, or_false] at ha
    rcases ha with rfl | rfl <;> assumption⟩
  have hs2 : Sx 10 [one, other] B := ⟨ax2, by decide, by decide, by decide, nB, B0, by
    show B ≤ ((one : Int) : Rat) + (((other : Int) : Rat) + 0)
    grind⟩
  have hsum := sh_sum .g hs2.ok
  have hpair := pair_g hs2.ok (x := ((one : Int) : Rat)) (y := ((other : Int) : Rat)) List.mem_cons_self (List.mem_cons_of_mem _ List.mem_cons_self)
  have hsum2 : phi .g (cR [one, other]) B ((one : Int) : Rat) + phi .g (cR [one, other]) B ((other : Int) : Rat) = B := by
    have : phi .g (cR [one, other]) B ((one : Int) : Rat) + (phi .g (cR [one, other]) B ((other : Int) : Rat) + 0) = B := hsum
    grind
  rw [hsum2] at hpair
  -- asked, amount
  refine Ends.go (env' := [some (.ref n), some (.d (T as)), none, none, none, none, none, none, none, none, none, none, none]) (h' := h1) (by
    simp only [exs_nil, exs_cons, ex_asg, ex_par, ex_expr, ex_ret, ex_ite, ev_var, ev_lit, ev_glob, ev_bin, ev_neg, ev_cmp, ev_chain, ev_not, ev_and, ev_or, ev_ite, ev_tup, ev_lst, ev_frz, ev_ix, ev_sl, ev_bi, ev_isi, ev_lr, ev_call, ev_mth, evs_nil, evs_cons, evO_none, evO_some, evT_none, evT_some, evI_seq, evI_r1, evI_enum, evI_zip, List.map_cons, List.map_nil, List.cons_append, List.nil_append, List.replicate, getVar, List.getElem?_cons_zero, List.getElem?_cons_succ, lift_some', bnd_ret, bnd_assoc, look_some', tB, tI, hO, frz_d, frz_f, its_fresh, storeTop, storeAt, setAt, List.length_cons, List.length_nil, List.set_cons_zero, List.set_cons_succ, Nat.reduceLT, Nat.reduceAdd, Nat.reduceSub, if_true, if_false, Bool.false_eq_true, permute, hvs?, datas?, chk_true, runCall_f]
    rw [bnd_at _ e1]
    simp only [exs_nil, exs_cons, ex_asg, ex_par, ex_expr, ex_ret, ex_ite, ev_var, ev_lit, ev_glob, ev_bin, ev_neg, ev_cmp, ev_chain, ev_not, ev_and, ev_or, ev_ite, ev_tup, ev_lst, ev_frz, ev_ix, ev_sl, ev_bi, ev_isi, ev_lr, ev_call, ev_mth, evs_nil, evs_cons, evO_none, evO_some, evT_none, evT_some, evI_seq, evI_r1, evI_enum, evI_zip, List.map_cons, List.map_nil, List.cons_append, List.nil_append, List.replicate, getVar, List.getElem?_cons_zero, List.getElem?_cons_succ, lift_some', bnd_ret, bnd_assoc, look_some', tB, tI, hO, frz_d, frz_f, its_fresh, storeTop, storeAt, setAt, List.length_cons, List.length_nil, List.set_cons_zero, List.set_cons_succ, Nat.reduceLT, Nat.reduceAdd, Nat.reduceSub, if_true, if_false, Bool.false_eq_true, permute, hvs?, datas?, chk_true]
    rfl) ?_
  refine Ends.go (env' := [some (.ref n), some (.d (T as)), some (.d (rq E)), none, none, none, none, none, none, none, none, none, none]) (h' := h2) (by
    simp only [exs_nil, exs_cons, ex_asg, ex_par, ex_expr, ex_ret, ex_ite, ev_var, ev_lit, ev_glob, ev_bin, ev_neg, ev_cmp, ev_chain, ev_not, ev_and, ev_or, ev_ite, ev_tup, ev_lst, ev_frz, ev_ix, ev_sl, ev_bi, ev_isi, ev_lr, ev_call, ev_mth, evs_nil, evs_cons, evO_none, evO_some, evT_none, evT_some, evI_seq, evI_r1, evI_enum, evI_zip, List.map_cons, List.map_nil, List.cons_append, List.nil_append, List.replicate, getVar, List.getElem?_cons_zero, List.getElem?_cons_succ, lift_some', bnd_ret, bnd_assoc, look_some', tB, tI, hO, frz_d, frz_f, its_fresh, storeTop, storeAt, setAt, List.length_cons, List.length_nil, List.set_cons_zero, List.set_cons_succ, Nat.reduceLT, Nat.reduceAdd, Nat.reduceSub, if_true, if_false, Bool.false_eq_true, permute, hvs?, datas?, chk_true, runCall_f]
    rw [bnd_at _ e2]
    simp only [exs_nil, exs_cons, ex_asg, ex_par, ex_expr, ex_ret, ex_ite, ev_var, ev_lit, ev_glob, ev_bin, ev_neg, ev_cmp, ev_chain, ev_not, ev_and, ev_or, ev_ite, ev_tup, ev_lst, ev_frz, ev_ix, ev_sl, ev_bi, ev_isi, ev_lr, ev_call, ev_mth, evs_nil, evs_cons, evO_none, evO_some, evT_none, evT_some, evI_seq, evI_r1, evI_enum, evI_zip, List.map_cons, List.map_nil, List.cons_append, List.nil_append, List.replicate, getVar, List.getElem?_cons_zero, List.getElem?_cons_succ, lift_some', bnd_ret, bnd_assoc, look_some', tB, tI, hO, frz_d, frz_f, its_fresh, storeTop, storeAt, setAt, List.length_cons, List.length_nil, List.set_cons_zero, List.set_cons_succ, Nat.reduceLT, Nat.reduceAdd, Nat.reduceSub, if_true, if_false, Bool.false_eq_true, permute, hvs?, datas?, chk_true]
    rfl) ?_
  refine Ends.go (env' := [some (.ref n), some (.d (T as)), some (.d (rq E)), none, none, none, none, none, none, none, none, none, none]) (h' := h4) (by
    simp only [exs_nil, exs_cons, ex_asg, ex_par, ex_expr, ex_ret, ex_ite, ev_var, ev_lit, ev_glob, ev_bin, ev_neg, ev_cmp, ev_chain, ev_not, ev_and, ev_or, ev_ite, ev_tup, ev_lst, ev_frz, ev_ix, ev_sl, ev_bi, ev_isi, ev_lr, ev_call, ev_mth, evs_nil, evs_cons, evO_none, evO_some, evT_none, evT_some, evI_seq, evI_r1, evI_enum, evI_zip, List.map_cons, List.map_nil, List.cons_append, List.nil_append, List.replicate, getVar, List.getElem?_cons_zero, List.getElem?_cons_succ, lift_some', bnd_ret, bnd_assoc, look_some', tB, tI, hO, frz_d, frz_f, its_fresh, storeTop, storeAt, setAt, List.length_cons, List.length_nil, List.set_cons_zero, List.set_cons_succ, Nat.reduceLT, Nat.reduceAdd, Nat.reduceSub, if_true, if_false, Bool.false_eq_true, permute, hvs?, datas?, chk_true, runCall_f]
    rw [bnd_at _ e3]
    simp only [exs_nil, exs_cons, ex_asg, ex_par, ex_expr, ex_ret, ex_ite, ev_var, ev_lit, ev_glob, ev_bin, ev_neg, ev_cmp, ev_chain, ev_not, ev_and, ev_or, ev_ite, ev_tup, ev_lst, ev_frz, ev_ix, ev_sl, ev_bi, ev_isi, ev_lr, ev_call, ev_mth, evs_nil, evs_cons, evO_none, evO_some, evT_none, evT_some, evI_seq, evI_r1, evI_enum, evI_zip, List.map_cons, List.map_nil, List.cons_append, List.nil_append, List.replicate, getVar, List.getElem?_cons_zero, List.getElem?_cons_succ, lift_some', bnd_ret, bnd_assoc, look_some', tB, tI, hO, frz_d, frz_f, its_fresh, storeTop, storeAt, setAt, List.length_cons, List.length_nil, List.set_cons_zero, List.set_cons_succ, Nat.reduceLT, Nat.reduceAdd, Nat.reduceSub, if_true, if_false, Bool.false_eq_true, permute, hvs?, datas?, chk_true, Bool.not_true]
    rw [bnd_at _ e4]
    simp only [exs_nil, exs_cons, ex_asg, ex_par, ex_expr, ex_ret, ex_ite, ev_var, ev_lit, ev_glob, ev_bin, ev_neg, ev_cmp, ev_chain, ev_not, ev_and, ev_or, ev_ite, ev_tup, ev_lst, ev_frz, ev_ix, ev_sl, ev_bi, ev_isi, ev_lr, ev_call, ev_mth, evs_nil, evs_cons, evO_none, evO_some, evT_none, evT_some, evI_seq, evI_r1, evI_enum, evI_zip, List.map_cons, List.map_nil, List.cons_append, List.nil_append, List.replicate, getVar, List.getElem?_cons_zero, List.getElem?_cons_succ, lift_some', bnd_ret, bnd_assoc, look_some', tB, tI, hO, frz_d, frz_f, its_fresh, storeTop, storeAt, setAt, List.length_cons, List.length_nil, List.set_cons_zero, List.set_cons_succ, Nat.reduceLT, Nat.reduceAdd, Nat.reduceSub, if_true, if_false, Bool.false_eq_true, permute, hvs?, datas?, chk_true, Bool.not_true]
    rfl) ?_
  refine Ends.go (env' := [some (.ref n), some (.d (T as)), some (.d (rq E)), none, none, none, some (I one), some (I other), none, none, none, none, none]) (h' := (h4.set n (OP p1 q1)).set n (OP p2 q2)) (by
    simp only [exs_nil, exs_cons, ex_asg, ex_par, ex_expr, ex_ret, ex_ite, ev_var, ev_lit, ev_glob, ev_bin, ev_neg, ev_cmp, ev_chain, ev_not, ev_and, ev_or, ev_ite, ev_tup, ev_lst, ev_frz, ev_ix, ev_sl, ev_bi, ev_isi, ev_lr, ev_call, ev_mth, evs_nil, evs_cons, evO_none, evO_some, evT_none, evT_some, evI_seq, evI_r1, evI_enum, evI_zip, List.map_cons, List.map_nil, List.cons_append, List.nil_append, List.replicate, getVar, List.getElem?_cons_zero, List.getElem?_cons_succ, lift_some', bnd_ret, bnd_assoc, look_some', tB, tI, hO, frz_d, frz_f, its_fresh, storeTop, storeAt, setAt, List.length_cons, List.length_nil, List.set_cons_zero, List.set_cons_succ, Nat.reduceLT, Nat.reduceAdd, Nat.reduceSub, if_true, if_false, Bool.false_eq_true, permute, hvs?, datas?, chk_true, ex_par, runCall_f]
    rw [bnd_at _ e5]
    simp only [exs_nil, exs_cons, ex_asg, ex_par, ex_expr, ex_ret, ex_ite, ev_var, ev_lit, ev_glob, ev_bin, ev_neg, ev_cmp, ev_chain, ev_not, ev_and, ev_or, ev_ite, ev_tup, ev_lst, ev_frz, ev_ix, ev_sl, ev_bi, ev_isi, ev_lr, ev_call, ev_mth, evs_nil, evs_cons, evO_none, evO_some, evT_none, evT_some, evI_seq, evI_r1, evI_enum, evI_zip, List.map_cons, List.map_nil, List.cons_append, List.nil_append, List.replicate, getVar, List.getElem?_cons_zero, List.getElem?_cons_succ, lift_some', bnd_ret, bnd_assoc, look_some', tB, tI, hO, frz_d, frz_f, its_fresh, storeTop, storeAt, setAt, List.length_cons, List.length_nil, List.set_cons_zero, List.set_cons_succ, Nat.reduceLT, Nat.reduceAdd, Nat.reduceSub, if_true, if_false, Bool.false_eq_true, permute, hvs?, datas?, chk_true, bin_addI, hone]
    rw [bnd_at _ e6]
    simp only [exs_nil, exs_cons, ex_asg, ex_par, ex_expr, ex_ret, ex_ite, ev_var, ev_lit, ev_glob, ev_bin, ev_neg, ev_cmp, ev_chain, ev_not, ev_and, ev_or, ev_ite, ev_tup, ev_lst, ev_frz, ev_ix, ev_sl, ev_bi, ev_isi, ev_lr, ev_call, ev_mth, evs_nil, evs_cons, evO_none, evO_some, evT_none, evT_some, evI_seq, evI_r1, evI_enum, evI_zip, List.map_cons, List.map_nil, List.cons_append, List.nil_append, List.replicate, getVar, List.getElem?_cons_zero, List.getElem?_cons_succ, lift_some', bnd_ret, bnd_assoc, look_some', tB, tI, hO, frz_d, frz_f, its_fresh, storeTop, storeAt, setAt, List.length_cons, List.length_nil, List.set_cons_zero, List.set_cons_succ, Nat.reduceLT, Nat.reduceAdd, Nat.reduceSub, if_true, if_false, Bool.false_eq_true, permute, hvs?, datas?, chk_true, bin_addI, hother, lk2, decide_true, Bool.and_self, List.reverse_cons, List.reverse_nil, storeAts]
    rfl) ?_
  have m5 : runCall (callN prog (K + 10)) "_law_made" true [I d3, I 5] = Ev.ret (rD (rq (Rat.divInt d3 (5 : Nat)))) := pc (lmade_run (K + 9) d3 (5 : Nat) (by decide) (Nat.lt_of_lt_of_le (show d3.natAbs < 2 ^ 20 by omega) (Nat.pow_le_pow_right (by decide) (by decide))) (by decide)) rfl rfl
  have ef : frzV (.fresh [.d (.tuple [.int 0, .int 1]), .d (.tuple [.int one, .int 1]), .d (.tuple [.int other, .int 1]), .d (.tuple [.int (one + other), .int 1]), .d (rq (Rat.divInt d3 (5 : Nat)))]) = Ev.ret (rD (.list [.tuple [.int 0, .int 1], .tuple [.int one, .int 1], .tuple [.int other, .int 1], .tuple [.int (one + other), .int 1], rq (Rat.divInt d3 (5 : Nat))])) := frz_f [.tuple [.int 0, .int 1], .tuple [.int one, .int 1], .tuple [.int other, .int 1], .tuple [.int (one + other), .int 1], rq (Rat.divInt d3 (5 : Nat))]
  generalize rq (Rat.divInt d3 (5 : Nat)) = RQ at m5 ef e8
  refine Ends.go (env' := [some (.ref n), some (.d (T as)), some (.d (rq E)), some (.d (rq B)), none, none, some (I one), some (I other), none, none, none, none, none]) (h' := (((h4.set n (OP p1 q1)).set n (OP p2 q2)).set n (OP p3 q3)).set n (OP p4 q4)) (by
    simp only [exs_nil, exs_cons, ex_asg, ex_par, ex_expr, ex_ret, ex_ite, ev_var, ev_lit, ev_glob, ev_bin, ev_neg, ev_cmp, ev_chain, ev_not, ev_and, ev_or, ev_ite, ev_tup, ev_lst, ev_frz, ev_ix, ev_sl, ev_bi, ev_isi, ev_lr, ev_call, ev_mth, evs_nil, evs_cons, evO_none, evO_some, evT_none, evT_some, evI_seq, evI_r1, evI_enum, evI_zip, List.map_cons, List.map_nil, List.cons_append, List.nil_append, List.replicate, getVar, List.getElem?_cons_zero, List.getElem?_cons_succ, lift_some', bnd_ret, bnd_assoc, look_some', tB, tI, hO, frz_d, frz_f, its_fresh, storeTop, storeAt, setAt, List.length_cons, List.length_nil, List.set_cons_zero, List.set_cons_succ, Nat.reduceLT, Nat.reduceAdd, Nat.reduceSub, if_true, if_false, Bool.false_eq_true, permute, hvs?, datas?, chk_true, lk2, bin_addI, bin_mulI 5 (one + other) _ (by decide) (Nat.lt_of_lt_of_le (bits_abs (k := 20) (show (one + other).natAbs < 2 ^ 20 by omega) (by decide)) (by decide)), runCall_f]
    rw [bnd_at _ e7]
    simp only [exs_nil, exs_cons, ex_asg, ex_par, ex_expr, ex_ret, ex_ite, ev_var, ev_lit, ev_glob, ev_bin, ev_neg, ev_cmp, ev_chain, ev_not, ev_and, ev_or, ev_ite, ev_tup, ev_lst, ev_frz, ev_ix, ev_sl, ev_bi, ev_isi, ev_lr, ev_call, ev_mth, evs_nil, evs_cons, evO_none, evO_some, evT_none, evT_some, evI_seq, evI_r1, evI_enum, evI_zip, List.map_cons, List.map_nil, List.cons_append, List.nil_append, List.replicate, getVar, List.getElem?_cons_zero, List.getElem?_cons_succ, lift_some', bnd_ret, bnd_assoc, look_some', tB, tI, hO, frz_d, frz_f, its_fresh, storeTop, storeAt, setAt, List.length_cons, List.length_nil, List.set_cons_zero, List.set_cons_succ, Nat.reduceLT, Nat.reduceAdd, Nat.reduceSub, if_true, if_false, Bool.false_eq_true, permute, hvs?, datas?, chk_true, m5, show lenOk 5 = true from rfl, ef]
    rw [bnd_at _ e8]
    simp only [exs_nil, exs_cons, ex_asg, ex_par, ex_expr, ex_ret, ex_ite, ev_var, ev_lit, ev_glob, ev_bin, ev_neg, ev_cmp, ev_chain, ev_not, ev_and, ev_or, ev_ite, ev_tup, ev_lst, ev_frz, ev_ix, ev_sl, ev_bi, ev_isi, ev_lr, ev_call, ev_mth, evs_nil, evs_cons, evO_none, evO_some, evT_none, evT_some, evI_seq, evI_r1, evI_enum, evI_zip, List.map_cons, List.map_nil, List.cons_append, List.nil_append, List.replicate, getVar, List.getElem?_cons_zero, List.getElem?_cons_succ, lift_some', bnd_ret, bnd_assoc, look_some', tB, tI, hO, frz_d, frz_f, its_fresh, storeTop, storeAt, setAt, List.length_cons, List.length_nil, List.set_cons_zero, List.set_cons_succ, Nat.reduceLT, Nat.reduceAdd, Nat.reduceSub, if_true, if_false, Bool.false_eq_true, permute, hvs?, datas?, chk_true]
    rfl) ?_
  generalize (((h4.set n (OP p1 q1)).set n (OP p2 q2)).set n (OP p3 q3)).set n (OP p4 q4) = H at hp8
  have sB := nB.sm (by decide) (by decide)
  have pg := pc (lgarment_run (K + 7) 10 gx (by omega) (by omega)) rfl rfl
  have pb := pc (bygarment_run (K + 5) 10 (by decide) (by decide) r1 r2 nB B0 B1) rfl rfl
  have psh := pc (shared_run .g (K + 2) 10 hs2) rfl (outOk_map _ _)
  simp only [Ru.name] at psh
  obtain ⟨n1, n2, n3, n4, n5⟩ := gx.parts
  have sc1 : Sm (cg1 ((one : Int) : Rat) ((other : Int) : Rat) B) := by
    rw [hpair.1]
    obtain ⟨N, hN, hN1, hN2⟩ := whole_sum ax2
    exact (phi_nb .g hs2 hN hN1 (x := ((one : Int) : Rat)) List.mem_cons_self).sm (by omega) (by omega)
  have sc2 : Sm (cg2 ((one : Int) : Rat) ((other : Int) : Rat) B) := by
    rw [hpair.2]
    obtain ⟨N, hN, hN1, hN2⟩ := whole_sum ax2
    exact (phi_nb .g hs2 hN hN1 (x := ((other : Int) : Rat)) (List.mem_cons_of_mem _ List.mem_cons_self)).sm (by omega) (by omega)
  have etup : ∀ hp, biV hp .tuple [.fresh ((cR [one, other]).map fun x => .d (rq (phi .g (cR [one, other]) B x)))] = some (rD (.tuple [rq (cg1 ((one : Int) : Rat) ((other : Int) : Rat) B), rq (cg2 ((one : Int) : Rat) ((other : Int) : Rat) B)])) := fun hp => by
    rw [hpair.1, hpair.2]
    exact tup_run (cR [one, other]) (fun x => rq (phi .g (cR [one, other]) B x)) hp
  have sd : Sh (.tuple [rq (cg1 ((one : Int) : Rat) ((other : Int) : Rat) B), rq (cg2 ((one : Int) : Rat) ((other : Int) : Rat) B)]) 2 30000 := by
    have := Sh.tuple (xs := [rq (cg1 ((one : Int) : Rat) ((other : Int) : Rat) B), rq (cg2 ((one : Int) : Rat) ((other : Int) : Rat) B)]) (k := 1) (w := 10000) (fun x hx => by
      simp only [List.mem_cons, List.not_mem_nil, or_false] at hx
      rcases hx with rfl | rfl
      · exact sh_rq sc1
      · exact sh_rq sc2)
    exact this.mono (Nat.le_refl _) (by simp only [List.length_cons, List.length_nil]; omega)
  generalize PyData.tuple [rq (cg1 ((one : Int) : Rat) ((other : Int) : Rat) B), rq (cg2 ((one : Int) : Rat) ((other : Int) : Rat) B)] = DUE at pg pb etup sd
  have s3 := sh3 sd sd sd
  have hT2 : HV.d (.tuple [.int one, .int other]) = .d (T [one, other]) := rfl
  refine Ends.pure (env' := [some (.ref n), some (.d (T as)), some (.d (rq E)), some (.d (rq B)), some (.d DUE), none, some (I one), some (I other), none, none, none, none, none]) (by
    simp only [exs_nil, exs_cons, ex_asg, ex_par, ex_expr, ex_ret, ex_ite, ev_var, ev_lit, ev_glob, ev_bin, ev_neg, ev_cmp, ev_chain, ev_not, ev_and, ev_or, ev_ite, ev_tup, ev_lst, ev_frz, ev_ix, ev_sl, ev_bi, ev_isi, ev_lr, ev_call, ev_mth, evs_nil, evs_cons, evO_none, evO_some, evT_none, evT_some, evI_seq, evI_r1, evI_enum, evI_zip, List.map_cons, List.map_nil, List.cons_append, List.nil_append, List.replicate, getVar, List.getElem?_cons_zero, List.getElem?_cons_succ, lift_some', bnd_ret, bnd_assoc, look_some', tB, tI, hO, frz_d, frz_f, its_fresh, storeTop, storeAt, setAt, List.length_cons, List.length_nil, List.set_cons_zero, List.set_cons_succ, Nat.reduceLT, Nat.reduceAdd, Nat.reduceSub, if_true, if_false, Bool.false_eq_true, permute, hvs?, datas?, chk_true, pg]) ?_
  refine Ends.pure (env' := [some (.ref n), some (.d (T as)), some (.d (rq E)), some (.d (rq B)), some (.d DUE), none, some (I one), some (I other), none, none, none, none, none]) (by
    have psh' : runCall (callN prog (K + 10)) "shared" true [.d (.str "garment"), .d (.tuple [.int one, .int other]), .d (rq B)] = Ev.ret (.fresh ((cR [one, other]).map fun x => .d (rq (phi .g (cR [one, other]) B x)))) := psh
    generalize (cR [one, other]).map (fun x => HV.d (rq (phi .g (cR [one, other]) B x))) = FR at psh' etup
    simp only [exs_nil, exs_cons, ex_asg, ex_par, ex_expr, ex_ret, ex_ite, ev_var, ev_lit, ev_glob, ev_bin, ev_neg, ev_cmp, ev_chain, ev_not, ev_and, ev_or, ev_ite, ev_tup, ev_lst, ev_frz, ev_ix, ev_sl, ev_bi, ev_isi, ev_lr, ev_call, ev_mth, evs_nil, evs_cons, evO_none, evO_some, evT_none, evT_some, evI_seq, evI_r1, evI_enum, evI_zip, List.map_cons, List.map_nil, List.cons_append, List.nil_append, List.replicate, getVar, List.getElem?_cons_zero, List.getElem?_cons_succ, lift_some', bnd_ret, bnd_assoc, look_some', tB, tI, hO, frz_d, frz_f, its_fresh, storeTop, storeAt, setAt, List.length_cons, List.length_nil, List.set_cons_zero, List.set_cons_succ, Nat.reduceLT, Nat.reduceAdd, Nat.reduceSub, if_true, if_false, Bool.false_eq_true, permute, hvs?, datas?, chk_true, pb, lk2, psh', etup, lk3, lk1, mul3, repr_3 (s3.ok (by decide) (by decide)), ne_same s3.so]) ?_
  obtain ⟨env', h', e, ⟨a4, a5, a8, a9, a10, a11, a12, rfl⟩, hp9⟩ := ex_for_inv (C := callN prog (K + 10)) (t := .name 5) (it := .seq (.tup [(.lit (.str "awards")), (.lit (.str "losses")), (.lit (.str "garment")), (.lit (.str "parts"))])) (b := bodyR) (env := [some (.ref n), some (.d (T as)), some (.d (rq E)), some (.d (rq B)), some (.d DUE), none, some (I one), some (I other), none, none, none, none, none]) (h := H) (fun r : Ru => .d (.str r.name)) [Ru.a, Ru.l, Ru.g, Ru.p]
    (fun _ env h => (∃ e4 e5 e8 e9 e10 e11 e12, env = [some (.ref n), some (.d (T as)), some (.d (rq E)), some (.d (rq B)), e4, e5, some (I one), some (I other), e8, e9, e10, e11, e12]) ∧ PotAt h n) (by
      simp only [exs_nil, exs_cons, ex_asg, ex_par, ex_expr, ex_ret, ex_ite, ev_var, ev_lit, ev_glob, ev_bin, ev_neg, ev_cmp, ev_chain, ev_not, ev_and, ev_or, ev_ite, ev_tup, ev_lst, ev_frz, ev_ix, ev_sl, ev_bi, ev_isi, ev_lr, ev_call, ev_mth, evs_nil, evs_cons, evO_none, evO_some, evT_none, evT_some, evI_seq, evI_r1, evI_enum, evI_zip, List.map_cons, List.map_nil, List.cons_append, List.nil_append, List.replicate, getVar, List.getElem?_cons_zero, List.getElem?_cons_succ, lift_some', bnd_ret, bnd_assoc, look_some', tB, tI, hO, frz_d, frz_f, its_fresh, storeTop, storeAt, setAt, List.length_cons, List.length_nil, List.set_cons_zero, List.set_cons_succ, Nat.reduceLT, Nat.reduceAdd, Nat.reduceSub, if_true, if_false, Bool.false_eq_true, permute, hvs?, datas?, chk_true, show lenOk 4 = true from rfl]
      rfl) ⟨⟨_, _, _, _, _, _, _, rfl⟩, hp8⟩ (fun k r env h _ ⟨⟨e4, e5, e8, e9, e10, e11, e12, he⟩, hp⟩ => by
      subst he
      obtain ⟨env', h', e, g⟩ := rule_run K n h hp hs r (some (.d (rq B))) e4 (some (I one)) (some (I other)) e8 e9 e10 e11 e12
      refine ⟨env', h', ?_, g⟩
      simp only [store_name, setAt, List.length_cons, List.length_nil, List.set_cons_zero, List.set_cons_succ, Nat.reduceLT, Nat.reduceAdd, if_true, lift_some', bnd_ret]
      exact e)
  refine Ends.go e ?_
  exact Ends.ret (by simp only [exs_nil, exs_cons, ex_asg, ex_par, ex_expr, ex_ret, ex_ite, ev_var, ev_lit, ev_glob, ev_bin, ev_neg, ev_cmp, ev_chain, ev_not, ev_and, ev_or, ev_ite, ev_tup, ev_lst, ev_frz, ev_ix, ev_sl, ev_bi, ev_isi, ev_lr, ev_call, ev_mth, evs_nil, evs_cons, evO_none, evO_some, evT_none, evT_some, evI_seq, evI_r1, evI_enum, evI_zip, List.map_cons, List.map_nil, List.cons_append, List.nil_append, List.replicate, getVar, List.getElem?_cons_zero, List.getElem?_cons_succ, lift_some', bnd_ret, bnd_assoc, look_some', tB, tI, hO, frz_d, frz_f, its_fresh, storeTop, storeAt, setAt, List.length_cons, List.length_nil, List.set_cons_zero, List.set_cons_succ, Nat.reduceLT, Nat.reduceAdd, Nat.reduceSub, if_true, if_false, Bool.false_eq_true, permute, hvs?, datas?, chk_true]) hp9
theorem law_run (K : Nat) (ns : List Int) : ∃ h', callN prog (K + 12) "law" [.scr ns] [] = some (rD (.bool true), h') := by
  have main : ∃ h', callN prog (K + 12) "law" [.scr ns] [] = some (rD (.bool true), h') ∧ True := by
    refine call_ends (f := f_law) (by rfl) rfl ?_
    unfold f_law
    have hb : ∃ c : Nat, c ≤ 3 ∧ ∀ h, (bnd (look fun h => biV h .min2 [rD (.int 3), rD (.int ns.length)]) fun x => look fun h => biV h .max2 [rD (.int 1), x]) h = some (rD (.int c), h) := by
      refine ⟨(max 1 (min 3 ns.length)), by omega, fun h => ?_⟩
      simp only [min2_run, max2_run, look_some', bnd_ret]
      show some (rD (.int _), h) = _
      congr 3
      congr 1
      split <;> split <;> omega
    obtain ⟨c, hc, hb⟩ := hb
    have hI : evI (callN prog (K + 11)) (.range1 (.bi .max2 [(.lit (.int 1)), (.bi .min2 [(.lit (.int 3)), (.bi .len [(.var 0)])])])) [some (.scr ns), none] [] = some (.seq ((List.range c).map fun i => I (i : Nat)), []) := by
      have := range_dyn (C := callN prog (K + 11)) (e := .bi .max2 [(.lit (.int 1)), (.bi .min2 [(.lit (.int 3)), (.bi .len [(.var 0)])])]) (env := [some (.scr ns), none]) (h := []) (h1 := []) (d := c) (by
        simp only [exs_nil, exs_cons, ex_asg, ex_par, ex_expr, ex_ret, ex_ite, ev_var, ev_lit, ev_glob, ev_bin, ev_neg, ev_cmp, ev_chain, ev_not, ev_and, ev_or, ev_ite, ev_tup, ev_lst, ev_frz, ev_ix, ev_sl, ev_bi, ev_isi, ev_lr, ev_call, ev_mth, evs_nil, evs_cons, evO_none, evO_some, evT_none, evT_some, evI_seq, evI_r1, evI_enum, evI_zip, List.map_cons, List.map_nil, List.cons_append, List.nil_append, List.replicate, getVar, List.getElem?_cons_zero, List.getElem?_cons_succ, lift_some', bnd_ret, bnd_assoc, look_some', tB, tI, hO, frz_d, frz_f, its_fresh, storeTop, storeAt, setAt, List.length_cons, List.length_nil, List.set_cons_zero, List.set_cons_succ, Nat.reduceLT, Nat.reduceAdd, Nat.reduceSub, if_true, if_false, Bool.false_eq_true, permute, hvs?, datas?, chk_true, len_scr]
        exact hb []) (by omega) (by omega)
      rw [Int.toNat_natCast] at this
      exact this
    obtain ⟨ys, h2, e2, _, l2, q2⟩ := compSeq_ex (turn := turnOf (callN prog (K + 11)) (.frz (.call "_law_right" false [0] [(.new (.call "_law_pot" true [0, 1] [(.var 0), (.var 1)]))])) (.name 1) none [1] [some (.scr ns), none]) (fun i : Nat => I (i : Nat)) (fun _ => True) (fun y => y = .d (.bool true)) (List.range c) (fun x hx h _ => by
      have hx := List.mem_range.mp hx
      obtain ⟨p, q, e1, p0, q0, q1⟩ := pot_run (K + 10) x (by omega) ns
      have hpot : PotAt (h ++ [OP p q]) h.length := ⟨p, q, by simp, p0, q0, q1⟩
      obtain ⟨h2, e2, _⟩ := lright_run K h.length (h ++ [OP p q]) hpot
      refine ⟨.d (.bool true), h2, ?_, trivial, rfl⟩
      have i1 : newV (.fresh [I p, I q]) h = some (.hv (.ref h.length), h ++ [OP p q]) := rfl
      unfold turnOf
      simp only [exs_nil, exs_cons, ex_asg, ex_par, ex_expr, ex_ret, ex_ite, ev_var, ev_lit, ev_glob, ev_bin, ev_neg, ev_cmp, ev_chain, ev_not, ev_and, ev_or, ev_ite, ev_tup, ev_lst, ev_frz, ev_ix, ev_sl, ev_bi, ev_isi, ev_lr, ev_call, ev_mth, evs_nil, evs_cons, evO_none, evO_some, evT_none, evT_some, evI_seq, evI_r1, evI_enum, evI_zip, List.map_cons, List.map_nil, List.cons_append, List.nil_append, List.replicate, getVar, List.getElem?_cons_zero, List.getElem?_cons_succ, lift_some', bnd_ret, bnd_assoc, look_some', tB, tI, hO, frz_d, frz_f, its_fresh, storeTop, storeAt, setAt, List.length_cons, List.length_nil, List.set_cons_zero, List.set_cons_succ, Nat.reduceLT, Nat.reduceAdd, Nat.reduceSub, if_true, if_false, Bool.false_eq_true, permute, hvs?, datas?, chk_true, store_name, Ev.wipe, ev_new, pc e1 rfl rfl]
      rw [bnd_at _ i1]
      simp only [exs_nil, exs_cons, ex_asg, ex_par, ex_expr, ex_ret, ex_ite, ev_var, ev_lit, ev_glob, ev_bin, ev_neg, ev_cmp, ev_chain, ev_not, ev_and, ev_or, ev_ite, ev_tup, ev_lst, ev_frz, ev_ix, ev_sl, ev_bi, ev_isi, ev_lr, ev_call, ev_mth, evs_nil, evs_cons, evO_none, evO_some, evT_none, evT_some, evI_seq, evI_r1, evI_enum, evI_zip, List.map_cons, List.map_nil, List.cons_append, List.nil_append, List.replicate, getVar, List.getElem?_cons_zero, List.getElem?_cons_succ, lift_some', bnd_ret, bnd_assoc, look_some', tB, tI, hO, frz_d, frz_f, its_fresh, storeTop, storeAt, setAt, List.length_cons, List.length_nil, List.set_cons_zero, List.set_cons_succ, Nat.reduceLT, Nat.reduceAdd, Nat.reduceSub, if_true, if_false, Bool.false_eq_true, permute, hvs?, datas?, chk_true, runCall_f]
      rw [bnd_at _ e2]
      simp only [exs_nil, exs_cons, ex_asg, ex_par, ex_expr, ex_ret, ex_ite, ev_var, ev_lit, ev_glob, ev_bin, ev_neg, ev_cmp, ev_chain, ev_not, ev_and, ev_or, ev_ite, ev_tup, ev_lst, ev_frz, ev_ix, ev_sl, ev_bi, ev_isi, ev_lr, ev_call, ev_mth, evs_nil, evs_cons, evO_none, evO_some, evT_none, evT_some, evI_seq, evI_r1, evI_enum, evI_zip, List.map_cons, List.map_nil, List.cons_append, List.nil_append, List.replicate, getVar, List.getElem?_cons_zero, List.getElem?_cons_succ, lift_some', bnd_ret, bnd_assoc, look_some', tB, tI, hO, frz_d, frz_f, its_fresh, storeTop, storeAt, setAt, List.length_cons, List.length_nil, List.set_cons_zero, List.set_cons_succ, Nat.reduceLT, Nat.reduceAdd, Nat.reduceSub, if_true, if_false, Bool.false_eq_true, permute, hvs?, datas?, chk_true]
      rfl) [] trivial
    rw [List.length_range] at l2
    have hall : ∀ (zs : List HV), (∀ y ∈ zs, y = .d (.bool true)) → ∀ h, biV h .all [.fresh zs] = some (rD (.bool true)) := fun zs hz h => by
      have e : zs = zs.map fun _ => HV.d (.bool true) := (List.map_id zs).symm.trans (List.map_congr_left fun y hy => hz y hy)
      rw [e]
      exact alldata_run zs (fun _ => true) h (fun _ _ => rfl)
    refine ⟨[some (.scr ns), none], h2, ?_, trivial⟩
    simp only [exs_nil, exs_cons, ex_asg, ex_par, ex_expr, ex_ret, ex_ite, ev_var, ev_lit, ev_glob, ev_bin, ev_neg, ev_cmp, ev_chain, ev_not, ev_and, ev_or, ev_ite, ev_tup, ev_lst, ev_frz, ev_ix, ev_sl, ev_bi, ev_isi, ev_lr, ev_call, ev_mth, evs_nil, evs_cons, evO_none, evO_some, evT_none, evT_some, evI_seq, evI_r1, evI_enum, evI_zip, List.map_cons, List.map_nil, List.cons_append, List.nil_append, List.replicate, getVar, List.getElem?_cons_zero, List.getElem?_cons_succ, lift_some', bnd_ret, bnd_assoc, look_some', tB, tI, hO, frz_d, frz_f, its_fresh, storeTop, storeAt, setAt, List.length_cons, List.length_nil, List.set_cons_zero, List.set_cons_succ, Nat.reduceLT, Nat.reduceAdd, Nat.reduceSub, if_true, if_false, Bool.false_eq_true, permute, hvs?, datas?, chk_true]
    rw [bnd_at _ (ev_comp_at hI e2 (by omega))]
    simp only [exs_nil, exs_cons, ex_asg, ex_par, ex_expr, ex_ret, ex_ite, ev_var, ev_lit, ev_glob, ev_bin, ev_neg, ev_cmp, ev_chain, ev_not, ev_and, ev_or, ev_ite, ev_tup, ev_lst, ev_frz, ev_ix, ev_sl, ev_bi, ev_isi, ev_lr, ev_call, ev_mth, evs_nil, evs_cons, evO_none, evO_some, evT_none, evT_some, evI_seq, evI_r1, evI_enum, evI_zip, List.map_cons, List.map_nil, List.cons_append, List.nil_append, List.replicate, getVar, List.getElem?_cons_zero, List.getElem?_cons_succ, lift_some', bnd_ret, bnd_assoc, look_some', tB, tI, hO, frz_d, frz_f, its_fresh, storeTop, storeAt, setAt, List.length_cons, List.length_nil, List.set_cons_zero, List.set_cons_succ, Nat.reduceLT, Nat.reduceAdd, Nat.reduceSub, if_true, if_false, Bool.false_eq_true, permute, hvs?, datas?, chk_true, hall ys q2]
    rfl
  obtain ⟨h', e, _⟩ := main
  exact ⟨h', e⟩
end Lw

set_option maxRecDepth 100000 in
set_option maxHeartbeats 8000000 in
theorem PySem.Challenge.cw_calledpapers_k90_whole_consistent_shares_holds : PySem.Challenge.rw_calledpapers_k90_whole_consistent_shares.Holds := by
  exact Lw.main 11 ⟨rfl, by decide, by decide⟩ fun ns _ => Lw.law_run 0 ns
