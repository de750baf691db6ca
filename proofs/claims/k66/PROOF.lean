import PyProof.Rows.All
import Wide.All
import OpenK.AllK
import Wide.FinOn
import PySem.Challenge.RW_benchbound_k66_whole_texts_of_formulas
import HandS.ForMost
import HandS.Exc
import HandS.ExcOwn
import HandS.TryOnly
import HandS.WordsExc
import HandS.Lambda
import HandS.TupAny
import HandS.TupMul
import HandS.TupLe
import HandS.IsInst
import HandS.Gcd
import HandS.Wide
import HandS.Zip
import HandS.SortInts
import HandS.Text
import KE.GoesEnum
import HandS.Style
import HandS.Defaults
import HandS.ExcCtx
import HandS.Codes
import HandS.HotCalls
import HandS.ExcIs
import HandS.HeadHook4
import HandS.HeadWalk
import HandS.HeadEnd
import HandS.Head2
import HandS.Words
import KE.KStateDown
import Lean
import HandS.Ends
import HandS.More
import HandS.Head0
import HandS.Head1
import HandS.HeadHook1
import HandS.HeadHook2
set_option Elab.async false
set_option linter.all false
/-! PyI: values, memory, outcomes and the combinators in which the programs are told. No kit in sight. -/
namespace Py

inductive PV where
  | non | bl (b : Bool) | int (i : Int) | str (s : List Nat)
  | tup (xs : List PV) | lst (xs : List PV)
  | mref (n : Nat)
  | glob (x : String)
  | exn (c : String)
  | scr (xs : List PV)

/-- a mutable object -/
inductive MO where
  | lst (xs : List PV)
  | ins (cls : String) (fs : List (String × PV))
  | dct (kvs : List (PV × PV))

abbrev Mem := List MO
structure Exc where
  cls : String
  fs : List (String × PV)

inductive Res (α : Type) where
  | ok (a : α) (μ : Mem)
  | exc (x : Exc) (μ : Mem)
  | bad

@[inline] def Res.bind {α β : Type} (r : Res α) (k : α → Mem → Res β) : Res β := match r with
  | .ok a μ => k a μ
  | .exc x μ => .exc x μ
  | .bad => .bad

abbrev PEnv := List (Option PV)
abbrev M (α : Type) := Mem → Res α
abbrev Ev := PEnv → M PV
abbrev Tv := PEnv → M Bool
abbrev Av := PEnv → M (List PV)
abbrev Fn := List PV → M PV

inductive Out where
  | next (ρ : PEnv) (μ : Mem)
  | ret (v : PV) (μ : Mem)
  | brk (ρ : PEnv) (μ : Mem)
  | cont (ρ : PEnv) (μ : Mem)
  | exc (x : Exc) (ρ : PEnv) (μ : Mem)
  | bad
abbrev Sv := PEnv → Mem → Out
/-- a target: the environment behind the store -/
abbrev Tg := PV → PEnv → M PEnv

/-! ### equality of data -/
mutual
def peq : PV → PV → Bool
  | .non, .non => true
  | .bl a, .bl b => a == b
  | .bl a, .int j => (if a then 1 else 0) == j
  | .int i, .bl b => i == (if b then 1 else 0)
  | .int i, .int j => i == j
  | .str x, .str y => x == y
  | .tup xs, .tup ys => peqs xs ys
  | .lst xs, .lst ys => peqs xs ys
  | _, _ => false
def peqs : List PV → List PV → Bool
  | [], [] => true
  | x :: xs, y :: ys => peq x y && peqs xs ys
  | _, _ => false
end
mutual
/-- how deep a value of data is (none: not data) -/
def pdepth : PV → Option Nat
  | .non => some 0 | .bl _ => some 0 | .int _ => some 0 | .str _ => some 0
  | .tup xs => (pdepths xs).map (· + 1)
  | .lst xs => (pdepths xs).map (· + 1)
  | _ => none
def pdepths : List PV → Option Nat
  | [] => some 0
  | x :: xs => match pdepth x, pdepths xs with
    | some a, some b => some (max a b)
    | _, _ => none
end
/-- data of at most 60 levels -/
def isData (v : PV) : Bool := match pdepth v with
  | some d => decide (d ≤ 60)
  | none => false

/-- a mutable list is read as a list -/
def deref (μ : Mem) : PV → PV
  | .mref n => match μ[n]? with
    | some (.lst xs) => .lst xs
    | _ => .mref n
  | v => v

/-! ### expressions -/
def varI (i : Nat) : Ev := fun ρ μ => match ρ[i]? with
  | some (some v) => .ok v μ
  | _ => .bad
def conI (v : PV) : Ev := fun _ μ => .ok v μ
def op1 (f : PV → M PV) (a : Ev) : Ev := fun ρ μ => (a ρ μ).bind f
def op2 (f : PV → PV → M PV) (a b : Ev) : Ev := fun ρ μ => (a ρ μ).bind fun v μ1 => (b ρ μ1).bind fun w μ2 => f v w μ2
def nilI : Av := fun _ μ => .ok [] μ
def consI (a : Ev) (r : Av) : Av := fun ρ μ => (a ρ μ).bind fun v μ1 => (r ρ μ1).bind fun vs μ2 => .ok (v :: vs) μ2
def opN (f : Fn) (as : Av) : Ev := fun ρ μ => (as ρ μ).bind f

/-- sizes: texts, tuples, lists -/
abbrev line : Nat := 16000000

def fTup : Fn := fun vs μ => if vs.length ≤ line then .ok (.tup vs) μ else .bad
def fLst : Fn := fun vs μ => if vs.length ≤ line then .ok (.lst vs) μ else .bad
/-- a list that may change -/
def fMut : Fn := fun vs μ => if vs.length ≤ line then .ok (.mref μ.length) (μ ++ [.lst vs]) else .bad

def small (i : Int) : Bool := decide (-18446744073709551616 < i ∧ i < 18446744073709551616)
/-- below 2 ^ 2000 -/
def wideN : Nat := 2 ^ 2000
def wide (i : Int) : Bool := decide (i.natAbs < wideN)
def fAdd (v w : PV) : M PV := fun μ => match v, w with
  | .int i, .int j => .ok (.int (i + j)) μ
  | .str x, .str y => if x.length + y.length ≤ line then .ok (.str (x ++ y)) μ else .bad
  | .tup x, .tup y => if x.length + y.length ≤ line then .ok (.tup (x ++ y)) μ else .bad
  | .lst x, .lst y => if x.length + y.length ≤ line then .ok (.lst (x ++ y)) μ else .bad
  | _, _ => .bad
def fSub (v w : PV) : M PV := fun μ => match v, w with
  | .int i, .int j => .ok (.int (i - j)) μ
  | _, _ => .bad
def fMul (v w : PV) : M PV := fun μ => match v, w with
  | .int i, .int j => if small i || small j || (wide i && wide j) then .ok (.int (i * j)) μ else .bad
  | .str x, .int k => if 0 ≤ k ∧ k ≤ 16000000 ∧ x.length * k.toNat ≤ line then .ok (.str (List.replicate k.toNat x).flatten) μ else .bad
  | .lst x, .int k => if -16000000 ≤ k ∧ k ≤ 16000000 ∧ x.length * k.toNat ≤ line then .ok (.lst (List.replicate k.toNat x).flatten) μ else .bad
  | .tup x, .int k => if 2 ≤ k ∧ k ≤ 1000 ∧ x.length ≤ 1000 ∧ 1 ≤ x.length then .ok (.tup (List.replicate k.toNat x).flatten) μ else .bad
  | _, _ => .bad
def fDiv (v w : PV) : M PV := fun μ => match v, w with
  | .int i, .int j => if decide (0 < j) && wide j then .ok (.int (i / j)) μ else .bad
  | _, _ => .bad
def fMod (v w : PV) : M PV := fun μ => match v, w with
  | .int i, .int j => if 0 < j then .ok (.int (i % j)) μ else .bad
  | _, _ => .bad
def fPow (v w : PV) : M PV := fun μ => match v, w with
  | .int i, .int j => if 0 ≤ j ∧ j ≤ 1000 ∧ small i then .ok (.int (i ^ j.toNat)) μ else .bad
  | _, _ => .bad
def fNeg (v : PV) : M PV := fun μ => match v with
  | .int i => .ok (.int (-i)) μ
  | _ => .bad

/-! ### comparisons -/
def fEq (v w : PV) : M PV := fun μ => if isData (deref μ v) && isData (deref μ w) then .ok (.bl (peq (deref μ v) (deref μ w))) μ else .bad
def fNe (v w : PV) : M PV := fun μ => if isData (deref μ v) && isData (deref μ w) then .ok (.bl (!peq (deref μ v) (deref μ w))) μ else .bad
def fCmp (p : Int → Int → Bool) (v w : PV) : M PV := fun μ => match v, w with
  | .int i, .int j => .ok (.bl (p i j)) μ
  | _, _ => .bad
def fLt := fCmp fun i j => decide (i < j)
def fLe := fCmp fun i j => decide (i ≤ j)
def fGt := fCmp fun i j => decide (j < i)
def fGe := fCmp fun i j => decide (j ≤ i)
def isNon : PV → Bool
  | .non => true
  | _ => false
def fIsN (v : PV) : M PV := fun μ => .ok (.bl (isNon v)) μ
def fNotN (v : PV) : M PV := fun μ => .ok (.bl (!isNon v)) μ
/-- is True, is False -/
def isBl (b : Bool) : PV → Bool
  | .bl c => c == b
  | _ => false
def fIsB (neg : Bool) (v w : PV) : M PV := fun μ => match v, w with
  | .bl i, .bl j => .ok (.bl (if neg then !(i == j) else i == j)) μ
  | _, _ => .bad
/-- flat: none, bool, int, text -/
def flat : PV → Bool
  | .non => true | .bl _ => true | .int _ => true | .str _ => true
  | _ => false
/-- x in a list or a tuple of data, or a sign in a text -/
def fIn (neg : Bool) (v w : PV) : M PV := fun μ => match deref μ w with
  | .str s => match v with
    | .str [c] => .ok (.bl (if neg then !s.contains c else s.contains c)) μ
    | _ => .bad
  | .lst xs => if flat v && xs.all flat then .ok (.bl (if neg then !xs.any (peq · v) else xs.any (peq · v))) μ else .bad
  | .tup xs => if flat v && xs.all flat then .ok (.bl (if neg then !xs.any (peq · v) else xs.any (peq · v))) μ else .bad
  | _ => .bad

/-! ### tests -/
def truth (μ : Mem) (v : PV) : Option Bool := match deref μ v with
  | .non => some false | .bl b => some b | .int i => some (i != 0)
  | .str s => if s.length ≤ line then some (!s.isEmpty) else none
  | .tup xs => some (!xs.isEmpty) | .lst xs => some (!xs.isEmpty)
  | _ => none
/-- an expression that gives True or False -/
def tB (a : Ev) : Tv := fun ρ μ => (a ρ μ).bind fun v μ1 => match v with
  | .bl b => .ok b μ1
  | _ => .bad
def tTruth (a : Ev) : Tv := fun ρ μ => (a ρ μ).bind fun v μ1 => match truth μ1 v with
  | some b => .ok b μ1
  | none => .bad
def tAnd (a b : Tv) : Tv := fun ρ μ => (a ρ μ).bind fun c μ1 => if c then b ρ μ1 else .ok false μ1
def tOr (a b : Tv) : Tv := fun ρ μ => (a ρ μ).bind fun c μ1 => if c then .ok true μ1 else b ρ μ1
def tNot (a : Tv) : Tv := fun ρ μ => (a ρ μ).bind fun c μ1 => .ok (!c) μ1
def tYes : Tv := fun _ μ => .ok true μ
/-- and, or, not as values of bools -/
def andV (a b : Ev) : Ev := fun ρ μ => (a ρ μ).bind fun v μ1 => match v with
  | .bl c => if c then b ρ μ1 else .ok (.bl false) μ1
  | _ => .bad
def orV (a b : Ev) : Ev := fun ρ μ => (a ρ μ).bind fun v μ1 => match v with
  | .bl c => if c then .ok (.bl true) μ1 else b ρ μ1
  | _ => .bad
def notV (a : Ev) : Ev := fun ρ μ => (a ρ μ).bind fun v μ1 => match v with
  | .bl c => .ok (.bl (!c)) μ1
  | _ => .bad
def ifI (t : Tv) (a b : Ev) : Ev := fun ρ μ => (t ρ μ).bind fun c μ1 => if c then a ρ μ1 else b ρ μ1
/-- a < b < c -/
def chainI (f g : PV → PV → M PV) (a b c : Ev) : Ev := fun ρ μ => (a ρ μ).bind fun x μ1 => (b ρ μ1).bind fun y μ2 => (f x y μ2).bind fun z μ3 => match z with
  | .bl k => if k then (c ρ μ3).bind fun w μ4 => g y w μ4 else .ok (.bl false) μ3
  | _ => .bad

/-! ### items, slices -/
def ixN (n : Nat) (i : Int) : Option Nat := if 0 ≤ i then (if i < n then some i.toNat else none) else if -(n : Int) ≤ i then some (i + n).toNat else none
def atI {α : Type} (xs : List α) (i : Int) : Option α := (ixN xs.length i).bind fun j => xs[j]?
def ixL (xs : List PV) (w : PV) (μ : Mem) : Res PV := match w with
  | .int i => (match atI xs i with
    | some x => .ok x μ
    | none => .bad)
  | _ => .bad
def ixS (s : List Nat) (w : PV) (μ : Mem) : Res PV := match w with
  | .int i => (if s.length ≤ line then (match atI s i with
    | some c => .ok (.str [c]) μ
    | none => .bad) else .bad)
  | _ => .bad
def fIx (v w : PV) : M PV := fun μ => match deref μ v with
  | .lst xs => ixL xs w μ
  | .tup xs => ixL xs w μ
  | .str s => ixS s w μ
  | _ => .bad
def sIx (n d : Nat) : Option Int → Nat
  | none => d
  | some v => if v < 0 then (v + (n : Int)).toNat else min v.toNat n
def cut {α : Type} (xs : List α) (lo hi : Option Int) : List α := (xs.drop (sIx xs.length 0 lo)).take (sIx xs.length xs.length hi - sIx xs.length 0 lo)
def fSl (v : PV) (lo hi : Option Int) : M PV := fun μ => match deref μ v with
  | .lst xs => .ok (.lst (cut xs lo hi)) μ
  | .tup xs => .ok (.tup (cut xs lo hi)) μ
  | .str s => if s.length ≤ line then .ok (.str (cut s lo hi)) μ else .bad
  | _ => .bad
abbrev Ov := PEnv → M (Option Int)
def noPart : Ov := fun _ μ => .ok none μ
def part (a : Ev) : Ov := fun ρ μ => (a ρ μ).bind fun v μ1 => match v with
  | .int i => .ok (some i) μ1
  | _ => .bad
def sliceI (a : Ev) (lo hi : Ov) : Ev := fun ρ μ => (a ρ μ).bind fun v μ1 => (lo ρ μ1).bind fun l μ2 => (hi ρ μ2).bind fun h μ3 => fSl v l h μ3

/-! ### built-ins -/
def one (f : PV → Mem → Res PV) : Fn := fun vs μ => match vs with
  | [v] => f v μ
  | _ => .bad
def two (f : PV → PV → Mem → Res PV) : Fn := fun vs μ => match vs with
  | [v, w] => f v w μ
  | _ => .bad
def fLen : Fn := one fun v μ => match deref μ v with
  | .lst xs => .ok (.int xs.length) μ
  | .tup xs => .ok (.int xs.length) μ
  | .str s => if s.length ≤ line then .ok (.int s.length) μ else .bad
  | _ => .bad
def fAbs : Fn := one fun v μ => match v with
  | .int i => .ok (.int (if i < 0 then -i else i)) μ
  | _ => .bad
def isDigit (c : Nat) : Bool := decide (48 ≤ c) && decide (c ≤ 57)
def dval (cs : List Nat) : Nat := cs.foldl (fun acc c => acc * 10 + (c - 48)) 0
def fInt : Fn := one fun v μ => match v with
  | .int i => .ok (.int i) μ
  | .bl b => .ok (.int (if b then 1 else 0)) μ
  | .str s => if decide (s.length ≤ 600) && !s.isEmpty && s.all isDigit then .ok (.int (dval s)) μ else .bad
  | _ => .bad
def digsF : Nat → Nat → List Nat
  | 0, _ => []
  | f + 1, n => if n < 10 then [48 + n] else digsF f (n / 10) ++ [48 + n % 10]
def fStr : Fn := one fun v μ => match v with
  | .int i => if 0 ≤ i ∧ i < 1000000000000000000000000000000 then .ok (.str (digsF 40 i.toNat)) μ else .bad
  | _ => .bad
def seqM (μ : Mem) (v : PV) : Option (List PV) := match deref μ v with
  | .lst xs => some xs
  | .tup xs => some xs
  | _ => none
def lstM (μ : Mem) (v : PV) : Option (List PV) := match deref μ v with
  | .lst xs => some xs
  | _ => none
def fList : Fn := one fun v μ => match seqM μ v with
  | some xs => .ok (.lst xs) μ
  | none => .bad
def fListM : Fn := one fun v μ => match seqM μ v with
  | some xs => .ok (.mref μ.length) (μ ++ [.lst xs])
  | none => .bad
def fTuple : Fn := one fun v μ => match seqM μ v with
  | some xs => .ok (.tup xs) μ
  | none => .bad
def intsOf : List PV → Option (List Int)
  | [] => some []
  | .int i :: r => (intsOf r).map (i :: ·)
  | _ :: _ => none
def blsOf : List PV → Option (List Bool)
  | [] => some []
  | .bl i :: r => (blsOf r).map (i :: ·)
  | _ :: _ => none
def onInts (f : List Int → Option PV) : Fn := one fun v μ => match (lstM μ v).bind intsOf with
  | some ns => match f ns with
    | some x => .ok x μ
    | none => .bad
  | none => .bad
def onBls (f : List Bool → PV) : Fn := one fun v μ => match (lstM μ v).bind blsOf with
  | some ns => .ok (f ns) μ
  | none => .bad
def fSum : Fn := onInts fun ns => some (.int ns.sum)
def maxL : List Int → Option Int
  | [] => none
  | x :: xs => match maxL xs with
    | none => some x
    | some m => some (if m < x then x else m)
def minL : List Int → Option Int
  | [] => none
  | x :: xs => match minL xs with
    | none => some x
    | some m => some (if x < m then x else m)
def fMaxL : Fn := onInts fun ns => (maxL ns).map .int
def fMinL : Fn := onInts fun ns => (minL ns).map .int
def fMax2 : Fn := two fun v w μ => match v, w with
  | .int i, .int j => .ok (.int (if j > i then j else i)) μ
  | _, _ => .bad
def fMin2 : Fn := two fun v w μ => match v, w with
  | .int i, .int j => .ok (.int (if j < i then j else i)) μ
  | _, _ => .bad
def fAny : Fn := onBls fun bs => .bl (bs.any id)
def fAll : Fn := onBls fun bs => .bl (bs.all id)
def insI (x : Int) : List Int → List Int
  | [] => [x]
  | y :: ys => if x ≤ y then x :: y :: ys else y :: insI x ys
def isort : List Int → List Int
  | [] => []
  | x :: xs => insI x (isort xs)
def fSorted : Fn := onInts fun ns => some (.lst ((isort ns).map .int))
def fGcd : Fn := two fun v w μ => match v, w with
  | .int i, .int j => .ok (.int (Nat.gcd i.natAbs j.natAbs : Nat)) μ
  | _, _ => .bad
def tyName (μ : Mem) (v : PV) : Option String := match deref μ v with
  | .non => some "NoneType" | .bl _ => some "bool" | .int _ => some "int" | .str _ => some "str" | .tup _ => some "tuple" | .lst _ => some "list"
  | _ => none
/-- isinstance(v, t), t one of int, bool, str, tuple, list -/
def fIsI (t : String) (v : PV) : M PV := fun μ => match tyName μ v with
  | some n => .ok (.bl (n == t || (n == "bool" && t == "int"))) μ
  | none => .bad

/-! ### what is walked -/
def iterable (μ : Mem) (v : PV) : Option (List PV) := match deref μ v with
  | .lst xs => some xs
  | .tup xs => some xs
  | .str s => some (s.map fun c => .str [c])
  | _ => none
/-- walked things: the list of what comes, one after another -/
abbrev Iv := PEnv → M (List PV)
/-- a list that stands still, a tuple, a text -/
def itI (a : Ev) : Iv := fun ρ μ => (a ρ μ).bind fun v μ1 => match v with
  | .lst xs => .ok xs μ1
  | .tup xs => .ok xs μ1
  | .str s => .ok (s.map fun c => .str [c]) μ1
  | _ => .bad
def rangeL (lo hi : Int) : List PV := (List.range (hi - lo).toNat).map fun k => .int (lo + (k : Nat))
def it1 (a : Ev) : Iv := fun ρ μ => (a ρ μ).bind fun v μ1 => match v with
  | .int j => if -1000000000 ≤ j ∧ j ≤ 1000000000 then .ok (rangeL 0 j) μ1 else .bad
  | _ => .bad
def it2 (a b : Ev) : Iv := fun ρ μ => (a ρ μ).bind fun v μ1 => (b ρ μ1).bind fun w μ2 => match v, w with
  | .int i, .int j => if -1000000000 ≤ i ∧ i ≤ 1000000000 ∧ -1000000000 ≤ j ∧ j ≤ 1000000000 then .ok (rangeL i j) μ2 else .bad
  | _, _ => .bad
def enumL (n : Nat) : List PV → List PV
  | [] => []
  | x :: xs => .tup [.int n, x] :: enumL (n + 1) xs
def seqOf : PV → Option (List PV)
  | .lst xs => some xs
  | .tup xs => some xs
  | _ => none
def walked : PV → Option (List PV)
  | .lst xs => some xs
  | .tup xs => some xs
  | .str s => some (s.map fun c => .str [c])
  | _ => none
def enumI (a : Ev) : Iv := fun ρ μ => (a ρ μ).bind fun v μ1 => match walked v with
  | some xs => .ok (enumL 0 xs) μ1
  | none => .bad
def zipL : List PV → List PV → List PV
  | x :: xs, y :: ys => .tup [x, y] :: zipL xs ys
  | _, _ => []
def zipI (a b : Ev) : Iv := fun ρ μ => (a ρ μ).bind fun v μ1 => (b ρ μ1).bind fun w μ2 => match v, w with
  | .lst xs, .lst ys => .ok (zipL xs ys) μ2
  | .tup xs, .tup ys => .ok (zipL xs ys) μ2
  | _, _ => .bad

/-! ### targets -/
def tgN (i : Nat) : Tg := fun v ρ μ => .ok (ρ.set i (some v)) μ
/-- several targets -/
abbrev Tgs := List PV → PEnv → M PEnv
def tgsNil : Tgs := fun vs ρ μ => match vs with
  | [] => .ok ρ μ
  | _ => .bad
def tgsCons (t : Tg) (u : Tgs) : Tgs := fun vs ρ μ => match vs with
  | v :: r => (t v ρ μ).bind fun ρ1 μ1 => u r ρ1 μ1
  | [] => .bad
/-- a tuple is taken apart -/
def tgT (u : Tgs) : Tg := fun v ρ μ => match v with
  | .tup xs => u xs ρ μ
  | _ => .bad
/-- x[i] = v, x a list that may change -/
def mset (μ : Mem) (n : Nat) (o : MO) : Mem := μ.set n o
def tgIx (a b : Ev) : Tg := fun v ρ μ => (a ρ μ).bind fun x μ1 => (b ρ μ1).bind fun i μ2 => match x, i with
  | .mref n, .int k => match μ2[n]? with
    | some (.lst xs) => match ixN xs.length k with
      | some j => .ok ρ (mset μ2 n (.lst (xs.set j v)))
      | none => .bad
    | _ => .bad
  | _, _ => .bad

/-! ### comprehensions -/
def wipe (ρ : PEnv) : List Nat → PEnv
  | [] => ρ
  | i :: r => (wipe ρ r).set i none
/-- the items made; acc: those made so far -/
def compL (t : Tg) (c : Tv) (e : Ev) (ρ : PEnv) : List PV → List PV → Mem → Res (List PV)
  | [], acc, μ => .ok acc μ
  | x :: xs, acc, μ => match t x ρ μ with
    | .ok ρ1 μ1 => match c ρ1 μ1 with
      | .ok true μ2 => match e ρ1 μ2 with
        | .ok y μ3 => compL t c e ρ xs (acc ++ [y]) μ3
        | _ => .bad
      | .ok false μ2 => compL t c e ρ xs acc μ2
      | _ => .bad
    | _ => .bad
def compI (it : Iv) (own : List Nat) (t : Tg) (c : Tv) (e : Ev) : Ev := fun ρ μ => (it ρ μ).bind fun xs μ1 =>
  if xs.length ≤ line then (compL t c e (wipe ρ own) xs [] μ1).bind fun ys μ2 => .ok (.lst ys) μ2 else .bad
def compM (it : Iv) (own : List Nat) (t : Tg) (c : Tv) (e : Ev) : Ev := fun ρ μ => (it ρ μ).bind fun xs μ1 =>
  if xs.length ≤ line then (compL t c e (wipe ρ own) xs [] μ1).bind fun ys μ2 => .ok (.mref μ2.length) (μ2 ++ [.lst ys]) else .bad
/-- two clauses: the inner list is asked for each item of the outer one -/
def compL2 (t : Tg) (c : Tv) (it1 : Iv) (t1 : Tg) (c1 : Tv) (e : Ev) (ρ : PEnv) (vs1 : List Nat) : List PV → List PV → Mem → Res (List PV)
  | [], acc, μ => .ok acc μ
  | x :: xs, acc, μ => match t x ρ μ with
    | .ok ρ1 μ1 => match c ρ1 μ1 with
      | .ok true μ2 => match it1 ρ1 μ2 with
        | .ok ys μ3 => match compL t1 c1 e ρ1 ys acc μ3 with
          | .ok acc' μ4 => if acc'.length ≤ line then compL2 t c it1 t1 c1 e ρ vs1 xs acc' μ4 else .bad
          | _ => .bad
        | _ => .bad
      | .ok false μ2 => compL2 t c it1 t1 c1 e ρ vs1 xs acc μ2
      | _ => .bad
    | _ => .bad

/-! ### statements -/
def passS : Sv := fun ρ μ => .next ρ μ
def seqS (a b : Sv) : Sv := fun ρ μ => match a ρ μ with
  | .next ρ1 μ1 => b ρ1 μ1
  | o => o
def liftS {α : Type} (r : Res α) (ρ : PEnv) (k : α → Mem → Out) : Out := match r with
  | .ok a μ => k a μ
  | .exc x μ => .exc x ρ μ
  | .bad => .bad
def exprS (a : Ev) : Sv := fun ρ μ => liftS (a ρ μ) ρ fun _ μ1 => .next ρ μ1
def retS (a : Ev) : Sv := fun ρ μ => liftS (a ρ μ) ρ fun v μ1 => .ret v μ1
def retN : Sv := fun _ μ => .ret .non μ
def asgS (t : Tg) (a : Ev) : Sv := fun ρ μ => liftS (a ρ μ) ρ fun v μ1 => match t v ρ μ1 with
  | .ok ρ2 μ2 => .next ρ2 μ2
  | _ => .bad
def ifS (t : Tv) (a b : Sv) : Sv := fun ρ μ => liftS (t ρ μ) ρ fun c μ1 => if c then a ρ μ1 else b ρ μ1
def brkS : Sv := fun ρ μ => .brk ρ μ
def contS : Sv := fun ρ μ => .cont ρ μ
def forL (t : Tg) (body : Sv) : List PV → PEnv → Mem → Out
  | [], ρ, μ => .next ρ μ
  | x :: xs, ρ, μ => match t x ρ μ with
    | .ok ρ1 μ1 => match body ρ1 μ1 with
      | .next ρ2 μ2 => forL t body xs ρ2 μ2
      | .cont ρ2 μ2 => forL t body xs ρ2 μ2
      | .brk ρ2 μ2 => .next ρ2 μ2
      | o => o
    | _ => .bad
def forS (it : Iv) (t : Tg) (body : Sv) : Sv := fun ρ μ => liftS (it ρ μ) ρ fun xs μ1 => forL t body xs ρ μ1
def whileL (t : Tv) (body : Sv) : Nat → PEnv → Mem → Out
  | 0, _, _ => .bad
  | n + 1, ρ, μ => liftS (t ρ μ) ρ fun c μ1 => if c then (match body ρ μ1 with
      | .next ρ2 μ2 => whileL t body n ρ2 μ2
      | .cont ρ2 μ2 => whileL t body n ρ2 μ2
      | .brk ρ2 μ2 => .next ρ2 μ2
      | o => o) else .next ρ μ1
def raiseS (x : Exc) : Sv := fun ρ μ => .exc x ρ μ

/-! ### defs -/
mutual
/-- no reference to objects from m on -/
def below (m : Nat) : PV → Bool
  | .mref n => decide (n < m)
  | .tup xs => belows m xs
  | .lst xs => belows m xs
  | .scr xs => belows m xs
  | _ => true
def belows (m : Nat) : List PV → Bool
  | [] => true
  | x :: xs => below m x && belows m xs
end
def belowM (m : Nat) : MO → Bool
  | .lst xs => belows m xs
  | .ins _ fs => fs.all fun p => below m p.2
  | .dct kvs => kvs.all fun p => below m p.1 && below m p.2
/-- a list of one's own that is handed back: the list as it is -/
def settle (m : Nat) (μ : Mem) (v : PV) : PV := match v with
  | .mref n => if n < m then v else match μ[n]? with
    | some (.lst xs) => if belows m xs then .lst xs else v
    | _ => v
  | v => v
/-- behind a def the objects that it made are forgotten, if nothing leads to them -/
def leave (m : Nat) (v : PV) (μ : Mem) : Res PV :=
  if μ.length = m then .ok v μ else
  let v' := settle m μ v
  if below m v' && (μ.take m).all (belowM m) then .ok v' (μ.take m) else .ok v μ
def fnI (n N : Nat) (body : Sv) : Fn := fun as μ =>
  if as.length = n then match body (as.map some ++ List.replicate (N - n) none) μ with
    | .ret v μ1 => leave μ.length v μ1
    | .next _ μ1 => leave μ.length .non μ1
    | .exc x _ μ1 => .exc x μ1
    | _ => .bad
  else .bad

end Py

set_option Elab.async false
set_option linter.all false
set_option maxRecDepth 100000
set_option maxHeartbeats 2000000
/-! PyR: how the values and the memory of PyI stand in the layer's heap. -/
namespace PyS
open PySem PySem.Spec PyProof.Rows L2
open Py (PV MO Mem Exc Res PEnv)

abbrev toS (s : List Nat) : Str := ⟨s.toArray⟩

/-- tables of code objects; the exception that is handled, and its class -/
structure Tb where
  tabs : List (Addr × Str)
  xa : Option (Addr × String)
structure Ctx where
  K : PySem.W.Frag
  mg : Str → Option Value
  T : Tb

/-- where the objects that may change stand, and what else a list may not be (lists that are being made) -/
structure Ph where
  m : List Addr
  b : List Addr

/-- a list that the law got: the text's own, or one that stands still -/
def SqS (K : PySem.W.Frag) (φ : Ph) (H : Hp) (a : Addr) (xs : List V) : Prop :=
  (Rd H a (.lst xs) ∧ a ∉ φ.m ∧ a ∉ φ.b) ∨ ∃ (o : Obj) (its : Array Value) (n : Nat), K.lookup a = some o ∧ o.cls = .type "list" ∧ o.dict = none ∧ o.data = .seq its n ∧ its.size ≤ sizeLine ∧ Vals xs its.toList
theorem SqS.sq {K : PySem.W.Frag} {φ : Ph} {H : Hp} {a : Addr} {xs : List V} (h : SqS K φ H a xs) : SqL K H a xs := h.elim (fun z => .inl z.1) .inr
mutual
inductive RV (C : Ctx) (φ : Ph) (H : Hp) : PV → V → Prop
  | non : RV C φ H .non .non
  | bl (b : Bool) : RV C φ H (.bl b) (.bl b)
  | int (i : Int) : RV C φ H (.int i) (.int i)
  | str (s : List Nat) (h : ∀ c ∈ s, c < 1114112) : RV C φ H (.str s) (.str (toS s))
  | tup {a : Addr} {xs : List PV} {ys : List V} : SqT C.K H a ys → RVs C φ H xs ys → RV C φ H (.tup xs) (.ref a)
  | lst {a : Addr} {xs : List PV} {ys : List V} : H a = some (.lst ys) → a ∉ φ.m → a ∉ φ.b → RVs C φ H xs ys → RV C φ H (.lst xs) (.ref a)
  | mref {a : Addr} {n : Nat} : φ.m[n]? = some a → RV C φ H (.mref n) (.ref a)
  | scr {a : Addr} {xs : List PV} {ys : List V} : SqS C.K φ H a ys → RVs C φ H xs ys → RV C φ H (.scr xs) (.ref a)
  | exn {a : Addr} {c : String} : C.T.xa = some (a, c) → RV C φ H (.exn c) (.ref a)
  | glob {a : Addr} {x : String} : C.mg (PySem.Str.ofString x) = some (.ref a) → RV C φ H (.glob x) (.ref a)
inductive RVs (C : Ctx) (φ : Ph) (H : Hp) : List PV → List V → Prop
  | nil : RVs C φ H [] []
  | cons {x : PV} {y : V} {xs : List PV} {ys : List V} : RV C φ H x y → RVs C φ H xs ys → RVs C φ H (x :: xs) (y :: ys)
end

/-- fields of an instance: the same names in the same order -/
inductive RFs (C : Ctx) (φ : Ph) (H : Hp) : List (String × PV) → List (Str × V) → Prop
  | nil : RFs C φ H [] []
  | cons {f : String} {x : PV} {y : V} {xs : List (String × PV)} {ys : List (Str × V)} : RV C φ H x y → RFs C φ H xs ys → RFs C φ H ((f, x) :: xs) ((PySem.Str.ofString f, y) :: ys)

/-- a mutable object -/
inductive RO (C : Ctx) (φ : Ph) (H : Hp) : MO → HO → Prop
  | lst {xs : List PV} {ys : List V} : RVs C φ H xs ys → RO C φ H (.lst xs) (.lst ys)
  | ins {cls : String} {A dx : Addr} {fs : List (String × PV)} {gs : List (Str × V)} : C.mg (PySem.Str.ofString cls) = some (.ref A) → RFs C φ H fs gs → RO C φ H (.ins cls fs) (.ins A dx gs)

/-- an object that is no table of code -/
def NT (o : HO) : Prop := ∀ ps, o ≠ .tbl ps
def Ob (H : Hp) (a : Addr) : Prop := ∃ o, H a = some o ∧ NT o
theorem Ob.no {H : Hp} {a : Addr} (h : H a = none) : ¬ Ob H a := fun ⟨_, e, _⟩ => by rw [h] at e; cases e
theorem Ob.ne {H : Hp} {a : Addr} (h : Ob H a) : H a ≠ none := fun z => Ob.no z h
/-- the memory stands in the heap -/
structure Rel (C : Ctx) (φ : Ph) (μ : Mem) (H : Hp) : Prop where
  len : φ.m.length = μ.length
  nd : φ.m.Nodup
  bt : ∀ a ∈ φ.b, Ob H a
  sep : ∀ a ∈ φ.m, a ∉ φ.b
  obj : ∀ (n : Nat) (a : Addr) (o : MO), φ.m[n]? = some a → μ[n]? = some o → ∃ u, H a = some u ∧ RO C φ H o u
  tabs : LamX.Tabs C.T.tabs H

/-- a later world: more objects; what was tracked and may not change stays -/
structure Le (φ φ' : Ph) (H H' : Hp) : Prop where
  pre : ∃ ψ, φ'.m = φ.m ++ ψ ∧ ∀ a ∈ ψ, ¬ Ob H a
  bar : ∃ β, φ'.b = β ++ φ.b ∧ ∀ a ∈ β, ¬ Ob H a
  keep : ∀ a o, H a = some o → a ∉ φ.m → (∀ ps, o ≠ .tbl ps) → H' a = some o
  there : ∀ a, Ob H a → Ob H' a

section
variable {C : Ctx} {φ φ' φ'' : Ph} {H H' H'' : Hp}
theorem Le.refl (φ : Ph) (H : Hp) : Le φ φ H H := ⟨⟨[], by simp, by simp⟩, ⟨[], by simp, by simp⟩, fun _ _ h _ _ => h, fun _ h => h⟩
theorem Le.new (l : Le φ φ' H H') : ∀ a ∈ φ'.m, a ∉ φ.m → ¬ Ob H a := fun a ha hn => by
  obtain ⟨ψ, e, h⟩ := l.pre
  rw [e] at ha
  rcases List.mem_append.mp ha with h1 | h1
  · exact absurd h1 hn
  · exact h a h1
theorem Le.trans (l : Le φ φ' H H') (m : Le φ' φ'' H' H'') : Le φ φ'' H H'' := by
  refine ⟨?_, ?_, fun a o h hn ht => ?_, fun a h => m.there a (l.there a h)⟩
  · obtain ⟨ψ, e1, h1⟩ := l.pre
    obtain ⟨ψ', e2, h2⟩ := m.pre
    refine ⟨ψ ++ ψ', by rw [e2, e1, List.append_assoc], fun a ha => ?_⟩
    rcases List.mem_append.mp ha with h | h
    · exact h1 a h
    · exact fun q => h2 a h (l.there a q)
  · obtain ⟨ψ, e1, h1⟩ := l.bar
    obtain ⟨ψ', e2, h2⟩ := m.bar
    refine ⟨ψ' ++ ψ, by rw [e2, e1, List.append_assoc], fun a ha => ?_⟩
    rcases List.mem_append.mp ha with h | h
    · exact fun q => h2 a h (l.there a q)
    · exact h1 a h
  · refine m.keep a o (l.keep a o h hn ht) (fun hm => ?_) ht
    exact l.new a hm hn ⟨o, h, ht⟩
theorem Le.get {n : Nat} {a : Addr} (l : Le φ φ' H H') (h : φ.m[n]? = some a) : φ'.m[n]? = some a := by
  obtain ⟨ψ, e, _⟩ := l.pre
  rw [e, List.getElem?_append_left (List.getElem?_eq_some_iff.mp h).1]
  exact h
theorem Le.notin {a : Addr} {o : HO} (l : Le φ φ' H H') (h : H a = some o) (hn : a ∉ φ.m) (ht : NT o := by intro _ z; cases z) : a ∉ φ'.m := fun hm => l.new a hm hn ⟨o, h, ht⟩
theorem Le.notbar {a : Addr} {o : HO} (l : Le φ φ' H H') (h : H a = some o) (hn : a ∉ φ.b) (ht : NT o := by intro _ z; cases z) : a ∉ φ'.b := fun hm => by
  obtain ⟨β, e, hb⟩ := l.bar
  rw [e] at hm
  rcases List.mem_append.mp hm with z | z
  · exact hb a z ⟨o, h, ht⟩
  · exact hn z
theorem Le.sqS {K : PySem.W.Frag} {a : Addr} {xs : List V} (l : Le φ φ' H H') (h : SqS K φ H a xs) : SqS K φ' H' a xs := by
  rcases h with ⟨h | ⟨o, h⟩, n, b⟩ | h
  · exact .inl ⟨.inl (l.keep _ _ h n (fun _ z => by cases z)), l.notin h n, l.notbar h b⟩
  · exact .inl ⟨.inr ⟨o, l.keep _ _ h n (fun _ z => by cases z)⟩, l.notin h n, l.notbar h b⟩
  · exact .inr h
theorem Le.sqT {K : PySem.W.Frag} {a : Addr} {xs : List V} (l : Le φ φ' H H') (hφ : ∀ b xs, H b = some (.tup xs) → b ∉ φ.m) (hf : ∀ b o xs, H b = some (.frz o xs) → b ∉ φ.m) (h : SqT K H a xs) : SqT K H' a xs := by
  rcases h with (h | ⟨o, h⟩) | h
  · exact .inl (.inl (l.keep _ _ h (hφ _ _ h) (fun _ z => by cases z)))
  · exact .inl (.inr ⟨o, l.keep _ _ h (hf _ _ _ h) (fun _ z => by cases z)⟩)
  · exact .inr h
end
section
variable {C : Ctx} {φ φ' : Ph} {H H' : Hp} {μ : Mem}
/-- an address that may change holds a list or an instance -/
theorem Rel.kind (R : Rel C φ μ H) {a : Addr} (h : a ∈ φ.m) : ∃ u, H a = some u ∧ ((∃ ys, u = .lst ys) ∨ ∃ A dx gs, u = .ins A dx gs) := by
  obtain ⟨n, hn, e⟩ := List.getElem_of_mem h
  have e' : φ.m[n]? = some a := List.getElem?_eq_some_iff.mpr ⟨hn, e⟩
  have hm : n < μ.length := by rw [← R.len]; exact hn
  obtain ⟨o, ho⟩ : ∃ o, μ[n]? = some o := ⟨_, List.getElem?_eq_some_iff.mpr ⟨hm, rfl⟩⟩
  obtain ⟨u, hu, ro⟩ := R.obj n a o e' ho
  refine ⟨u, hu, ?_⟩
  cases ro with
  | lst _ => exact .inl ⟨_, rfl⟩
  | ins _ _ => exact .inr ⟨_, _, _, rfl⟩
theorem Rel.notup (R : Rel C φ μ H) : ∀ b xs, H b = some (.tup xs) → b ∉ φ.m := fun b xs h hm => by
  obtain ⟨u, hu, h1⟩ := R.kind hm
  rw [h] at hu
  cases hu
  rcases h1 with ⟨_, z⟩ | ⟨_, _, _, z⟩ <;> cases z
theorem Rel.nofrz (R : Rel C φ μ H) : ∀ b o xs, H b = some (.frz o xs) → b ∉ φ.m := fun b o xs h hm => by
  obtain ⟨u, hu, h1⟩ := R.kind hm
  rw [h] at hu
  cases hu
  rcases h1 with ⟨_, z⟩ | ⟨_, _, _, z⟩ <;> cases z
mutual
theorem RV.mono' (l : Le φ φ' H H') (h1 : ∀ b xs, H b = some (.tup xs) → b ∉ φ.m) (h2 : ∀ b o xs, H b = some (.frz o xs) → b ∉ φ.m) : ∀ {x : PV} {y : V}, RV C φ H x y → RV C φ' H' x y
  | _, _, .non => .non
  | _, _, .bl b => .bl b
  | _, _, .int i => .int i
  | _, _, .str s h => .str s h
  | _, _, .tup h r => .tup (l.sqT h1 h2 h) (RVs.mono' l h1 h2 r)
  | _, _, .lst h n nb r => .lst (l.keep _ _ h n (fun _ z => by cases z)) (l.notin h n) (l.notbar h nb) (RVs.mono' l h1 h2 r)
  | _, _, .mref h => .mref (l.get h)
  | _, _, .glob h => .glob h
  | _, _, .exn h => .exn h
  | _, _, .scr h r => .scr (l.sqS h) (RVs.mono' l h1 h2 r)
theorem RVs.mono' (l : Le φ φ' H H') (h1 : ∀ b xs, H b = some (.tup xs) → b ∉ φ.m) (h2 : ∀ b o xs, H b = some (.frz o xs) → b ∉ φ.m) : ∀ {xs : List PV} {ys : List V}, RVs C φ H xs ys → RVs C φ' H' xs ys
  | _, _, .nil => .nil
  | _, _, .cons r t => .cons (RV.mono' l h1 h2 r) (RVs.mono' l h1 h2 t)
end
theorem RV.mono {x : PV} {y : V} (R : Rel C φ μ H) (l : Le φ φ' H H') (r : RV C φ H x y) : RV C φ' H' x y := r.mono' l R.notup R.nofrz
theorem RVs.mono {xs : List PV} {ys : List V} (R : Rel C φ μ H) (l : Le φ φ' H H') (r : RVs C φ H xs ys) : RVs C φ' H' xs ys := r.mono' l R.notup R.nofrz
theorem RFs.mono (R : Rel C φ μ H) (l : Le φ φ' H H') : ∀ {xs : List (String × PV)} {ys : List (Str × V)}, RFs C φ H xs ys → RFs C φ' H' xs ys
  | _, _, .nil => .nil
  | _, _, .cons r t => .cons (r.mono R l) (RFs.mono R l t)
theorem RO.mono {o : MO} {u : HO} (R : Rel C φ μ H) (l : Le φ φ' H H') (r : RO C φ H o u) : RO C φ' H' o u := by
  cases r with
  | lst h => exact .lst (h.mono R l)
  | ins h g => exact .ins h (g.mono R l)
theorem RVs.length : ∀ {xs : List PV} {ys : List V}, RVs C φ H xs ys → xs.length = ys.length
  | _, _, .nil => rfl
  | _, _, .cons _ t => by simp [RVs.length t]
theorem RVs.get : ∀ {xs : List PV} {ys : List V} {i : Nat} {x : PV}, RVs C φ H xs ys → xs[i]? = some x → ∃ y, ys[i]? = some y ∧ RV C φ H x y
  | _, _, _, _, .nil, e => by simp at e
  | _, _, 0, _, .cons r _, e => by simp at e; subst e; exact ⟨_, rfl, r⟩
  | _, _, i + 1, _, .cons _ t, e => by
    obtain ⟨y, h1, h2⟩ := RVs.get (i := i) t (by simpa using e)
    exact ⟨y, by simpa using h1, h2⟩
theorem RVs.getV : ∀ {xs : List PV} {ys : List V} {i : Nat} {y : V}, RVs C φ H xs ys → ys[i]? = some y → ∃ x, xs[i]? = some x ∧ RV C φ H x y
  | _, _, _, _, .nil, e => by simp at e
  | _, _, 0, _, .cons r _, e => by simp at e; subst e; exact ⟨_, rfl, r⟩
  | _, _, i + 1, _, .cons _ t, e => by
    obtain ⟨y, h1, h2⟩ := RVs.getV (i := i) t (by simpa using e)
    exact ⟨y, by simpa using h1, h2⟩
theorem RVs.append : ∀ {xs xs' : List PV} {ys ys' : List V}, RVs C φ H xs ys → RVs C φ H xs' ys' → RVs C φ H (xs ++ xs') (ys ++ ys')
  | _, _, _, _, .nil, s => s
  | _, _, _, _, .cons r t, s => .cons r (RVs.append t s)
theorem RVs.take : ∀ {xs : List PV} {ys : List V} (n : Nat), RVs C φ H xs ys → RVs C φ H (xs.take n) (ys.take n)
  | _, _, 0, _ => .nil
  | _, _, _ + 1, .nil => .nil
  | _, _, n + 1, .cons r t => .cons r (RVs.take n t)
theorem RVs.drop : ∀ {xs : List PV} {ys : List V} (n : Nat), RVs C φ H xs ys → RVs C φ H (xs.drop n) (ys.drop n)
  | _, _, 0, r => r
  | _, _, _ + 1, .nil => .nil
  | _, _, n + 1, .cons _ t => RVs.drop n t
theorem RVs.set {x : PV} {u : V} (r : RV C φ H x u) : ∀ {xs : List PV} {us : List V} (i : Nat), RVs C φ H xs us → RVs C φ H (xs.set i x) (us.set i u)
  | _, _, _, .nil => .nil
  | _, _, 0, .cons _ t => .cons r t
  | _, _, i + 1, .cons q t => .cons q (RVs.set r i t)
theorem RVs.rep {xs : List PV} {us : List V} (h : RVs C φ H xs us) : ∀ k : Nat, RVs C φ H (List.replicate k xs).flatten (List.replicate k us).flatten
  | 0 => .nil
  | k + 1 => by
    rw [List.replicate_succ, List.replicate_succ, List.flatten_cons, List.flatten_cons]
    exact h.append (RVs.rep h k)
theorem RVs.ints : ∀ {xs : List Int} {ys : List V}, RVs C φ H (xs.map PV.int) ys → ys = xs.map V.int
  | [], _, .nil => rfl
  | _ :: _, _, .cons (.int _) t => by rw [List.map_cons, RVs.ints t]

/-! ### the environment -/
structure REnv (C : Ctx) (φ : Ph) (H : Hp) (ρ : PEnv) (σ : L2.St) : Prop where
  len : ρ.length = σ.length
  at_ : ∀ (i : Nat) (v : PV), ρ[i]? = some (some v) → ∃ u, σ[i]? = some (some u) ∧ RV C φ H v u
theorem REnv.mono {ρ : PEnv} {σ : L2.St} (R : Rel C φ μ H) (l : Le φ φ' H H') (r : REnv C φ H ρ σ) : REnv C φ' H' ρ σ :=
  ⟨r.len, fun i v e => by
    obtain ⟨u, h1, h2⟩ := r.at_ i v e
    exact ⟨u, h1, h2.mono R l⟩⟩
theorem REnv.set {ρ : PEnv} {σ : L2.St} {x : PV} {u : V} (r : REnv C φ H ρ σ) (i : Nat) (q : RV C φ H x u) : REnv C φ H (ρ.set i (some x)) (σ.set i (some u)) :=
  ⟨by simp [r.len], fun j v e => by
    by_cases hj : i = j
    · subst hj
      have hi : i < ρ.length := by
        rw [List.getElem?_set_self'] at e
        cases h : ρ[i]? with
        | none => rw [h] at e; simp at e
        | some _ => exact (List.getElem?_eq_some_iff.mp h).1
      rw [List.getElem?_set_self hi] at e
      cases e
      exact ⟨u, by rw [List.getElem?_set_self (by rw [← r.len]; exact hi)], q⟩
    · rw [List.getElem?_set_ne hj] at e
      rw [List.getElem?_set_ne hj]
      exact r.at_ j v e⟩
theorem REnv.wipe {ρ : PEnv} {σ : L2.St} (r0 : REnv C φ H ρ σ) : ∀ (own : List Nat), REnv C φ H (Py.wipe ρ own) (L2.wipe σ own)
  | [] => r0
  | i :: own => by
    have r := REnv.wipe r0 own
    show REnv C φ H ((Py.wipe ρ own).set i none) ((L2.wipe σ own).set i none)
    refine ⟨by simp [r.len], fun j v e => ?_⟩
    by_cases hj : i = j
    · subst hj
      rw [List.getElem?_set_self'] at e
      cases h : (Py.wipe ρ own)[i]? with
      | none => rw [h] at e; simp at e
      | some _ => rw [h] at e; simp at e
    · rw [List.getElem?_set_ne hj] at e
      rw [List.getElem?_set_ne hj]
      exact r.at_ j v e
/-- exceptions -/
structure RX (C : Ctx) (φ : Ph) (H : Hp) (x : Exc) (cls : Value) (d : Option Addr) : Prop where
  cls : ∃ A, C.mg (PySem.Str.ofString x.cls) = some (.ref A) ∧ cls = .ref A
  fs : (x.fs = [] ∧ d = none) ∨ (x.fs ≠ [] ∧ ∃ dd gs, d = some dd ∧ H dd = some (.xd gs) ∧ RFs C φ H x.fs gs)
end
end PyS

set_option Elab.async false
set_option linter.all false
set_option maxRecDepth 100000
set_option maxHeartbeats 2000000
/-! PyE: expressions. -/
namespace PyS
open PySem PySem.Spec PyProof.Rows L2
open Py (PV MO Mem Exc Res PEnv Ev Tv Av Ov)

/-- what is wanted behind an outcome -/
def Post (C : Ctx) {α β : Type} (P : Ph → Hp → α → β → Prop) (E : Value → Option Addr → Hp → Prop) (φ : Ph) (H : Hp) (Q : β → Hp → Prop) : Res α → Prop
  | .ok v μ' => ∀ φ' H' u, Le φ φ' H H' → Rel C φ' μ' H' → P φ' H' v u → Q u H'
  | .exc x μ' => ∀ φ' H' cls d, Le φ φ' H H' → Rel C φ' μ' H' → RX C φ' H' x cls d → E cls d H'
  | .bad => False
section
variable {C : Ctx} {α β γ δ : Type} {P : Ph → Hp → α → β → Prop} {P' : Ph → Hp → γ → δ → Prop} {E : Value → Option Addr → Hp → Prop} {φ φ1 : Ph} {H H1 : Hp} {Q Q' : β → Hp → Prop} {r : Res α}
theorem Post.world (l : Le φ φ1 H H1) (h : Post C P E φ H Q r) : Post C P E φ1 H1 Q r := by
  cases r with
  | ok v μ' => exact fun φ' H' u m R p => h φ' H' u (l.trans m) R p
  | exc x μ' => exact fun φ' H' cls d m R p => h φ' H' cls d (l.trans m) R p
  | bad => exact h
theorem Post.imp (h : Post C P E φ H Q r) (q : ∀ u H1, Q u H1 → Q' u H1) : Post C P E φ H Q' r := by
  cases r with
  | ok v μ' => exact fun φ' H' u m R p => q _ _ (h φ' H' u m R p)
  | exc x μ' => exact h
  | bad => exact h
theorem Post.bind {k : α → Mem → Res γ} {Q : δ → Hp → Prop} (h : Post C P' E φ H Q (r.bind k)) :
    Post C P E φ H (fun u H1 => ∃ φ1 μ1 v, Le φ φ1 H H1 ∧ Rel C φ1 μ1 H1 ∧ P φ1 H1 v u ∧ Post C P' E φ1 H1 Q (k v μ1)) r := by
  cases r with
  | ok v μ' => exact fun φ' H' u m R p => ⟨φ', μ', v, m, R, p, Post.world m h⟩
  | exc x μ' => exact h
  | bad => exact h
/-- what Post asks at the end, now -/
theorem Post.done {v : α} {μ : Mem} {u : β} (h : Post C P E φ H Q (.ok v μ)) (R : Rel C φ μ H) (p : P φ H v u) : Q u H := h φ H u (Le.refl _ _) R p
end

abbrev PB : Ph → Hp → Bool → Bool → Prop := fun _ _ a b => b = a
abbrev PI' : Ph → Hp → Option Int → Option Int → Prop := fun _ _ a b => b = a

abbrev cX (X : Cx) (T : Tb) : Ctx := ⟨X.K, X.mg, T⟩
def tE (C : Ctx) (W : WX) (c : Ev) : TE := fun σ H Q => ∃ φ μ ρ, Rel C φ μ H ∧ REnv C φ H ρ σ ∧ Post C (RV C) (fun cls d H => W cls d σ H) φ H Q (c ρ μ)
def tT (C : Ctx) (W : WX) (c : Tv) : TT := fun σ H Q => ∃ φ μ ρ, Rel C φ μ H ∧ REnv C φ H ρ σ ∧ Post C PB (fun cls d H => W cls d σ H) φ H Q (c ρ μ)
def tA (C : Ctx) (W : WX) (c : Av) : TA := fun σ H Q => ∃ φ μ ρ, Rel C φ μ H ∧ REnv C φ H ρ σ ∧ Post C (RVs C) (fun cls d H => W cls d σ H) φ H Q (c ρ μ)
def tO (C : Ctx) (W : WX) (c : Ov) : TO := fun σ H Q => ∃ φ μ ρ, Rel C φ μ H ∧ REnv C φ H ρ σ ∧ Post C PI' (fun cls d H => W cls d σ H) φ H Q (c ρ μ)

section
variable {X : Cx} {e : Expr}
theorem _root_.L2.PE.weak {t t' : TE} (h : PE X e t) (w : ∀ σ H Q, t' σ H Q → t σ H Q) : PE X e t' := ⟨fun pins s σ H Q I q => h.run pins s σ H Q I (w σ H Q q)⟩
theorem _root_.L2.PT.weak {t t' : TT} (h : PT X e t) (w : ∀ σ H Q, t' σ H Q → t σ H Q) : PT X e t' := ⟨fun pins s σ H Q I q => h.run pins s σ H Q I (w σ H Q q)⟩
theorem _root_.L2.PW.weak {t t' : TT} (h : PW X e t) (w : ∀ σ H Q, t' σ H Q → t σ H Q) : PW X e t' := ⟨fun wh pins s σ H Q I q => h.run wh pins s σ H Q I (w σ H Q q)⟩
theorem _root_.L2.PA.weak {es : List Expr} {t t' : TA} (h : PA X es t) (w : ∀ σ H Q, t' σ H Q → t σ H Q) : PA X es t' := ⟨fun pos pins s σ H Q I q => h.run pos pins s σ H Q I (w σ H Q q)⟩
end

section
variable {X : Cx} {T : Tb} {W : WX} {a b c e : Expr} {ca cb cc : Ev} {pos : Pos}
/-- the judgement of an expression -/
abbrev SE (X : Cx) (T : Tb) (W : WX) (e : Expr) (c : Ev) : Prop := PE X e (tE (cX X T) W c)
abbrev ST (X : Cx) (T : Tb) (W : WX) (e : Expr) (c : Tv) : Prop := PT X e (tT (cX X T) W c)
abbrev SW (X : Cx) (T : Tb) (W : WX) (e : Expr) (c : Tv) : Prop := PW X e (tT (cX X T) W c)
abbrev SA (X : Cx) (T : Tb) (W : WX) (e : List Expr) (c : Av) : Prop := PA X e (tA (cX X T) W c)

/-! ### names, constants -/
theorem se_var (i : Nat) {x : Str} (hN : X.N[i]? = some x) (hv : Vis X.env.scope x) (hd : (x == ("__debug__" : Str)) = false := by decide) (hcd : (x == ("__classdict__" : Str)) = false := by decide) : SE X T W (.Name x pos) (Py.varI i) :=
  (pe_var hN hv hd hcd).weak fun σ H Q ⟨φ, μ, ρ, R, E, h⟩ => by
    unfold Py.varI at h
    cases e : ρ[i]? with
    | none => rw [e] at h; exact h.elim
    | some o =>
      cases o with
      | none => rw [e] at h; exact h.elim
      | some v =>
        rw [e] at h
        obtain ⟨u, h1, h2⟩ := E.at_ i v e
        exact ⟨u, h1, Post.done h R h2⟩
theorem se_con {v : PV} {u : V} (h : PE X e (L2.tC u)) (r : ∀ φ H, RV (cX X T) φ H v u) : SE X T W e (Py.conI v) :=
  h.weak fun σ H Q ⟨φ, μ, ρ, R, E, h⟩ => Post.done h R (r φ H)
theorem se_int {i j} : SE X T W (.Constant (.int i) j pos) (Py.conI (.int i)) := se_con pe_int fun _ _ => .int i
theorem se_bl {b j} : SE X T W (.Constant (.bool b) j pos) (Py.conI (.bl b)) := se_con pe_bl fun _ _ => .bl b
theorem se_non {j} : SE X T W (.Constant .none j pos) (Py.conI .non) := se_con pe_non fun _ _ => .non
theorem se_str {x : Str} {j} (hx : x.cps.toList.all (fun c => decide (c < 1114112)) = true := by decide) : SE X T W (.Constant (.str x) j pos) (Py.conI (.str x.cps.toList)) := se_con pe_str fun _ _ => by
  have h := RV.str (C := cX X T) (φ := ‹_›) (H := ‹_›) x.cps.toList fun c hc => of_decide_eq_true (List.all_eq_true.mp hx c hc)
  have e : toS x.cps.toList = x := by cases x; rfl
  rw [e] at h
  exact h

/-! ### operations on values -/
/-- f tells what r asks -/
def L2R (C : Ctx) (r : R2) (f : PV → PV → Py.M PV) : Prop := ∀ ⦃φ μ H v w x y⦄ ⦃Q : VK⦄ ⦃E : Value → Option Addr → Hp → Prop⦄, Rel C φ μ H → RV C φ H v x → RV C φ H w y → Post C (RV C) E φ H Q (f v w μ) → r x y H Q
def L1R (C : Ctx) (r : V → Hp → VK → Prop) (f : PV → Py.M PV) : Prop := ∀ ⦃φ μ H v x⦄ ⦃Q : VK⦄ ⦃E : Value → Option Addr → Hp → Prop⦄, Rel C φ μ H → RV C φ H v x → Post C (RV C) E φ H Q (f v μ) → r x H Q
def LNR (C : Ctx) (r : List V → Hp → VK → Prop) (f : Py.Fn) : Prop := ∀ ⦃φ μ H vs xs⦄ ⦃Q : VK⦄ ⦃E : Value → Option Addr → Hp → Prop⦄, Rel C φ μ H → RVs C φ H vs xs → Post C (RV C) E φ H Q (f vs μ) → r xs H Q

theorem t_op2 {C : Ctx} {r : R2} {f : PV → PV → Py.M PV} (hf : L2R C r f) {σ : L2.St} {H : Hp} {Q : VK} (h : tE C W (Py.op2 f ca cb) σ H Q) : L2.tOp r (tE C W ca) (tE C W cb) σ H Q := by
  obtain ⟨φ, μ, ρ, R, E, h⟩ := h
  refine ⟨φ, μ, ρ, R, E, (Post.bind h).imp ?_⟩
  rintro u H1 ⟨φ1, μ1, v, l1, R1, rv, h1⟩
  refine ⟨φ1, μ1, ρ, R1, E.mono R l1, (Post.bind h1).imp ?_⟩
  rintro w H2 ⟨φ2, μ2, v2, l2, R2, rw, h2⟩
  exact hf R2 (rv.mono R1 l2) rw h2
theorem se_op {op : Operator} {r : R2} {f : PV → PV → Py.M PV} (ho : OpR X (binaryOp op) r) (hf : L2R (cX X T) r f) (ha : SE X T W a ca) (hb : SE X T W b cb) : SE X T W (.BinOp a op b pos) (Py.op2 f ca cb) :=
  (pe_op ho ha hb).weak fun _ _ _ h => t_op2 hf h
theorem se_cmp {op : CmpOp} {r : R2} {f : PV → PV → Py.M PV} (ho : OpR X (compareOp op) r) (hf : L2R (cX X T) r f) (ha : SE X T W a ca) (hb : SE X T W b cb) (hm : behindInMarks op b = false) : SE X T W (.Compare a [op] [b] pos) (Py.op2 f ca cb) :=
  (pe_cmpR ho ha hb hm).weak fun _ _ _ h => t_op2 hf h
theorem se_un {op : UnaryOp} {r : V → Hp → VK → Prop} {f : PV → Py.M PV} (ho : UnR X (unaryOp op) r) (hf : L1R (cX X T) r f) (ha : SE X T W a ca) : SE X T W (.UnaryOp op a pos) (Py.op1 f ca) :=
  (pe_un ho ha).weak fun σ H Q ⟨φ, μ, ρ, R, E, h⟩ => ⟨φ, μ, ρ, R, E, (Post.bind h).imp fun u H1 ⟨φ1, μ1, v, l1, R1, rv, h1⟩ => hf R1 rv h1⟩
theorem sa_nil : SA X T W [] Py.nilI := pa_nil.weak fun σ H Q ⟨φ, μ, ρ, R, E, h⟩ => Post.done h R .nil
theorem sa_cons {es : List Expr} {r : Av} (ha : SE X T W e ca) (hr : SA X T W es r) (hs : starEach (e :: es) X.env = (false, eval e X.env) :: starEach es X.env := by rfl) : SA X T W (e :: es) (Py.consI ca r) :=
  (pa_cons ha hr hs).weak fun σ H Q ⟨φ, μ, ρ, R, E, h⟩ => ⟨φ, μ, ρ, R, E, (Post.bind h).imp fun u H1 ⟨φ1, μ1, v, l1, R1, rv, h1⟩ =>
    ⟨φ1, μ1, ρ, R1, E.mono R l1, (Post.bind (P := RVs (cX X T)) h1).imp fun us H2 ⟨φ2, μ2, vs, l2, R2, rvs, h2⟩ => Post.done h2 R2 (.cons (rv.mono R1 l2) rvs)⟩⟩
theorem t_opN {C : Ctx} {r : List V → Hp → VK → Prop} {f : Py.Fn} {ca : Av} (hf : LNR C r f) {σ : L2.St} {H : Hp} {Q : VK} (h : tE C W (Py.opN f ca) σ H Q) : L2.tCB r (tA C W ca) σ H Q := by
  obtain ⟨φ, μ, ρ, R, E, h⟩ := h
  refine ⟨φ, μ, ρ, R, E, (Post.bind h).imp ?_⟩
  rintro u H1 ⟨φ1, μ1, v, l1, R1, rv, h1⟩
  exact hf R1 rv h1
theorem se_callB {es : List Expr} {x : Str} {id : String} {r : List V → Hp → VK → Prop} {f : Py.Fn} {ca : Av} {p : Pos} (hc : CallR X (.builtin id) r) (hf : LNR (cX X T) r f) (hg : Gl X x) (hm : X.mg x = none) (hv : bootBuiltins x = some (.builtin id)) (ha : SA X T W (e :: es) ca)
    (hn : x ≠ "__name__" := by decide) (hdb : (x == ("__debug__" : Str)) = false := by decide) (he : starEach (e :: es) X.env = (false, eval e X.env) :: starEach es X.env := by rfl) (hpl : (backTo pos (starEach es X.env)).any (·.1) = false := by rfl) :
    SE X T W (.Call (.Name x p) (e :: es) [] pos) (Py.opN f ca) := (pe_callB hc hg hm hv ha hn hdb he hpl).weak fun _ _ _ h => t_opN hf h
theorem se_callTy {es : List Expr} {x : Str} {id : String} {r : List V → Hp → VK → Prop} {f : Py.Fn} {ca : Av} {p : Pos} (hc : CallR X (.type id) r) (hf : LNR (cX X T) r f) (hg : Gl X x) (hm : X.mg x = none) (hv : bootBuiltins x = some (.type id)) (ha : SA X T W (e :: es) ca)
    (hn : x ≠ "__name__" := by decide) (hdb : (x == ("__debug__" : Str)) = false := by decide) (he : starEach (e :: es) X.env = (false, eval e X.env) :: starEach es X.env := by rfl) (hpl : (backTo pos (starEach es X.env)).any (·.1) = false := by rfl) :
    SE X T W (.Call (.Name x p) (e :: es) [] pos) (Py.opN f ca) := (pe_callTy hc hg hm hv ha hn hdb he hpl).weak fun _ _ _ h => t_opN hf h

/-! ### displays -/
theorem sz_line {n : Nat} (h : n ≤ Py.line) : n ≤ sizeLine := Nat.le_trans h (by rw [sizeLine_eq]; decide)
theorem Rel.tracked {C : Ctx} {φ : Ph} {μ : Mem} {H : Hp} (R : Rel C φ μ H) {a : Addr} (h : a ∈ φ.m) : H a ≠ none := fun z => by
  obtain ⟨u, hu, _⟩ := R.kind h
  rw [z] at hu
  cases hu
theorem Rel.ob {C : Ctx} {φ : Ph} {μ : Mem} {H : Hp} (R : Rel C φ μ H) {a : Addr} (h : a ∈ φ.m) : Ob H a := by
  obtain ⟨u, hu, k⟩ := R.kind h
  exact ⟨u, hu, fun ps z => by subst z; rcases k with ⟨_, z⟩ | ⟨_, _, _, z⟩ <;> cases z⟩
/-- a new object that is not one of those that may change -/
theorem Le.fresh {φ : Ph} {H : Hp} {p : Addr} {o : HO} (hp : H p = none) : Le φ φ H (upd H p o) :=
  ⟨⟨[], by simp, by simp⟩, ⟨[], by simp, by simp⟩, fun a u h _ _ => by rw [upd_ne (ne_of_none h hp)]; exact h, fun a ⟨u, h, t⟩ => ⟨u, by rw [upd_ne (ne_of_none h hp)]; exact h, t⟩⟩
theorem Rel.fresh {C : Ctx} {φ : Ph} {μ : Mem} {H : Hp} {p : Addr} {o : HO} (R : Rel C φ μ H) (hp : H p = none) : Rel C φ μ (upd H p o) :=
  ⟨R.len, R.nd, fun a ha => (Le.fresh (φ := φ) hp).there a (R.bt a ha), R.sep, fun n a m h1 h2 => by
    obtain ⟨u, hu, ro⟩ := R.obj n a m h1 h2
    exact ⟨u, by rw [upd_ne (ne_of_none hu hp)]; exact hu, ro.mono R (Le.fresh hp)⟩, R.tabs.ext fun b u h => by rw [upd_ne (ne_of_none h hp)]; exact h⟩
/-- one more that may change -/
abbrev Ph.add (φ : Ph) (p : Addr) : Ph := ⟨φ.m ++ [p], φ.b⟩
/-- a new object that may change -/
theorem Le.made {φ : Ph} {H : Hp} {p : Addr} {o : HO} (hp : H p = none) : Le φ (φ.add p) H (upd H p o) :=
  ⟨⟨[p], rfl, fun a ha => by simp at ha; rw [ha]; exact Ob.no hp⟩, ⟨[], by simp, by simp⟩, (Le.fresh (φ := φ) hp).keep, (Le.fresh (φ := φ) hp).there⟩
theorem Rel.made {C : Ctx} {φ : Ph} {μ : Mem} {H : Hp} {p : Addr} {o : HO} {m : MO} (R : Rel C φ μ H) (hp : H p = none) (hm : RO C (φ.add p) (upd H p o) m o) : Rel C (φ.add p) (μ ++ [m]) (upd H p o) := by
  refine ⟨by simp [R.len], ?_, fun a ha => (Le.made (φ := φ) hp).there a (R.bt a ha), fun a ha hb => ?_, fun n a q h1 h2 => ?_, R.tabs.ext fun b u h => by rw [upd_ne (ne_of_none h hp)]; exact h⟩
  · refine List.nodup_append.mpr ⟨R.nd, by simp, fun a ha b hb e => ?_⟩
    simp at hb
    subst hb e
    exact R.tracked ha hp
  · rcases List.mem_append.mp ha with z | z
    · exact R.sep a z hb
    · simp at z
      rw [z] at hb
      exact (R.bt p hb).ne hp
  · by_cases hn : n < φ.m.length
    · have h1 : (φ.m ++ [p])[n]? = some a := h1
      rw [List.getElem?_append_left hn] at h1
      rw [List.getElem?_append_left (by rw [← R.len]; exact hn)] at h2
      obtain ⟨u, hu, ro⟩ := R.obj n a q h1 h2
      exact ⟨u, by rw [upd_ne (ne_of_none hu hp)]; exact hu, ro.mono R (Le.made hp)⟩
    · have h1 : (φ.m ++ [p])[n]? = some a := h1
      have hl : n < (φ.m ++ [p]).length := (List.getElem?_eq_some_iff.mp h1).1
      have e : n = φ.m.length := by simp at hl; omega
      subst e
      simp at h1
      rw [R.len] at h2
      simp at h2
      subst h1 h2
      exact ⟨_, upd_same, hm⟩
theorem RVs.made {C : Ctx} {φ : Ph} {μ : Mem} {H : Hp} {p : Addr} {o : HO} {vs : List PV} {xs : List V} (R : Rel C φ μ H) (hp : H p = none) (r : RVs C φ H vs xs) : RVs C (φ.add p) (upd H p o) vs xs := r.mono R (Le.made hp)
theorem Rel.nofresh {C : Ctx} {φ : Ph} {μ : Mem} {H : Hp} {p : Addr} (R : Rel C φ μ H) (hp : H p = none) : p ∉ φ.m := fun h => R.tracked h hp
theorem Rel.nobar {C : Ctx} {φ : Ph} {μ : Mem} {H : Hp} {p : Addr} (R : Rel C φ μ H) (hp : H p = none) : p ∉ φ.b := fun h => (R.bt p h).ne hp

theorem post_tup {C : Ctx} {E : Value → Option Addr → Hp → Prop} {φ : Ph} {μ : Mem} {H : Hp} {Q : VK} {vs : List PV} {xs : List V} {p : Addr} (R : Rel C φ μ H) (r : RVs C φ H vs xs) (h : Post C (RV C) E φ H Q (.ok (.tup vs) μ)) (hp : H p = none) : Q (.ref p) (upd H p (.tup xs)) :=
  h φ _ _ (Le.fresh hp) (R.fresh hp) (.tup (SqT.of upd_same) (r.mono R (Le.fresh hp)))
theorem post_lst {C : Ctx} {E : Value → Option Addr → Hp → Prop} {φ : Ph} {μ : Mem} {H : Hp} {Q : VK} {vs : List PV} {xs : List V} {p : Addr} (R : Rel C φ μ H) (r : RVs C φ H vs xs) (h : Post C (RV C) E φ H Q (.ok (.lst vs) μ)) (hp : H p = none) : Q (.ref p) (upd H p (.lst xs)) :=
  h φ _ _ (Le.fresh hp) (R.fresh hp) (.lst upd_same (R.nofresh hp) (R.nobar hp) (r.mono R (Le.fresh hp)))
theorem post_mut {C : Ctx} {E : Value → Option Addr → Hp → Prop} {φ : Ph} {μ : Mem} {H : Hp} {Q : VK} {vs : List PV} {xs : List V} {p : Addr} (R : Rel C φ μ H) (r : RVs C φ H vs xs) (h : Post C (RV C) E φ H Q (.ok (.mref μ.length) (μ ++ [.lst vs]))) (hp : H p = none) : Q (.ref p) (upd H p (.lst xs)) :=
  h (φ.add p) _ _ (Le.made hp) (R.made hp (.lst (r.made R hp))) (.mref (by rw [← R.len]; simp))
theorem se_tup {es : List Expr} {x1} {ca : Av} (ha : SA X T W es ca) : SE X T W (.Tuple es x1 pos) (Py.opN Py.fTup ca) :=
  (pe_tup ha).weak fun σ H Q ⟨φ, μ, ρ, R, E, h⟩ => ⟨φ, μ, ρ, R, E, (Post.bind (P := RVs (cX X T)) h).imp fun us H1 ⟨φ1, μ1, vs, l1, R1, rv, h1⟩ => by
    unfold Py.fTup at h1
    split at h1
    · rename_i hl
      exact ⟨sz_line (by rw [← rv.length]; exact hl), fun p hp => post_tup R1 rv h1 hp⟩
    · exact h1.elim⟩
theorem se_lst {es : List Expr} {ca : Av} (ha : SA X T W es ca) : SE X T W (.List es pos) (Py.opN Py.fLst ca) :=
  (pe_lst ha).weak fun σ H Q ⟨φ, μ, ρ, R, E, h⟩ => ⟨φ, μ, ρ, R, E, (Post.bind (P := RVs (cX X T)) h).imp fun us H1 ⟨φ1, μ1, vs, l1, R1, rv, h1⟩ => by
    unfold Py.fLst at h1
    split at h1
    · rename_i hl
      exact ⟨sz_line (by rw [← rv.length]; exact hl), fun p hp => post_lst R1 rv h1 hp⟩
    · exact h1.elim⟩
theorem se_mut {es : List Expr} {ca : Av} (ha : SA X T W es ca) : SE X T W (.List es pos) (Py.opN Py.fMut ca) :=
  (pe_lst ha).weak fun σ H Q ⟨φ, μ, ρ, R, E, h⟩ => ⟨φ, μ, ρ, R, E, (Post.bind (P := RVs (cX X T)) h).imp fun us H1 ⟨φ1, μ1, vs, l1, R1, rv, h1⟩ => by
    unfold Py.fMut at h1
    split at h1
    · rename_i hl
      exact ⟨sz_line (by rw [← rv.length]; exact hl), fun p hp => post_mut R1 rv h1 hp⟩
    · exact h1.elim⟩
end
end PyS

set_option Elab.async false
set_option linter.all false
set_option maxRecDepth 100000
set_option maxHeartbeats 2000000
/-! PyF: operations on values. -/
namespace PyS
open PySem PySem.Spec PyProof.Rows L2
open Py (PV MO Mem Exc Res PEnv Ev Tv Av Ov)

section
variable {C : Ctx} {φ : Ph} {μ : Mem} {H : Hp}
theorem toS_len (s : List Nat) : (toS s).length = s.length := by simp [toS, Str.length]
theorem toS_list (s : List Nat) : (toS s).cps.toList = s := by simp [toS]
theorem toS_app (x y : List Nat) : toS x ++ toS y = toS (x ++ y) := by
  show Str.append _ _ = _
  simp [Str.append, toS]
theorem toS_inj {x y : List Nat} : toS x = toS y ↔ x = y := by
  constructor
  · intro h
    have := congrArg (fun z : Str => z.cps.toList) h
    simpa [toS] using this
  · intro h; rw [h]
theorem sz2 {a b : Nat} (h : a + b ≤ Py.line) : a + b ≤ sizeLine := Nat.le_trans h (by rw [sizeLine_eq]; decide)
end

/-! ### + - * // % ** -/
def rAddP (K : PySem.W.Frag) : R2 := fun x y H Q => (rI0 fun i j => .int (i + j)) x y H Q ∨ (fun x y H Q => ∃ i j, x = .str i ∧ y = .str j ∧ i.length + j.length ≤ sizeLine ∧ Q (.str (i ++ j)) H) x y H Q ∨ rCatA K x y H Q ∨ rCat x y H Q
theorem op_addP {X : Cx} : OpR X (binaryOp .Add) (rAddP X.K) := op_add.or (op_add_str.or (op_catA.or op_cat))
theorem RVs.nil_iff {C : Ctx} {φ : Ph} {H : Hp} {xs : List PV} {ys : List V} (r : RVs C φ H xs ys) : xs = [] ↔ ys = [] := by cases r <;> simp
theorem l_add {C : Ctx} : L2R C (rAddP C.K) Py.fAdd := by
  intro φ μ H v w x y Q E R rv rw h
  cases rv with
  | int i => cases rw with
    | int j => exact .inl ⟨i, j, rfl, rfl, Post.done h R (.int _)⟩
    | _ => exact False.elim h
  | str s hs => cases rw with
    | str t ht =>
      have h : Post C (RV C) E φ H Q (if s.length + t.length ≤ Py.line then .ok (.str (s ++ t)) μ else .bad) := h
      split at h
      · rename_i hl
        refine .inr (.inl ⟨_, _, rfl, rfl, by rw [toS_len, toS_len]; exact sz2 hl, ?_⟩)
        rw [toS_app]
        exact Post.done h R (.str _ fun c hc => (List.mem_append.mp hc).elim (hs c) (ht c))
      · exact False.elim h
    | _ => exact False.elim h
  | @tup a xs ys hs rs => cases rw with
    | @tup b zs ws ht rt =>
      have h : Post C (RV C) E φ H Q (if xs.length + zs.length ≤ Py.line then .ok (.tup (xs ++ zs)) μ else .bad) := h
      split at h
      · rename_i hl
        refine .inr (.inr (.inl ⟨a, b, ys, ws, rfl, rfl, hs, ht, by rw [← rs.length, ← rt.length]; exact sz2 hl, fun e => ?_, fun _ e => ?_, fun _ _ p hp => ?_⟩))
        · have e' := rs.nil_iff.mpr e
          subst e'
          exact Post.done h R (.tup ht rt)
        · have e' := rt.nil_iff.mpr e
          subst e'
          rw [List.append_nil] at h
          exact Post.done h R (.tup hs rs)
        · exact post_tup R (rs.append rt) h hp
      · exact False.elim h
    | _ => exact False.elim h
  | @lst a xs ys hs _ _ rs => cases rw with
    | @lst b zs ws ht _ _ rt =>
      have h : Post C (RV C) E φ H Q (if xs.length + zs.length ≤ Py.line then .ok (.lst (xs ++ zs)) μ else .bad) := h
      split at h
      · rename_i hl
        exact .inr (.inr (.inr ⟨a, b, ys, ws, rfl, rfl, hs, ht, by rw [← rs.length, ← rt.length]; exact sz2 hl, fun p hp => post_lst R (rs.append rt) h hp⟩))
      · exact False.elim h
    | _ => exact False.elim h
  | non => cases rw <;> exact False.elim h
  | bl b => cases rw <;> exact False.elim h
  | mref _ => cases rw <;> exact False.elim h
  | glob _ => cases rw <;> exact False.elim h
  | exn _ => cases rw <;> exact False.elim h
  | scr _ _ => cases rw <;> exact False.elim h
theorem l_int {C : Ctx} {g : Int → Int → PV} {g' : Int → Int → V} {f : PV → PV → Py.M PV} {c : Int → Int → Bool} {D : Int → Int → Prop} (hg : ∀ φ H i j, RV C φ H (g i j) (g' i j)) (hc : ∀ i j, c i j = true → D i j)
    (hf : f = fun v w μ => match v, w with
      | .int i, .int j => if c i j = true then .ok (g i j) μ else .bad
      | _, _ => .bad) : L2R C (rI D g') f := by
  intro φ μ H v w x y Q E R rv rw h
  subst hf
  cases rv with
  | int i => cases rw with
    | int j =>
      have h : Post C (RV C) E φ H Q (if c i j = true then .ok (g i j) μ else .bad) := h
      split at h
      · rename_i hl
        exact ⟨i, j, rfl, rfl, hc i j hl, Post.done h R (hg _ _ _ _)⟩
      · exact False.elim h
    | _ => exact False.elim h
  | _ => cases rw <;> exact False.elim h
theorem l_int0 {C : Ctx} {g : Int → Int → PV} {g' : Int → Int → V} {f : PV → PV → Py.M PV} (hg : ∀ φ H i j, RV C φ H (g i j) (g' i j))
    (hf : f = fun v w μ => match v, w with
      | .int i, .int j => .ok (g i j) μ
      | _, _ => .bad) : L2R C (rI0 g') f := by
  intro φ μ H v w x y Q E R rv rw h
  subst hf
  cases rv with
  | int i => cases rw with
    | int j => exact ⟨i, j, rfl, rfl, Post.done h R (hg _ _ _ _)⟩
    | _ => exact False.elim h
  | _ => cases rw <;> exact False.elim h
theorem l_sub {C : Ctx} : L2R C (rI0 fun i j => .int (i - j)) Py.fSub := l_int0 (fun _ _ _ _ => .int _) rfl
theorem l_lt {C : Ctx} : L2R C (rI0 fun i j => .bl (decide (i < j))) Py.fLt := l_int0 (fun _ _ _ _ => .bl _) rfl
theorem l_le {C : Ctx} : L2R C (rI0 fun i j => .bl (decide (i ≤ j))) Py.fLe := l_int0 (fun _ _ _ _ => .bl _) rfl
theorem l_gt {C : Ctx} : L2R C (rI0 fun i j => .bl (decide (j < i))) Py.fGt := l_int0 (fun _ _ _ _ => .bl _) rfl
theorem l_ge {C : Ctx} : L2R C (rI0 fun i j => .bl (decide (j ≤ i))) Py.fGe := l_int0 (fun _ _ _ _ => .bl _) rfl
theorem wide_log {i : Int} (h : Py.wide i = true) : i.natAbs.log2 < 2001 := by
  have h1 : i.natAbs < Py.wideN := of_decide_eq_true h
  unfold Py.wideN at h1
  by_cases h0 : i.natAbs = 0
  · rw [h0]; decide
  · have h2 := (Nat.log2_lt h0).mpr h1
    omega
theorem l_div {C : Ctx} : L2R C (rI CDivW fun i j => .int (i / j)) Py.fDiv := l_int (c := fun i j => decide (0 < j) && Py.wide j) (fun _ _ _ _ => .int _) (fun i j h => by
  rw [Bool.and_eq_true] at h
  exact ⟨of_decide_eq_true h.1, Nat.lt_of_lt_of_le (wide_log h.2) (by decide)⟩) rfl
theorem l_mod {C : Ctx} : L2R C (rI (fun _ j => 0 < j) fun i j => .int (i % j)) Py.fMod := l_int (c := fun i j => decide (0 < j)) (fun _ _ _ _ => .int _) (fun i j h => of_decide_eq_true h) (by
  funext v w μ
  cases v <;> cases w <;> first | rfl | (unfold Py.fMod; simp only [decide_eq_true_eq]))
theorem l_pow {C : Ctx} : L2R C (rI CPow fun i j => .int (i ^ j.toNat)) Py.fPow := l_int (c := fun i j => decide (0 ≤ j ∧ j ≤ 1000 ∧ Py.small i = true)) (fun _ _ _ _ => .int _) (fun i j h => by
  obtain ⟨h1, h2, h3⟩ := of_decide_eq_true h
  have h4 := of_decide_eq_true h3
  exact ⟨h1, by omega, by omega⟩) (by
  funext v w μ
  cases v <;> cases w <;> first | rfl | (unfold Py.fPow; simp only [decide_eq_true_eq]))
theorem l_neg {C : Ctx} : L1R C (rU fun i => .int (-i)) Py.fNeg := by
  intro φ μ H v x Q E R rv h
  cases rv with
  | int i => exact ⟨i, rfl, Post.done h R (.int _)⟩
  | _ => exact False.elim h

/-! ### * -/
def rMulS : R2 := fun x y H Q => ∃ (s : Str) (n : Int), x = .str s ∧ y = .int n ∧ MulOk s n ∧ Q (.str (Txt.mul s n)) H
theorem op_mulS {X : Cx} : OpR X (binaryOp .Mult) rMulS := by
  intro pins s σ H x y v u Q I rx ry h
  obtain ⟨z, n, rfl, rfl, ok, q⟩ := h
  obtain ⟨t, rfl⟩ := rx
  obtain ⟨t', rfl⟩ := ry
  exact SB.mul ok fun t2 k => ⟨.str _, H, I.tok k, ⟨_, rfl⟩, q⟩
def rMulP (K : PySem.W.Frag) : R2 := fun x y H Q => (rI (fun i j => CMul i j ∨ CMulW i j) fun i j => .int (i * j)) x y H Q ∨ rMulS x y H Q ∨ rRep x y H Q ∨ rRepT K x y H Q
theorem op_mul2 {X : Cx} : OpR X (binaryOp .Mult) (rI (fun i j => CMul i j ∨ CMulW i j) fun i j => .int (i * j)) := opI fun _ _ _ _ _ _ _ hc q => mul_int q (hc.elim CMul.ok CMulW.ok)
theorem op_mulP {X : Cx} : OpR X (binaryOp .Mult) (rMulP X.K) := op_mul2.or (op_mulS.or (op_rep.or op_repT))
theorem foldl_app (x : List Nat) : ∀ (n : Nat) (acc : Array Nat), (List.foldl (fun a b => a ++ b) acc (List.replicate n x.toArray)).toList = acc.toList ++ (List.replicate n x).flatten
  | 0, acc => by simp
  | n + 1, acc => by
    rw [List.replicate_succ, List.foldl_cons, foldl_app x n, List.replicate_succ, List.flatten_cons]
    simp
theorem toS_mul {s : List Nat} {n : Int} : Txt.mul (toS s) n = toS (List.replicate n.toNat s).flatten := by
  unfold Txt.mul
  split
  · rename_i h
    have : n.toNat = 0 := by omega
    rw [this]
    rfl
  · split
    · rename_i h1 h2
      rw [Bool.or_eq_true] at h2
      rcases h2 with h2 | h2
      · have : n = 1 := eq_of_beq h2
        subst this
        simp [toS]
      · have e : (toS s).length = 0 := eq_of_beq h2
        rw [toS_len] at e
        have e2 : s = [] := List.eq_nil_of_length_eq_zero e
        subst e2
        simp [toS]
    · have e : ∀ z : Array Nat, z = z.toList.toArray := fun z => by simp
      show (⟨_⟩ : Str) = ⟨_⟩
      rw [e (List.foldl _ _ _), foldl_app]
      simp
theorem l_mul {C : Ctx} : L2R C (rMulP C.K) Py.fMul := by
  intro φ μ H v w x y Q E R rv rw h
  cases rv with
  | int i => cases rw with
    | int j =>
      have h : Post C (RV C) E φ H Q (if (Py.small i || Py.small j || (Py.wide i && Py.wide j)) = true then .ok (.int (i * j)) μ else .bad) := h
      split at h
      · rename_i hl
        refine .inl ⟨i, j, rfl, rfl, ?_, Post.done h R (.int _)⟩
        rw [Bool.or_eq_true, Bool.or_eq_true, Bool.and_eq_true] at hl
        rcases hl with (hl | hl) | hl
        · exact .inl (.inl (of_decide_eq_true hl))
        · exact .inl (.inr (of_decide_eq_true hl))
        · have h1 := wide_log hl.1
          have h2 := wide_log hl.2
          exact .inr (show _ + _ < _ by omega)
      · exact False.elim h
    | _ => exact False.elim h
  | str s hs => cases rw with
    | int k =>
      have h : Post C (RV C) E φ H Q (if 0 ≤ k ∧ k ≤ 16000000 ∧ s.length * k.toNat ≤ Py.line then .ok (.str (List.replicate k.toNat s).flatten) μ else .bad) := h
      split at h
      · rename_i hl
        obtain ⟨h1, h2, h3⟩ := hl
        refine .inr (.inl ⟨_, _, rfl, rfl, ⟨?_, fun _ _ => ?_, fun _ _ => ?_⟩, ?_⟩)
        · have a1 : decide (k < -2 ^ 63) = false := decide_eq_false (by omega)
          have a2 : decide (k ≥ 2 ^ 63) = false := decide_eq_false (by omega)
          rw [a1, a2]; rfl
        · rename_i q1 q2
          rw [toS_len]
          intro z
          have hk : 0 < k := by omega
          have e1 : ((s.length * k.toNat : Nat) : Int) ≤ 16000000 := by
            have : s.length * k.toNat ≤ 16000000 := h3
            omega
          have e2 : ((s.length * k.toNat : Nat) : Int) = (s.length : Int) * k := by
            rw [Int.natCast_mul, Int.toNat_of_nonneg h1]
          have e3 : (2 ^ 63 - 1 : Int) / k < (s.length : Int) := z
          have e4 : (s.length : Int) ≤ (s.length : Int) * k := by
            have := Int.mul_le_mul_of_nonneg_left (show (1 : Int) ≤ k by omega) (show (0 : Int) ≤ (s.length : Int) by omega)
            simpa using this
          have e5 : (16000000 : Int) ≤ (2 ^ 63 - 1) / k := by
            apply Int.le_ediv_of_mul_le hk
            have : (16000000 : Int) * k ≤ 16000000 * 16000000 := Int.mul_le_mul_of_nonneg_left h2 (by decide)
            omega
          omega
        · rw [toS_len]
          unfold Builtin.Str.tooLong
          have : s.length * k.toNat ≤ 16000000 := h3
          simp only [decide_eq_false_iff_not]
          first | omega | (rw [sizeLine_eq]; omega)
        · rw [toS_mul]
          refine Post.done h R (.str _ fun c hc => ?_)
          obtain ⟨l, hl, hcl⟩ := List.mem_flatten.mp hc
          rw [List.eq_of_mem_replicate hl] at hcl
          exact hs c hcl
      · exact False.elim h
    | _ => exact False.elim h
  | @lst a xs ys hs hn _ rs => cases rw with
    | int k =>
      have h : Post C (RV C) E φ H Q (if -16000000 ≤ k ∧ k ≤ 16000000 ∧ xs.length * k.toNat ≤ Py.line then .ok (.lst (List.replicate k.toNat xs).flatten) μ else .bad) := h
      split at h
      · rename_i hl
        obtain ⟨h1, h2, h3⟩ := hl
        exact .inr (.inr (.inl ⟨a, k, ys, rfl, rfl, hs, by omega, by omega, by rw [← rs.length]; exact sz_line h3, fun p hp => post_lst R (rs.rep k.toNat) h hp⟩))
      · exact False.elim h
    | _ => exact False.elim h
  | @tup a xs ys hs rs => cases rw with
    | int k =>
      have h : Post C (RV C) E φ H Q (if 2 ≤ k ∧ k ≤ 1000 ∧ xs.length ≤ 1000 ∧ 1 ≤ xs.length then .ok (.tup (List.replicate k.toNat xs).flatten) μ else .bad) := h
      split at h
      · rename_i hl
        obtain ⟨h1, h2, h3, h4⟩ := hl
        have hl := rs.length
        exact .inr (.inr (.inr ⟨a, k, ys, rfl, rfl, hs, fun z => by subst z; rw [List.length_nil] at hl; omega, h1, h2, by omega, fun p hp => post_tup R (rs.rep k.toNat) h hp⟩))
      · exact False.elim h
    | _ => exact False.elim h
  | _ => cases rw <;> exact False.elim h

/-! ### the rules of the operators -/
section
variable {X : Cx} {T : Tb} {W : WX} {a b c e : Expr} {ca cb cc : Ev} {pos : Pos}
theorem se_add (ha : SE X T W a ca) (hb : SE X T W b cb) : SE X T W (.BinOp a .Add b pos) (Py.op2 Py.fAdd ca cb) := se_op op_addP l_add ha hb
theorem se_sub (ha : SE X T W a ca) (hb : SE X T W b cb) : SE X T W (.BinOp a .Sub b pos) (Py.op2 Py.fSub ca cb) := se_op op_sub l_sub ha hb
theorem se_mul (ha : SE X T W a ca) (hb : SE X T W b cb) : SE X T W (.BinOp a .Mult b pos) (Py.op2 Py.fMul ca cb) := se_op op_mulP l_mul ha hb
theorem se_div (ha : SE X T W a ca) (hb : SE X T W b cb) : SE X T W (.BinOp a .FloorDiv b pos) (Py.op2 Py.fDiv ca cb) := se_op op_fdivW l_div ha hb
theorem se_mod (ha : SE X T W a ca) (hb : SE X T W b cb) : SE X T W (.BinOp a .Mod b pos) (Py.op2 Py.fMod ca cb) := se_op op_mod l_mod ha hb
theorem se_pow (ha : SE X T W a ca) (hb : SE X T W b cb) : SE X T W (.BinOp a .Pow b pos) (Py.op2 Py.fPow ca cb) := se_op op_pow l_pow ha hb
theorem se_neg (ha : SE X T W a ca) : SE X T W (.UnaryOp .USub a pos) (Py.op1 Py.fNeg ca) := se_un un_neg l_neg ha
theorem se_lt (ha : SE X T W a ca) (hb : SE X T W b cb) : SE X T W (.Compare a [.Lt] [b] pos) (Py.op2 Py.fLt ca cb) := se_cmp op_lt l_lt ha hb (nomark _)
theorem se_le (ha : SE X T W a ca) (hb : SE X T W b cb) : SE X T W (.Compare a [.LtE] [b] pos) (Py.op2 Py.fLe ca cb) := se_cmp op_le l_le ha hb (nomark _)
theorem se_gt (ha : SE X T W a ca) (hb : SE X T W b cb) : SE X T W (.Compare a [.Gt] [b] pos) (Py.op2 Py.fGt ca cb) := se_cmp op_gt l_gt ha hb (nomark _)
theorem se_ge (ha : SE X T W a ca) (hb : SE X T W b cb) : SE X T W (.Compare a [.GtE] [b] pos) (Py.op2 Py.fGe ca cb) := se_cmp op_ge l_ge ha hb (nomark _)
end
end PyS

set_option Elab.async false
set_option linter.all false
set_option maxRecDepth 100000
set_option maxHeartbeats 2000000
/-! PyG: comparisons of data, tests, items, slices. -/
namespace PyS
open PySem PySem.Spec PyProof.Rows L2
open Py (PV MO Mem Exc Res PEnv Ev Tv Av Ov)

mutual
def toD : PV → PyData
  | .non => .none
  | .bl b => .bool b
  | .int i => .int i
  | .str s => .str (toS s)
  | .tup xs => .tuple (toDs xs)
  | .lst xs => .list (toDs xs)
  | _ => .none
def toDs : List PV → List PyData
  | [] => []
  | x :: xs => toD x :: toDs xs
end
section
variable {C : Ctx} {φ : Ph} {μ : Mem} {H : Hp}
mutual
theorem RV.data : ∀ {v : PV} {u : V} {d : Nat}, RV C φ H v u → Py.pdepth v = some d → Dp C.K H u (toD v) ∧ (toD v).depth = d ∧ (toD v).canLay0 = true
  | _, _, _, .non, h => by
    cases h
    exact ⟨.non, rfl, rfl⟩
  | _, _, _, .bl b, h => by
    cases h
    exact ⟨.bl b, rfl, rfl⟩
  | _, _, _, .int i, h => by
    cases h
    exact ⟨.int i, rfl, rfl⟩
  | _, _, _, .str s hs, h => by
    cases h
    refine ⟨.str _, rfl, ?_⟩
    show PyData.strOk (toS s) = true
    unfold PyData.strOk
    rw [Array.all_eq_true_iff_forall_mem]
    intro c hc
    exact decide_eq_true (hs c (by simpa [toS] using hc))
  | _, _, d, .tup (xs := xs) ht rs, h => by
    have h : (Py.pdepths xs).map (· + 1) = some d := h
    cases e : Py.pdepths xs with
    | none => rw [e] at h; cases h
    | some d' =>
      rw [e] at h
      have h : d' + 1 = d := Option.some.inj h
      obtain ⟨a, b, c⟩ := RVs.data rs e
      subst h
      exact ⟨.tup ht a, congrArg (· + 1) b, c⟩
  | _, _, d, .lst (xs := xs) ht _ _ rs, h => by
    have h : (Py.pdepths xs).map (· + 1) = some d := h
    cases e : Py.pdepths xs with
    | none => rw [e] at h; cases h
    | some d' =>
      rw [e] at h
      have h : d' + 1 = d := Option.some.inj h
      obtain ⟨a, b, c⟩ := RVs.data rs e
      subst h
      exact ⟨.lst (SqL.of ht) a, congrArg (· + 1) b, c⟩
  | _, _, _, .mref _, h => by cases h
  | _, _, _, .glob _, h => by cases h
  | _, _, _, .exn _, h => by cases h
  | _, _, _, .scr _ _, h => by cases h
theorem RVs.data : ∀ {vs : List PV} {us : List V} {d : Nat}, RVs C φ H vs us → Py.pdepths vs = some d → DpAll C.K H us (toDs vs) ∧ PyData.depthAll (toDs vs) = d ∧ PyData.canLayAll0 (toDs vs) = true
  | _, _, _, .nil, h => by
    cases h
    exact ⟨.nil, rfl, rfl⟩
  | _, _, d, .cons (x := x) (xs := xs) r t, h => by
    have h : (match Py.pdepth x, Py.pdepths xs with
      | some a, some b => some (max a b)
      | _, _ => none) = some d := h
    cases e1 : Py.pdepth x with
    | none => rw [e1] at h; cases h
    | some d1 =>
      cases e2 : Py.pdepths xs with
      | none => rw [e1, e2] at h; cases h
      | some d2 =>
        rw [e1, e2] at h
        have h : max d1 d2 = d := Option.some.inj h
        obtain ⟨a1, b1, c1⟩ := RV.data r e1
        obtain ⟨a2, b2, c2⟩ := RVs.data t e2
        refine ⟨.cons a1 a2, ?_, ?_⟩
        · show max (toD x).depth (PyData.depthAll (toDs xs)) = d
          rw [b1, b2, h]
        · show ((toD x).canLay0 && PyData.canLayAll0 (toDs xs)) = true
          rw [c1, c2]; rfl
end
/-- a value that may be a list that changes, read -/
theorem RV.deref {v : PV} {u : V} (R : Rel C φ μ H) (r : RV C φ H v u) : RV C φ H v u ∧ Py.deref μ v = v ∨ ∃ n xs a ys, v = .mref n ∧ u = .ref a ∧ Py.deref μ v = .lst xs ∧ H a = some (.lst ys) ∧ RVs C φ H xs ys := by
  cases r with
  | @mref a n h =>
    cases e : μ[n]? with
    | none => exact .inl ⟨.mref h, by simp only [Py.deref, e]⟩
    | some o =>
      cases o with
      | lst xs =>
        obtain ⟨w, hw, ro⟩ := R.obj n a _ h e
        cases ro with
        | @lst _ ys rs => exact .inr ⟨n, xs, a, ys, rfl, rfl, by simp only [Py.deref, e], hw, rs⟩
      | ins c fs => exact .inl ⟨.mref h, by simp only [Py.deref, e]⟩
      | dct kvs => exact .inl ⟨.mref h, by simp only [Py.deref, e]⟩
  | non => exact .inl ⟨.non, rfl⟩
  | bl b => exact .inl ⟨.bl b, rfl⟩
  | int b => exact .inl ⟨.int b, rfl⟩
  | str b h => exact .inl ⟨.str b h, rfl⟩
  | tup a b => exact .inl ⟨.tup a b, rfl⟩
  | lst a b c d => exact .inl ⟨.lst a b c d, rfl⟩
  | glob a => exact .inl ⟨.glob a, rfl⟩
  | exn a => exact .inl ⟨.exn a, rfl⟩
  | scr a b => exact .inl ⟨.scr a b, rfl⟩
theorem RV.dataD {v : PV} {u : V} (R : Rel C φ μ H) (r : RV C φ H v u) (h : Py.isData (Py.deref μ v) = true) : Dp C.K H u (toD (Py.deref μ v)) ∧ SeqAt.shaped (toD (Py.deref μ v)) = true := by
  unfold Py.isData at h
  have fin : ∀ {x : PyData} {d : Nat}, x.depth = d → d ≤ 60 → x.canLay0 = true → SeqAt.shaped x = true := fun {x d} e1 e2 e3 => by
    unfold SeqAt.shaped
    rw [e3, Bool.true_and]
    exact decide_eq_true (by omega)
  rcases RV.deref R r with ⟨r', e⟩ | ⟨n, xs, a, ys, rfl, rfl, e, ha, rs⟩
  · rw [e] at h ⊢
    cases ed : Py.pdepth v with
    | none => rw [ed] at h; cases h
    | some d =>
      rw [ed] at h
      have h : d ≤ 60 := of_decide_eq_true h
      obtain ⟨a1, b1, c1⟩ := RV.data r' ed
      exact ⟨a1, fin b1 h c1⟩
  · rw [e] at h ⊢
    cases ed : Py.pdepths xs with
    | none =>
      have e2 : Py.pdepth (.lst xs) = none := by show (Py.pdepths xs).map _ = _; rw [ed]; rfl
      rw [e2] at h; cases h
    | some d =>
      have e2 : Py.pdepth (.lst xs) = some (d + 1) := by show (Py.pdepths xs).map _ = _; rw [ed]; rfl
      rw [e2] at h
      have h : d + 1 ≤ 60 := of_decide_eq_true h
      obtain ⟨a1, b1, c1⟩ := RVs.data rs ed
      exact ⟨.lst (SqL.of ha) a1, fin (congrArg (· + 1) b1) h c1⟩
mutual
theorem eqv_toD : ∀ (v w : PV) {d d' : Nat}, Py.pdepth v = some d → Py.pdepth w = some d' → PyData.eqv (toD v) (toD w) = Py.peq v w := by
  intro v w d d' h1 h2
  cases v with
  | non => cases w <;> first | rfl | cases h2
  | bl b => cases w <;> first | rfl | cases h2
  | int b => cases w <;> first | rfl | cases h2
  | str s => cases w with
    | str t =>
      show (toS s == toS t) = (s == t)
      by_cases e : s = t
      · subst e; simp
      · have e' : ¬ toS s = toS t := fun z => e (toS_inj.mp z)
        rw [beq_eq_false_iff_ne.mpr e, beq_eq_false_iff_ne.mpr e']
    | mref _ => cases h2
    | glob _ => cases h2
    | exn _ => cases h2
    | scr _ => cases h2
    | _ => rfl
  | tup xs =>
    cases e1 : Py.pdepths xs with
    | none => have h1 : (Py.pdepths xs).map (· + 1) = some d := h1; rw [e1] at h1; cases h1
    | some a => cases w with
      | tup ys =>
        cases e2 : Py.pdepths ys with
        | none => have h2 : (Py.pdepths ys).map (· + 1) = some d' := h2; rw [e2] at h2; cases h2
        | some b => exact eqv_toDs xs ys e1 e2
      | mref _ => cases h2
      | glob _ => cases h2
      | exn _ => cases h2
      | scr _ => cases h2
      | _ => rfl
  | lst xs =>
    cases e1 : Py.pdepths xs with
    | none => have h1 : (Py.pdepths xs).map (· + 1) = some d := h1; rw [e1] at h1; cases h1
    | some a => cases w with
      | lst ys =>
        cases e2 : Py.pdepths ys with
        | none => have h2 : (Py.pdepths ys).map (· + 1) = some d' := h2; rw [e2] at h2; cases h2
        | some b => exact eqv_toDs xs ys e1 e2
      | mref _ => cases h2
      | glob _ => cases h2
      | exn _ => cases h2
      | scr _ => cases h2
      | _ => rfl
  | mref _ => cases h1
  | glob _ => cases h1
  | exn _ => cases h1
  | scr _ => cases h1
theorem eqv_toDs : ∀ (vs ws : List PV) {d d' : Nat}, Py.pdepths vs = some d → Py.pdepths ws = some d' → PyData.eqvAll (toDs vs) (toDs ws) = Py.peqs vs ws
  | [], [], _, _, _, _ => rfl
  | [], _ :: _, _, _, _, _ => rfl
  | _ :: _, [], _, _, _, _ => rfl
  | x :: xs, y :: ys, d, d', h1, h2 => by
    have h1 : (match Py.pdepth x, Py.pdepths xs with
      | some a, some b => some (max a b)
      | _, _ => none) = some d := h1
    have h2 : (match Py.pdepth y, Py.pdepths ys with
      | some a, some b => some (max a b)
      | _, _ => none) = some d' := h2
    cases e1 : Py.pdepth x with
    | none => rw [e1] at h1; cases h1
    | some a1 => cases e2 : Py.pdepths xs with
      | none => rw [e1, e2] at h1; cases h1
      | some a2 => cases e3 : Py.pdepth y with
        | none => rw [e3] at h2; cases h2
        | some a3 => cases e4 : Py.pdepths ys with
          | none => rw [e3, e4] at h2; cases h2
          | some a4 =>
            show (PyData.eqv (toD x) (toD y) && PyData.eqvAll (toDs xs) (toDs ys)) = (Py.peq x y && Py.peqs xs ys)
            rw [eqv_toD x y e1 e3, eqv_toDs xs ys e2 e4]
end
theorem eqv_data {v w : PV} (h1 : Py.isData v = true) (h2 : Py.isData w = true) : PyData.eqv (toD v) (toD w) = Py.peq v w := by
  unfold Py.isData at h1 h2
  cases e1 : Py.pdepth v with
  | none => rw [e1] at h1; cases h1
  | some a => cases e2 : Py.pdepth w with
    | none => rw [e2] at h2; cases h2
    | some b => exact eqv_toD v w e1 e2
end
theorem l_eq {C : Ctx} : L2R C (rEqD C.K) Py.fEq := by
  intro φ μ H v w x y Q E R rv rw h
  have h : Post C (RV C) E φ H Q (if (Py.isData (Py.deref μ v) && Py.isData (Py.deref μ w)) = true then .ok (.bl (Py.peq (Py.deref μ v) (Py.deref μ w))) μ else .bad) := h
  split at h
  · rename_i hl
    rw [Bool.and_eq_true] at hl
    obtain ⟨a1, b1⟩ := rv.dataD R hl.1
    obtain ⟨a2, b2⟩ := rw.dataD R hl.2
    exact ⟨_, _, a1, a2, b1, b2, by rw [eqv_data hl.1 hl.2]; exact Post.done h R (.bl _)⟩
  · exact False.elim h
theorem l_ne {C : Ctx} : L2R C (rNeD C.K) Py.fNe := by
  intro φ μ H v w x y Q E R rv rw h
  have h : Post C (RV C) E φ H Q (if (Py.isData (Py.deref μ v) && Py.isData (Py.deref μ w)) = true then .ok (.bl (!Py.peq (Py.deref μ v) (Py.deref μ w))) μ else .bad) := h
  split at h
  · rename_i hl
    rw [Bool.and_eq_true] at hl
    obtain ⟨a1, b1⟩ := rv.dataD R hl.1
    obtain ⟨a2, b2⟩ := rw.dataD R hl.2
    exact ⟨_, _, a1, a2, b1, b2, by rw [eqv_data hl.1 hl.2]; exact Post.done h R (.bl _)⟩
  · exact False.elim h
theorem isNon_eq {C : Ctx} {φ : Ph} {H : Hp} {v : PV} {u : V} (r : RV C φ H v u) : Py.isNon v = decide (u = .non) := by cases r <;> simp [Py.isNon]

/-! ### in -/
theorem flat_eq {C : Ctx} {φ : Ph} {H : Hp} {v : PV} {u : V} (r : RV C φ H v u) (h : Py.flat v = true) : flatV u = true := by cases r <;> first | rfl | cases h
theorem flats_eq {C : Ctx} {φ : Ph} {H : Hp} : ∀ {vs : List PV} {us : List V}, RVs C φ H vs us → vs.all Py.flat = true → us.all flatV = true
  | _, _, .nil, _ => rfl
  | _, _, .cons r t, h => by
    rw [List.all_cons, Bool.and_eq_true] at h
    rw [List.all_cons, flat_eq r h.1, flats_eq t h.2]; rfl
theorem eqV_peq {C : Ctx} {φ : Ph} {H : Hp} {v w : PV} {x y : V} (r : RV C φ H v x) (q : RV C φ H w y) (h : Py.flat v = true) (h' : Py.flat w = true) : eqV x y = Py.peq v w := by
  cases r with
  | non => cases q <;> first | rfl | cases h'
  | bl b => cases q <;> first | rfl | cases h'
  | int b => cases q <;> first | rfl | cases h'
  | str s => cases q with
    | str t =>
      show (toS s == toS t) = (s == t)
      by_cases e : s = t
      · subst e; simp
      · have e' : ¬ toS s = toS t := fun z => e (toS_inj.mp z)
        rw [beq_eq_false_iff_ne.mpr e, beq_eq_false_iff_ne.mpr e']
    | mref _ => cases h'
    | glob _ => cases h'
    | exn _ => cases h'
    | scr _ _ => cases h'
    | _ => rfl
  | tup _ _ => cases h
  | lst _ _ _ _ => cases h
  | mref _ => cases h
  | glob _ => cases h
  | exn _ => cases h
  | scr _ _ => cases h
theorem inV_any {C : Ctx} {φ : Ph} {H : Hp} {v : PV} {x : V} (r : RV C φ H v x) (h : Py.flat v = true) : ∀ {vs : List PV} {us : List V}, RVs C φ H vs us → vs.all Py.flat = true → inV x us = vs.any (Py.peq · v)
  | _, _, .nil, _ => rfl
  | _, _, .cons q t, h' => by
    rw [List.all_cons, Bool.and_eq_true] at h'
    have e1 := eqV_peq q r h'.1 h
    have e2 := inV_any r h t h'.2
    unfold inV at e2 ⊢
    rw [List.any_cons, List.any_cons, e1, e2]
def rInP (K : PySem.W.Frag) (neg : Bool) : R2 := fun x y H Q => (fun x y H Q => ∃ (c : Nat) (z : Str), x = .str ⟨#[c]⟩ ∧ y = .str z ∧ Q (.bl (if neg then !decide (c ∈ z.cps.toList) else decide (c ∈ z.cps.toList))) H) x y H Q ∨ rIn K neg x y H Q
theorem op_inP {X : Cx} : OpR X (compareOp .In) (rInP X.K false) := op_in_sign.or op_in_seq
theorem op_ninP {X : Cx} : OpR X (compareOp .NotIn) (rInP X.K true) := op_notIn_sign.or op_notIn_seq
theorem l_in {C : Ctx} (neg : Bool) : L2R C (rInP C.K neg) (Py.fIn neg) := by
  intro φ μ H v w x y Q E R rv rw h
  have seq : ∀ {p : Addr} {xs : List PV} {ys : List V}, y = .ref p → (SqL C.K H p ys ∨ SqT C.K H p ys) → RVs C φ H xs ys → Post C (RV C) E φ H Q (if (Py.flat v && xs.all Py.flat) = true then .ok (.bl (if neg then !xs.any (Py.peq · v) else xs.any (Py.peq · v))) μ else .bad) → rInP C.K neg x y H Q := fun {p xs ys} ey hs rs h => by
    split at h
    · rename_i hl
      rw [Bool.and_eq_true] at hl
      refine .inr ⟨p, ys, ey, hs, flat_eq rv hl.1, flats_eq rs hl.2, ?_⟩
      rw [inV_any rv hl.1 rs hl.2]
      exact Post.done h R (.bl _)
    · exact False.elim h
  have h0 : Post C (RV C) E φ H Q (Py.fIn neg v w μ) := h
  unfold Py.fIn at h0
  rcases RV.deref R rw with ⟨r', e⟩ | ⟨n, xs, a, ys, rfl, rfl, e, ha, rs⟩
  · rw [e] at h0
    cases rw with
    | tup hs rs => exact seq rfl (.inr hs) rs h0
    | lst hs hn _ rs => exact seq rfl (.inl (SqL.of hs)) rs h0
    | str s hs =>
      cases rv with
      | str z hz =>
        match z, h0 with
        | [c], h0 =>
          have h0 : Post C (RV C) E φ H Q (.ok (.bl (if neg then !s.contains c else s.contains c)) μ) := h0
          refine .inl ⟨c, toS s, rfl, rfl, ?_⟩
          have e : decide (c ∈ (toS s).cps.toList) = s.contains c := by
            rw [toS_list]
            simp
          rw [e]
          exact Post.done h0 R (.bl _)
        | [], h0 => exact False.elim h0
        | _ :: _ :: _, h0 => exact False.elim h0
      | _ => exact False.elim h0
    | non => exact False.elim h0
    | bl _ => exact False.elim h0
    | int _ => exact False.elim h0
    | mref _ =>
      have h1 : Post C (RV C) E φ H Q Res.bad := h0
      exact False.elim h1
    | glob _ => exact False.elim h0
    | exn _ => exact False.elim h0
    | scr _ _ => exact False.elim h0
  · rw [e] at h0
    exact seq rfl (.inl (SqL.of ha)) rs h0

section
variable {X : Cx} {T : Tb} {W : WX} {a b c e : Expr} {ca cb cc : Ev} {pos : Pos}
theorem se_eq {k : Nat} (hr : Room k X.A) (ha : SE X T W a ca) (hb : SE X T W b cb) : SE X T W (.Compare a [.Eq] [b] pos) (Py.op2 Py.fEq ca cb) := se_cmp (op_eqD hr.units) l_eq ha hb (nomark _)
theorem se_ne {k : Nat} (hr : Room k X.A) (ha : SE X T W a ca) (hb : SE X T W b cb) : SE X T W (.Compare a [.NotEq] [b] pos) (Py.op2 Py.fNe ca cb) := se_cmp (op_neD hr.units) l_ne ha hb (nomark _)
theorem se_in (ha : SE X T W a ca) (hb : SE X T W b cb) (hm : behindInMarks .In b = false := by rfl) : SE X T W (.Compare a [.In] [b] pos) (Py.op2 (Py.fIn false) ca cb) := se_cmp op_inP (l_in false) ha hb hm
theorem se_nin (ha : SE X T W a ca) (hb : SE X T W b cb) (hm : behindInMarks .NotIn b = false := by rfl) : SE X T W (.Compare a [.NotIn] [b] pos) (Py.op2 (Py.fIn true) ca cb) := se_cmp op_ninP (l_in true) ha hb hm
theorem se_isN {j pos'} (ha : SE X T W a ca) : SE X T W (.Compare a [.Is] [.Constant .none j pos'] pos) (Py.op1 Py.fIsN ca) :=
  (pe_cmp (pc_isN ha)).weak fun σ H Q ⟨φ, μ, ρ, R, E, h⟩ => ⟨φ, μ, ρ, R, E, (Post.bind h).imp fun u H1 ⟨φ1, μ1, v, l1, R1, rv, h1⟩ => by
    rw [← isNon_eq rv]
    exact Post.done h1 R1 (.bl _)⟩
theorem se_notN {j pos'} (ha : SE X T W a ca) : SE X T W (.Compare a [.IsNot] [.Constant .none j pos'] pos) (Py.op1 Py.fNotN ca) :=
  (pe_cmp (pc_notN ha)).weak fun σ H Q ⟨φ, μ, ρ, R, E, h⟩ => ⟨φ, μ, ρ, R, E, (Post.bind h).imp fun u H1 ⟨φ1, μ1, v, l1, R1, rv, h1⟩ => by
    rw [← isNon_eq rv]
    exact Post.done h1 R1 (.bl _)⟩
end
end PyS

set_option Elab.async false
set_option linter.all false
set_option maxRecDepth 100000
set_option maxHeartbeats 2000000
/-! PyH: tests, items, slices. -/
namespace PyS
open PySem PySem.Spec PyProof.Rows L2
open Py (PV MO Mem Exc Res PEnv Ev Tv Av Ov)

section
variable {X : Cx} {T : Tb} {W : WX} {a b c e : Expr} {ca cb cc : Ev} {ta tb : Tv} {rest : List Expr} {pos : Pos}
theorem t_tB {C : Ctx} {σ : L2.St} {H : Hp} {Q : Bool → Hp → Prop} (h : tT C W (Py.tB ca) σ H Q) : tE C W ca σ H fun x H1 => ∃ k, x = .bl k ∧ Q k H1 := by
  obtain ⟨φ, μ, ρ, R, E, h⟩ := h
  refine ⟨φ, μ, ρ, R, E, (Post.bind h).imp ?_⟩
  rintro u H1 ⟨φ1, μ1, v, l1, R1, rv, h1⟩
  cases rv with
  | bl b => exact ⟨b, rfl, Post.done h1 R1 rfl⟩
  | _ => exact False.elim h1
theorem st_cmp {op : CmpOp} {r : R2} {f : PV → PV → Py.M PV} (ho : OpR X (compareOp op) r) (hf : L2R (cX X T) r f) (ha : SE X T W a ca) (hb : SE X T W b cb) (hm : behindInMarks op b = false) : ST X T W (.Compare a [op] [b] pos) (Py.tB (Py.op2 f ca cb)) :=
  (pt_cmpR ho ha hb hm).weak fun σ H Q h => t_op2 hf (t_tB h)
theorem st_lt (ha : SE X T W a ca) (hb : SE X T W b cb) : ST X T W (.Compare a [.Lt] [b] pos) (Py.tB (Py.op2 Py.fLt ca cb)) := st_cmp op_lt l_lt ha hb (nomark _)
theorem st_le (ha : SE X T W a ca) (hb : SE X T W b cb) : ST X T W (.Compare a [.LtE] [b] pos) (Py.tB (Py.op2 Py.fLe ca cb)) := st_cmp op_le l_le ha hb (nomark _)
theorem st_gt (ha : SE X T W a ca) (hb : SE X T W b cb) : ST X T W (.Compare a [.Gt] [b] pos) (Py.tB (Py.op2 Py.fGt ca cb)) := st_cmp op_gt l_gt ha hb (nomark _)
theorem st_ge (ha : SE X T W a ca) (hb : SE X T W b cb) : ST X T W (.Compare a [.GtE] [b] pos) (Py.tB (Py.op2 Py.fGe ca cb)) := st_cmp op_ge l_ge ha hb (nomark _)
theorem st_eq {k : Nat} (hr : Room k X.A) (ha : SE X T W a ca) (hb : SE X T W b cb) : ST X T W (.Compare a [.Eq] [b] pos) (Py.tB (Py.op2 Py.fEq ca cb)) := st_cmp (op_eqD hr.units) l_eq ha hb (nomark _)
theorem st_ne {k : Nat} (hr : Room k X.A) (ha : SE X T W a ca) (hb : SE X T W b cb) : ST X T W (.Compare a [.NotEq] [b] pos) (Py.tB (Py.op2 Py.fNe ca cb)) := st_cmp (op_neD hr.units) l_ne ha hb (nomark _)
theorem st_in (ha : SE X T W a ca) (hb : SE X T W b cb) (hm : behindInMarks .In b = false := by rfl) : ST X T W (.Compare a [.In] [b] pos) (Py.tB (Py.op2 (Py.fIn false) ca cb)) := st_cmp op_inP (l_in false) ha hb hm
theorem st_nin (ha : SE X T W a ca) (hb : SE X T W b cb) (hm : behindInMarks .NotIn b = false := by rfl) : ST X T W (.Compare a [.NotIn] [b] pos) (Py.tB (Py.op2 (Py.fIn true) ca cb)) := st_cmp op_ninP (l_in true) ha hb hm
theorem st_isN {j pos'} (ha : SE X T W a ca) : ST X T W (.Compare a [.Is] [.Constant .none j pos'] pos) (Py.tB (Py.op1 Py.fIsN ca)) :=
  (pt_cmp (pc_isN ha)).weak fun σ H Q h => by
    obtain ⟨φ, μ, ρ, R, E, h⟩ := t_tB h
    exact ⟨φ, μ, ρ, R, E, (Post.bind h).imp fun u H1 ⟨φ1, μ1, v, l1, R1, rv, h1⟩ => by
      rw [← isNon_eq rv]
      exact Post.done h1 R1 (.bl _)⟩
theorem st_notN {j pos'} (ha : SE X T W a ca) : ST X T W (.Compare a [.IsNot] [.Constant .none j pos'] pos) (Py.tB (Py.op1 Py.fNotN ca)) :=
  (pt_cmp (pc_notN ha)).weak fun σ H Q h => by
    obtain ⟨φ, μ, ρ, R, E, h⟩ := t_tB h
    exact ⟨φ, μ, ρ, R, E, (Post.bind h).imp fun u H1 ⟨φ1, μ1, v, l1, R1, rv, h1⟩ => by
      rw [← isNon_eq rv]
      exact Post.done h1 R1 (.bl _)⟩
/-- is True, is False -/
theorem l_isB {C : Ctx} (neg b : Bool) : L2R C (fun x y H Q => ∃ a b, x = .bl a ∧ y = .bl b ∧ Q (.bl (if neg then !decide (a = b) else decide (a = b))) H) (Py.fIsB neg) := by
  intro φ μ H v w x y Q E R rv rw h
  cases rv with
  | bl i => cases rw with
    | bl j =>
      have h : Post C (RV C) E φ H Q (.ok (.bl (if neg then !(i == j) else i == j)) μ) := h
      refine ⟨i, j, rfl, rfl, ?_⟩
      have e : decide (i = j) = (i == j) := by cases i <;> cases j <;> rfl
      rw [e]
      exact Post.done h R (.bl _)
    | _ => exact False.elim h
  | _ => cases rw <;> exact False.elim h
theorem se_isB (ha : SE X T W a ca) (hb : SE X T W b cb) : SE X T W (.Compare a [.Is] [b] pos) (Py.op2 (Py.fIsB false) ca cb) := se_cmp op_is_bl (l_isB false true) ha hb (nomark _)
theorem se_notB (ha : SE X T W a ca) (hb : SE X T W b cb) : SE X T W (.Compare a [.IsNot] [b] pos) (Py.op2 (Py.fIsB true) ca cb) := se_cmp op_isnot_bl (l_isB true true) ha hb (nomark _)
theorem st_isB (ha : SE X T W a ca) (hb : SE X T W b cb) : ST X T W (.Compare a [.Is] [b] pos) (Py.tB (Py.op2 (Py.fIsB false) ca cb)) := st_cmp op_is_bl (l_isB false true) ha hb (nomark _)
theorem st_notB (ha : SE X T W a ca) (hb : SE X T W b cb) : ST X T W (.Compare a [.IsNot] [b] pos) (Py.tB (Py.op2 (Py.fIsB true) ca cb)) := st_cmp op_isnot_bl (l_isB true true) ha hb (nomark _)

/-- an expression that gives a bool -/
theorem st_val (h : SE X T W a ca) (he : ∀ whole, isTrue a X.env whole = (do let v ← whole; standAt a.pos; holding [v] (truthy v)) := by intro _; rfl) : ST X T W a (Py.tB ca) := (pt_val h he).weak fun σ H Q h => t_tB h
theorem st_truth (h : SE X T W a ca) (he : ∀ whole, isTrue a X.env whole = (do let v ← whole; standAt a.pos; holding [v] (truthy v)) := by intro _; rfl) : ST X T W a (Py.tTruth ca) :=
  (pt_truth h he).weak fun σ H Q ⟨φ, μ, ρ, R, E, h⟩ => ⟨φ, μ, ρ, R, E, (Post.bind h).imp fun u H1 ⟨φ1, μ1, v, l1, R1, rv, h1⟩ => by
    have fin : ∀ {k : Bool}, Py.truth μ1 v = some k → TruV X.K u H1 k → ∃ k, TruV X.K u H1 k ∧ Q k H1 := fun {k} e t => by
      rw [e] at h1
      exact ⟨k, t, Post.done h1 R1 rfl⟩
    have no : Py.truth μ1 v = none → ∃ k, TruV X.K u H1 k ∧ Q k H1 := fun e => by
      rw [e] at h1
      exact False.elim h1
    rcases RV.deref R1 rv with ⟨r', e⟩ | ⟨n, xs, a, ys, rfl, rfl, e, ha, rs⟩
    · cases rv with
      | non => exact fin rfl rfl
      | bl b => exact fin rfl rfl
      | int i => exact fin rfl rfl
      | str s hs =>
        by_cases hl : s.length ≤ Py.line
        · refine fin (k := !s.isEmpty) (show (if s.length ≤ Py.line then some (!s.isEmpty) else none) = _ from if_pos hl) ⟨by rw [toS_len]; exact sz_line hl, ?_⟩
          rw [toS_len]
          cases s with
          | nil => rfl
          | cons x xs =>
            show true = _
            symm
            rw [bne_iff_ne]
            simp only [List.length_cons]
            omega
        · exact no (show (if s.length ≤ Py.line then some (!s.isEmpty) else none) = _ from if_neg hl)
      | @tup a xs ys hs rs => exact fin (k := !xs.isEmpty) rfl (.inr (.inl ⟨ys, hs, by cases rs <;> rfl⟩))
      | @lst a xs ys hs hn _ rs => exact fin (k := !xs.isEmpty) rfl (.inl ⟨ys, SqL.of hs, by cases rs <;> rfl⟩)
      | mref _ => exact no (by unfold Py.truth; rw [e])
      | glob _ => exact no rfl
      | exn _ => exact no rfl
      | scr _ _ => exact no rfl
    · exact fin (k := !xs.isEmpty) (by unfold Py.truth; rw [e]) (.inl ⟨ys, SqL.of ha, by cases rs <;> rfl⟩)⟩
theorem st_not (h : ST X T W a ta) : ST X T W (.UnaryOp .Not a pos) (Py.tNot ta) :=
  (pt_not h).weak fun σ H Q ⟨φ, μ, ρ, R, E, h⟩ => ⟨φ, μ, ρ, R, E, (Post.bind (P := PB) h).imp fun u H1 ⟨φ1, μ1, v, l1, R1, rv, h1⟩ => by
    subst rv
    exact Post.done h1 R1 rfl⟩
theorem sw_and1 (h : ST X T W a ta) : SW X T W (.BoolOp .And [a] pos) ta := pw_and1 h
theorem sw_or1 (h : ST X T W a ta) : SW X T W (.BoolOp .Or [a] pos) ta := pw_or1 h
theorem sw_and (ha : ST X T W a ta) (hb : SW X T W (.BoolOp .And (b :: rest) pos) tb) : SW X T W (.BoolOp .And (a :: b :: rest) pos) (Py.tAnd ta tb) :=
  (pw_and ha hb).weak fun σ H Q ⟨φ, μ, ρ, R, E, h⟩ => ⟨φ, μ, ρ, R, E, (Post.bind (P := PB) h).imp fun u H1 ⟨φ1, μ1, v, l1, R1, rv, h1⟩ => by
    subst rv
    cases u with
    | true => exact ⟨φ1, μ1, ρ, R1, E.mono R l1, h1⟩
    | false => exact Post.done h1 R1 rfl⟩
theorem sw_or (ha : ST X T W a ta) (hb : SW X T W (.BoolOp .Or (b :: rest) pos) tb) : SW X T W (.BoolOp .Or (a :: b :: rest) pos) (Py.tOr ta tb) :=
  (pw_or ha hb).weak fun σ H Q ⟨φ, μ, ρ, R, E, h⟩ => ⟨φ, μ, ρ, R, E, (Post.bind (P := PB) h).imp fun u H1 ⟨φ1, μ1, v, l1, R1, rv, h1⟩ => by
    subst rv
    cases u with
    | false => exact ⟨φ1, μ1, ρ, R1, E.mono R l1, h1⟩
    | true => exact Post.done h1 R1 rfl⟩
theorem st_w (h : SW X T W a ta) : ST X T W a ta := h.pt
theorem se_one {op} (h : SE X T W a ca) : SE X T W (.BoolOp op [a] pos) ca := pe_one h
theorem se_and (ha : SE X T W a ca) (hb : SE X T W (.BoolOp .And (b :: rest) pos) cb) : SE X T W (.BoolOp .And (a :: b :: rest) pos) (Py.andV ca cb) :=
  (pe_and ha hb).weak fun σ H Q ⟨φ, μ, ρ, R, E, h⟩ => ⟨φ, μ, ρ, R, E, (Post.bind h).imp fun u H1 ⟨φ1, μ1, v, l1, R1, rv, h1⟩ => by
    cases rv with
    | bl c =>
      refine ⟨c, rfl, ?_⟩
      cases c with
      | true => exact ⟨φ1, μ1, ρ, R1, E.mono R l1, h1⟩
      | false => exact Post.done h1 R1 (.bl _)
    | _ => exact False.elim h1⟩
theorem se_or (ha : SE X T W a ca) (hb : SE X T W (.BoolOp .Or (b :: rest) pos) cb) : SE X T W (.BoolOp .Or (a :: b :: rest) pos) (Py.orV ca cb) :=
  (pe_or ha hb).weak fun σ H Q ⟨φ, μ, ρ, R, E, h⟩ => ⟨φ, μ, ρ, R, E, (Post.bind h).imp fun u H1 ⟨φ1, μ1, v, l1, R1, rv, h1⟩ => by
    cases rv with
    | bl c =>
      refine ⟨c, rfl, ?_⟩
      cases c with
      | false => exact ⟨φ1, μ1, ρ, R1, E.mono R l1, h1⟩
      | true => exact Post.done h1 R1 (.bl _)
    | _ => exact False.elim h1⟩
theorem se_not (ha : SE X T W a ca) : SE X T W (.UnaryOp .Not a pos) (Py.notV ca) :=
  (pe_not ha).weak fun σ H Q ⟨φ, μ, ρ, R, E, h⟩ => ⟨φ, μ, ρ, R, E, (Post.bind h).imp fun u H1 ⟨φ1, μ1, v, l1, R1, rv, h1⟩ => by
    cases rv with
    | bl c => exact ⟨c, rfl, Post.done h1 R1 (.bl _)⟩
    | _ => exact False.elim h1⟩
theorem se_if {t : Expr} (ht : ST X T W t ta) (ha : SE X T W a ca) (hb : SE X T W b cb) : SE X T W (.IfExp t a b pos) (Py.ifI ta ca cb) :=
  (pe_ifExp ht ha hb).weak fun σ H Q ⟨φ, μ, ρ, R, E, h⟩ => ⟨φ, μ, ρ, R, E, (Post.bind (P := PB) h).imp fun u H1 ⟨φ1, μ1, v, l1, R1, rv, h1⟩ => by
    subst rv
    cases u with
    | true => exact ⟨φ1, μ1, ρ, R1, E.mono R l1, h1⟩
    | false => exact ⟨φ1, μ1, ρ, R1, E.mono R l1, h1⟩⟩
theorem t_chain {C : Ctx} {r r' : R2} {f g : PV → PV → Py.M PV} (hf : L2R C r f) (hg : L2R C r' g) {σ : L2.St} {H : Hp} {Q : VK} (h : tE C W (Py.chainI f g ca cb cc) σ H Q) : L2.tChain r r' (tE C W ca) (tE C W cb) (tE C W cc) σ H Q := by
  obtain ⟨φ, μ, ρ, R, E, h⟩ := h
  refine ⟨φ, μ, ρ, R, E, (Post.bind h).imp fun x H1 ⟨φ1, μ1, v, l1, R1, rv, h1⟩ => ?_⟩
  refine ⟨φ1, μ1, ρ, R1, E.mono R l1, (Post.bind h1).imp fun y H2 ⟨φ2, μ2, w, l2, R2, rw, h2⟩ => ?_⟩
  refine hf R2 (rv.mono R1 l2) rw ((Post.bind h2).imp fun z H3 ⟨φ3, μ3, k, l3, R3, rk, h3⟩ => ?_)
  cases rk with
  | bl b =>
    refine ⟨b, rfl, ?_⟩
    cases b with
    | true =>
      exact ⟨φ3, μ3, ρ, R3, ((E.mono R l1).mono R1 l2).mono R2 l3, (Post.bind h3).imp fun u H4 ⟨φ4, μ4, q, l4, R4, rq, h4⟩ => hg R4 ((rw.mono R2 l3).mono R3 l4) rq h4⟩
    | false => exact Post.done h3 R3 (.bl _)
  | _ => exact False.elim h3
theorem se_chain {op op' : CmpOp} {r r' : R2} {f g : PV → PV → Py.M PV} (ho : OpR X (compareOp op) r) (ho' : OpR X (compareOp op') r') (hf : L2R (cX X T) r f) (hg : L2R (cX X T) r' g) (ha : SE X T W a ca) (hb : SE X T W b cb) (hc : SE X T W c cc)
    (hm : lastMarks [op, op'] [b, c] = false := by with_unfolding_all rfl) : SE X T W (.Compare a [op, op'] [b, c] pos) (Py.chainI f g ca cb cc) := (pe_chain ho ho' ha hb hc hm).weak fun _ _ _ h => t_chain hf hg h
theorem st_chain {op op' : CmpOp} {r r' : R2} {f g : PV → PV → Py.M PV} (ho : OpR X (compareOp op) r) (ho' : OpR X (compareOp op') r') (hf : L2R (cX X T) r f) (hg : L2R (cX X T) r' g) (ha : SE X T W a ca) (hb : SE X T W b cb) (hc : SE X T W c cc)
    (hm : lastMarks [op, op'] [b, c] = false := by with_unfolding_all rfl) : ST X T W (.Compare a [op, op'] [b, c] pos) (Py.tB (Py.chainI f g ca cb cc)) := (pt_chain ho ho' ha hb hc hm).weak fun _ _ _ h => t_chain hf hg (t_tB h)
end

/-! ### items, slices -/
theorem sIx_eq (n d : Nat) (o : Option Int) : Py.sIx n d o = HT.sIx n d o := by cases o <;> rfl
theorem ixN_eq (n : Nat) (i : Int) : Py.ixN n i = L2.ixN n i := rfl
theorem RVs.atI {C : Ctx} {φ : Ph} {H : Hp} {xs : List PV} {ys : List V} {i : Int} {x : PV} (r : RVs C φ H xs ys) (h : Py.atI xs i = some x) : ∃ y, L2.atI ys i = some y ∧ RV C φ H x y := by
  unfold Py.atI at h
  unfold L2.atI
  rw [← r.length]
  have e : L2.ixN xs.length i = Py.ixN xs.length i := rfl
  rw [e]
  cases q : Py.ixN xs.length i with
  | none => rw [q] at h; cases h
  | some j =>
    rw [q] at h
    exact r.get h
theorem cut_len {xs : List PV} {ys : List V} {C : Ctx} {φ : Ph} {H : Hp} (r : RVs C φ H xs ys) (lo hi : Option Int) : RVs C φ H (Py.cut xs lo hi) (L2.cutV ys lo hi) := by
  unfold Py.cut L2.cutV
  rw [sIx_eq, sIx_eq, r.length]
  exact (r.drop _).take _
theorem l_ixL {C : Ctx} {φ : Ph} {μ : Mem} {H : Hp} {w : PV} {x y : V} {Q : VK} {E : Value → Option Addr → Hp → Prop} {p : Addr} {xs : List PV} {ys : List V} (R : Rel C φ μ H) (rw : RV C φ H w y) (ex : x = .ref p) (hs : SqL C.K H p ys ∨ SqT C.K H p ys) (rs : RVs C φ H xs ys)
    (h : Post C (RV C) E φ H Q (Py.ixL xs w μ)) : rIx C.K x y H Q := by
  cases rw with
  | int i =>
    have h : Post C (RV C) E φ H Q (match Py.atI xs i with
      | some x => .ok x μ
      | none => .bad) := h
    cases q : Py.atI xs i with
    | none => rw [q] at h; exact False.elim h
    | some z =>
      rw [q] at h
      obtain ⟨z', h1, h3⟩ := rs.atI q
      rcases hs with hs | hs
      · exact .inl ⟨p, ys, i, z', ex, rfl, hs, h1, Post.done h R h3⟩
      · exact .inr (.inl ⟨p, ys, i, z', ex, rfl, hs, h1, Post.done h R h3⟩)
  | _ => exact False.elim h
theorem l_ix {C : Ctx} : L2R C (rIx C.K) Py.fIx := by
  intro φ μ H v w x y Q E R rv rw h
  have h0 : Post C (RV C) E φ H Q (Py.fIx v w μ) := h
  unfold Py.fIx at h0
  rcases RV.deref R rv with ⟨r', e⟩ | ⟨n, xs, a, ys, rfl, rfl, e, ha, rs⟩
  · rw [e] at h0
    cases rv with
    | tup hs rs => exact l_ixL R rw rfl (.inr hs) rs h0
    | lst hs hn _ rs => exact l_ixL R rw rfl (.inl (SqL.of hs)) rs h0
    | str s hs =>
      have h0 : Post C (RV C) E φ H Q (Py.ixS s w μ) := h0
      cases rw with
      | int i =>
        have h0 : Post C (RV C) E φ H Q (if s.length ≤ Py.line then (match Py.atI s i with
          | some c => .ok (.str [c]) μ
          | none => .bad) else .bad) := h0
        split at h0
        · rename_i hl
          cases q : Py.atI s i with
          | none => rw [q] at h0; exact False.elim h0
          | some c =>
            rw [q] at h0
            refine .inr (.inr ⟨toS s, i, c, rfl, rfl, by rw [toS_len]; exact sz_line hl, by rw [toS_list]; exact q, ?_⟩)
            refine Post.done h0 R (.str [c] fun d hd => ?_)
            have hd : d = c := by simpa using hd
            subst hd
            unfold Py.atI at q
            cases q2 : Py.ixN s.length i with
            | none => rw [q2] at q; cases q
            | some j =>
              rw [q2] at q
              exact hs _ (List.mem_of_getElem? q)
        · exact False.elim h0
      | _ => exact False.elim h0
    | non => exact False.elim h0
    | bl _ => exact False.elim h0
    | int _ => exact False.elim h0
    | mref _ => exact False.elim (show Post C (RV C) E φ H Q Res.bad from h0)
    | glob _ => exact False.elim h0
    | exn _ => exact False.elim h0
    | scr _ _ => exact False.elim h0
  · rw [e] at h0
    exact l_ixL R rw rfl (.inl (SqL.of ha)) rs h0
def rSlP (K : PySem.W.Frag) : V → Option Int → Option Int → Hp → VK → Prop := fun x lo hi H Q => rSlL K x lo hi H Q ∨ rSlA K x lo hi H Q ∨ rSlS x lo hi H Q
theorem sl_P {X : Cx} : SlR X (rSlP X.K) := sl_list.or (sl_tupA.or sl_str)
theorem l_sl {C : Ctx} {φ : Ph} {μ : Mem} {H : Hp} {v : PV} {x : V} {lo hi : Option Int} {Q : VK} {E : Value → Option Addr → Hp → Prop} (R : Rel C φ μ H) (rv : RV C φ H v x) (h : Post C (RV C) E φ H Q (Py.fSl v lo hi μ)) : rSlP C.K x lo hi H Q := by
  unfold Py.fSl at h
  rcases RV.deref R rv with ⟨r', e⟩ | ⟨n, xs, a, ys, rfl, rfl, e, ha, rs⟩
  · rw [e] at h
    cases rv with
    | @tup a xs ys hs rs =>
      have h : Post C (RV C) E φ H Q (.ok (.tup (Py.cut xs lo hi)) μ) := h
      refine .inr (.inl ⟨a, ys, rfl, hs, fun hw => ?_, fun hw p hp => post_tup R (cut_len rs lo hi) h hp⟩)
      have e2 : Py.cut xs lo hi = xs := by
        unfold Py.cut
        rw [sIx_eq, sIx_eq, rs.length, hw.1, hw.2]
        simp [← rs.length]
      rw [e2] at h
      exact Post.done h R (.tup hs rs)
    | @lst a xs ys hs hn _ rs =>
      have h : Post C (RV C) E φ H Q (.ok (.lst (Py.cut xs lo hi)) μ) := h
      exact .inl ⟨a, ys, rfl, SqL.of hs, fun p hp => post_lst R (cut_len rs lo hi) h hp⟩
    | str s hs =>
      have h : Post C (RV C) E φ H Q (if s.length ≤ Py.line then .ok (.str (Py.cut s lo hi)) μ else .bad) := h
      split at h
      · rename_i hl
        refine .inr (.inr ⟨toS s, rfl, by rw [toS_len]; exact sz_line hl, ?_⟩)
        have e2 : cutS (toS s) lo hi = toS (Py.cut s lo hi) := by
          unfold cutS Py.cut
          rw [toS_len, toS_list, sIx_eq, sIx_eq]
        rw [e2]
        exact Post.done h R (.str _ fun c hc => hs c (List.mem_of_mem_drop (List.mem_of_mem_take hc)))
      · exact False.elim h
    | non => exact False.elim h
    | bl _ => exact False.elim h
    | int _ => exact False.elim h
    | mref _ => exact False.elim (show Post C (RV C) E φ H Q Res.bad from h)
    | glob _ => exact False.elim h
    | exn _ => exact False.elim h
    | scr _ _ => exact False.elim h
  · rw [e] at h
    have h : Post C (RV C) E φ H Q (.ok (.lst (Py.cut xs lo hi)) μ) := h
    exact .inl ⟨a, ys, rfl, SqL.of ha, fun p hp => post_lst R (cut_len rs lo hi) h hp⟩
section
variable {X : Cx} {T : Tb} {W : WX} {a b e : Expr} {ca cb : Ev} {lo hi : Option Expr} {clo chi : Ov} {pos p2 : Pos}
abbrev SO (X : Cx) (T : Tb) (W : WX) (e : Option Expr) (c : Ov) : Prop := PO X e (tO (cX X T) W c)
theorem _root_.L2.PO.weak {e : Option Expr} {t t' : TO} (h : PO X e t) (w : ∀ σ H Q, t' σ H Q → t σ H Q) : PO X e t' := ⟨fun pins s σ H Q I q => h.run pins s σ H Q I (w σ H Q q)⟩
theorem so_none : SO X T W none Py.noPart := po_none.weak fun σ H Q ⟨φ, μ, ρ, R, E, h⟩ => Post.done h R rfl
theorem so_some (h : SE X T W e ca) : SO X T W (some e) (Py.part ca) := (po_some h).weak fun σ H Q ⟨φ, μ, ρ, R, E, h⟩ => ⟨φ, μ, ρ, R, E, (Post.bind h).imp fun u H1 ⟨φ1, μ1, v, l1, R1, rv, h1⟩ => by
  cases rv with
  | int i => exact ⟨i, rfl, Post.done h1 R1 rfl⟩
  | _ => exact False.elim h1⟩
theorem se_ix (ha : SE X T W a ca) (hb : SE X T W b cb) (hs : PlainIx b := by intro _ _; rfl) : SE X T W (.Subscript a b pos) (Py.op2 Py.fIx ca cb) := (pe_ix ix_seq ha hb hs).weak fun _ _ _ h => t_op2 l_ix h
theorem se_sl (ha : SE X T W a ca) (hl : SO X T W lo clo) (hh : SO X T W hi chi) : SE X T W (.Subscript a (.Slice lo hi none p2) pos) (Py.sliceI ca clo chi) :=
  (pe_slice sl_P ha hl hh).weak fun σ H Q ⟨φ, μ, ρ, R, E, h⟩ => ⟨φ, μ, ρ, R, E, (Post.bind h).imp fun x H1 ⟨φ1, μ1, v, l1, R1, rv, h1⟩ =>
    ⟨φ1, μ1, ρ, R1, E.mono R l1, (Post.bind (P := PI') h1).imp fun l H2 ⟨φ2, μ2, l', l2, R2, rl, h2⟩ =>
      ⟨φ2, μ2, ρ, R2, (E.mono R l1).mono R1 l2, (Post.bind (P := PI') h2).imp fun u H3 ⟨φ3, μ3, u', l3, R3, ru, h3⟩ => by
        subst rl ru
        exact l_sl R3 ((rv.mono R1 l2).mono R2 l3) h3⟩⟩⟩
end
end PyS

set_option Elab.async false
set_option linter.all false
set_option maxRecDepth 100000
set_option maxHeartbeats 2000000
/-! PyB: built-ins. -/
namespace PyS
open PySem PySem.Spec PyProof.Rows L2
open Py (PV MO Mem Exc Res PEnv Ev Tv Av Ov)

section
variable {C : Ctx}
theorem l_one {r : List V → Hp → VK → Prop} {f : PV → Mem → Res PV}
    (h : ∀ ⦃φ μ H v x⦄ ⦃Q : VK⦄ ⦃E : Value → Option Addr → Hp → Prop⦄, Rel C φ μ H → RV C φ H v x → Post C (RV C) E φ H Q (f v μ) → r [x] H Q) : LNR C r (Py.one f) := by
  intro φ μ H vs xs Q E R rvs hp
  cases rvs with
  | nil => exact False.elim hp
  | cons r1 t =>
    cases t with
    | nil => exact h R r1 hp
    | cons _ _ => exact False.elim hp
theorem l_two {r : List V → Hp → VK → Prop} {f : PV → PV → Mem → Res PV}
    (h : ∀ ⦃φ μ H v w x y⦄ ⦃Q : VK⦄ ⦃E : Value → Option Addr → Hp → Prop⦄, Rel C φ μ H → RV C φ H v x → RV C φ H w y → Post C (RV C) E φ H Q (f v w μ) → r [x, y] H Q) : LNR C r (Py.two f) := by
  intro φ μ H vs xs Q E R rvs hp
  cases rvs with
  | nil => exact False.elim hp
  | cons r1 t =>
    cases t with
    | nil => exact False.elim hp
    | cons r2 t =>
      cases t with
      | nil => exact h R r1 r2 hp
      | cons _ _ => exact False.elim hp
/-- a list or a tuple, read -/
theorem RV.seqM {φ : Ph} {μ : Mem} {H : Hp} {v : PV} {x : V} {xs : List PV} (R : Rel C φ μ H) (r : RV C φ H v x) (h : Py.seqM μ v = some xs) : ∃ a ys, x = .ref a ∧ (SqL C.K H a ys ∨ SqT C.K H a ys) ∧ RVs C φ H xs ys := by
  unfold Py.seqM at h
  rcases RV.deref R r with ⟨r', e⟩ | ⟨n, zs, a, ys, rfl, rfl, e, ha, rs⟩
  · rw [e] at h
    cases r with
    | tup hs rs => cases h; exact ⟨_, _, rfl, .inr hs, rs⟩
    | lst hs _ _ rs => cases h; exact ⟨_, _, rfl, .inl (SqL.of hs), rs⟩
    | _ => cases h
  · rw [e] at h
    cases h
    exact ⟨_, _, rfl, .inl (SqL.of ha), rs⟩
theorem RV.lstM {φ : Ph} {μ : Mem} {H : Hp} {v : PV} {x : V} {xs : List PV} (R : Rel C φ μ H) (r : RV C φ H v x) (h : Py.lstM μ v = some xs) : ∃ a ys, x = .ref a ∧ H a = some (.lst ys) ∧ RVs C φ H xs ys := by
  unfold Py.lstM at h
  rcases RV.deref R r with ⟨r', e⟩ | ⟨n, zs, a, ys, rfl, rfl, e, ha, rs⟩
  · rw [e] at h
    cases r with
    | lst hs _ _ rs => cases h; exact ⟨_, _, rfl, hs, rs⟩
    | _ => cases h
  · rw [e] at h
    cases h
    exact ⟨_, _, rfl, ha, rs⟩
theorem intsOf_map : ∀ {xs : List PV} {ns : List Int}, Py.intsOf xs = some ns → xs = ns.map PV.int
  | [], ns, h => by cases h; rfl
  | .int i :: r, ns, h => by
    have h : (Py.intsOf r).map (i :: ·) = some ns := h
    cases e : Py.intsOf r with
    | none => rw [e] at h; cases h
    | some ms =>
      rw [e] at h
      cases h
      rw [intsOf_map e]; rfl
  | .non :: _, _, h => by cases h
  | .bl _ :: _, _, h => by cases h
  | .str _ :: _, _, h => by cases h
  | .tup _ :: _, _, h => by cases h
  | .lst _ :: _, _, h => by cases h
  | .mref _ :: _, _, h => by cases h
  | .glob _ :: _, _, h => by cases h
theorem blsOf_map : ∀ {xs : List PV} {ns : List Bool}, Py.blsOf xs = some ns → xs = ns.map PV.bl
  | [], ns, h => by cases h; rfl
  | .bl i :: r, ns, h => by
    have h : (Py.blsOf r).map (i :: ·) = some ns := h
    cases e : Py.blsOf r with
    | none => rw [e] at h; cases h
    | some ms =>
      rw [e] at h
      cases h
      rw [blsOf_map e]; rfl
  | .non :: _, _, h => by cases h
  | .int _ :: _, _, h => by cases h
  | .str _ :: _, _, h => by cases h
  | .tup _ :: _, _, h => by cases h
  | .lst _ :: _, _, h => by cases h
  | .mref _ :: _, _, h => by cases h
  | .glob _ :: _, _, h => by cases h
theorem RVs.bls {φ : Ph} {H : Hp} : ∀ {xs : List Bool} {ys : List V}, RVs C φ H (xs.map PV.bl) ys → ys = xs.map V.bl
  | [], _, .nil => rfl
  | _ :: _, _, .cons (.bl _) t => by rw [List.map_cons, RVs.bls t]
theorem RVs.ofInts {φ : Ph} {H : Hp} : ∀ (xs : List Int), RVs C φ H (xs.map PV.int) (xs.map V.int)
  | [] => .nil
  | i :: r => .cons (.int i) (RVs.ofInts r)
theorem l_onInts {r : List V → Hp → VK → Prop} {f : List Int → Option PV}
    (h : ∀ ⦃φ μ H a ns x⦄ ⦃Q : VK⦄ ⦃E : Value → Option Addr → Hp → Prop⦄, Rel C φ μ H → H a = some (.lst (ns.map V.int)) → f ns = some x → Post C (RV C) E φ H Q (.ok x μ) → r [.ref a] H Q) : LNR C r (Py.onInts f) := by
  refine l_one ?_
  intro φ μ H v x Q E R rv hp
  cases q : (Py.lstM μ v).bind Py.intsOf with
  | none => rw [q] at hp; exact False.elim hp
  | some ns =>
    rw [q] at hp
    obtain ⟨xs, e, e2⟩ := Option.bind_eq_some_iff.mp q
    obtain ⟨a, ys, rfl, ha, rs⟩ := rv.lstM R e
    have e3 := intsOf_map e2
    subst e3
    have e4 := rs.ints
    subst e4
    have hp : Post C (RV C) E φ H Q (match f ns with
      | some x => .ok x μ
      | none => .bad) := hp
    cases e5 : f ns with
    | none => rw [e5] at hp; exact False.elim hp
    | some x => rw [e5] at hp; exact h R ha e5 hp
theorem l_onBls {r : List V → Hp → VK → Prop} {f : List Bool → PV}
    (h : ∀ ⦃φ μ H a ns⦄ ⦃Q : VK⦄ ⦃E : Value → Option Addr → Hp → Prop⦄, Rel C φ μ H → H a = some (.lst (ns.map V.bl)) → Post C (RV C) E φ H Q (.ok (f ns) μ) → r [.ref a] H Q) : LNR C r (Py.onBls f) := by
  refine l_one ?_
  intro φ μ H v x Q E R rv hp
  cases q : (Py.lstM μ v).bind Py.blsOf with
  | none => rw [q] at hp; exact False.elim hp
  | some ns =>
    rw [q] at hp
    obtain ⟨xs, e, e2⟩ := Option.bind_eq_some_iff.mp q
    obtain ⟨a, ys, rfl, ha, rs⟩ := rv.lstM R e
    have e3 := blsOf_map e2
    subst e3
    have e4 := rs.bls
    subst e4
    exact h R ha hp
theorem l_sum : LNR C (rSum C.K) Py.fSum := by
  refine l_onInts ?_
  intro φ μ H a ns x Q E R ha e hp
  cases e
  exact ⟨a, ns, rfl, SqL.of ha, Post.done hp R (.int _)⟩
theorem maxL_spec : ∀ {ns : List Int} {m : Int}, Py.maxL ns = some m → m ∈ ns ∧ ∀ y ∈ ns, y ≤ m
  | [], _, h => by cases h
  | x :: xs, m, h => by
    have h : (match Py.maxL xs with
      | none => some x
      | some m => some (if m < x then x else m)) = some m := h
    cases e : Py.maxL xs with
    | none =>
      rw [e] at h
      cases h
      cases xs with
      | nil => exact ⟨List.mem_cons_self, fun y hy => by simp at hy; omega⟩
      | cons a b =>
        have e : (match Py.maxL b with
          | none => some a
          | some m => some (if m < a then a else m)) = none := e
        cases q : Py.maxL b <;> rw [q] at e <;> cases e
    | some k =>
      rw [e] at h
      obtain ⟨h1, h2⟩ := maxL_spec e
      have h : (if k < x then x else k) = m := Option.some.inj h
      split at h
      · subst h
        refine ⟨List.mem_cons_self, fun y hy => ?_⟩
        rcases List.mem_cons.mp hy with rfl | hy
        · exact Int.le_refl _
        · have := h2 y hy; omega
      · subst h
        refine ⟨List.mem_cons_of_mem _ h1, fun y hy => ?_⟩
        rcases List.mem_cons.mp hy with rfl | hy
        · omega
        · exact h2 y hy
theorem minL_spec : ∀ {ns : List Int} {m : Int}, Py.minL ns = some m → m ∈ ns ∧ ∀ y ∈ ns, m ≤ y
  | [], _, h => by cases h
  | x :: xs, m, h => by
    have h : (match Py.minL xs with
      | none => some x
      | some m => some (if x < m then x else m)) = some m := h
    cases e : Py.minL xs with
    | none =>
      rw [e] at h
      cases h
      cases xs with
      | nil => exact ⟨List.mem_cons_self, fun y hy => by simp at hy; omega⟩
      | cons a b =>
        have e : (match Py.minL b with
          | none => some a
          | some m => some (if a < m then a else m)) = none := e
        cases q : Py.minL b <;> rw [q] at e <;> cases e
    | some k =>
      rw [e] at h
      obtain ⟨h1, h2⟩ := minL_spec e
      have h : (if x < k then x else k) = m := Option.some.inj h
      split at h
      · subst h
        refine ⟨List.mem_cons_self, fun y hy => ?_⟩
        rcases List.mem_cons.mp hy with rfl | hy
        · exact Int.le_refl _
        · have := h2 y hy; omega
      · subst h
        refine ⟨List.mem_cons_of_mem _ h1, fun y hy => ?_⟩
        rcases List.mem_cons.mp hy with rfl | hy
        · omega
        · exact h2 y hy
theorem l_maxL : LNR C (rMax C.K) Py.fMaxL := by
  refine l_onInts ?_
  intro φ μ H a ns x Q E R ha e hp
  cases q : Py.maxL ns with
  | none => rw [q] at e; cases e
  | some m =>
    rw [q] at e
    cases e
    obtain ⟨h1, h2⟩ := maxL_spec q
    refine ⟨a, ns, rfl, SqL.of ha, List.length_pos_of_mem h1, fun k hk hb => ?_⟩
    have e : k = m := by have := hb m h1; have := h2 k hk; omega
    subst e
    exact Post.done hp R (.int _)
theorem l_minL : LNR C (rMin C.K) Py.fMinL := by
  refine l_onInts ?_
  intro φ μ H a ns x Q E R ha e hp
  cases q : Py.minL ns with
  | none => rw [q] at e; cases e
  | some m =>
    rw [q] at e
    cases e
    obtain ⟨h1, h2⟩ := minL_spec q
    refine ⟨a, ns, rfl, SqL.of ha, List.length_pos_of_mem h1, fun k hk hb => ?_⟩
    have e : k = m := by have := hb m h1; have := h2 k hk; omega
    subst e
    exact Post.done hp R (.int _)
theorem l_any : LNR C (rAny C.K) Py.fAny := by
  refine l_onBls ?_
  intro φ μ H a ns Q E R ha hp
  exact ⟨a, ns, rfl, SqL.of ha, Post.done hp R (.bl _)⟩
theorem l_all : LNR C (rAll C.K) Py.fAll := by
  refine l_onBls ?_
  intro φ μ H a ns Q E R ha hp
  exact ⟨a, ns, rfl, SqL.of ha, Post.done hp R (.bl _)⟩
theorem insI_perm (x : Int) : ∀ xs : List Int, (Py.insI x xs).Perm (x :: xs)
  | [] => List.Perm.refl _
  | y :: ys => by
    show (if x ≤ y then x :: y :: ys else y :: Py.insI x ys).Perm _
    split
    · exact List.Perm.refl _
    · exact ((insI_perm x ys).cons y).trans (List.Perm.swap x y ys)
theorem isort_perm : ∀ xs : List Int, (Py.isort xs).Perm xs
  | [] => List.Perm.refl _
  | x :: xs => (insI_perm x _).trans ((isort_perm xs).cons x)
theorem insI_sorted (x : Int) : ∀ {xs : List Int}, xs.Pairwise (· ≤ ·) → (Py.insI x xs).Pairwise (· ≤ ·)
  | [], _ => by simp [Py.insI]
  | y :: ys, h => by
    show (if x ≤ y then x :: y :: ys else y :: Py.insI x ys).Pairwise _
    rw [List.pairwise_cons] at h
    split
    · rename_i hx
      refine List.pairwise_cons.mpr ⟨fun z hz => ?_, List.pairwise_cons.mpr h⟩
      rcases List.mem_cons.mp hz with rfl | hz
      · exact hx
      · exact Int.le_trans hx (h.1 z hz)
    · rename_i hx
      refine List.pairwise_cons.mpr ⟨fun z hz => ?_, insI_sorted x h.2⟩
      rcases List.mem_cons.mp ((insI_perm x ys).mem_iff.mp hz) with rfl | hz
      · omega
      · exact h.1 z hz
theorem isort_sorted : ∀ xs : List Int, (Py.isort xs).Pairwise (· ≤ ·)
  | [] => List.Pairwise.nil
  | x :: xs => insI_sorted x (isort_sorted xs)
theorem sorted_unique : ∀ {xs ys : List Int}, xs.Perm ys → xs.Pairwise (· ≤ ·) → ys.Pairwise (· ≤ ·) → xs = ys := fun {xs ys} p h1 h2 =>
  List.Perm.eq_of_pairwise (fun a b _ _ h h' => by omega) h1 h2 p
theorem l_sorted : LNR C (rSortedI C.K) Py.fSorted := by
  refine l_onInts ?_
  intro φ μ H a ns x Q E R ha e hp
  cases e
  refine ⟨a, ns, rfl, SqL.of ha, fun ns' p hperm hs hp' => ?_⟩
  have e : ns' = Py.isort ns := sorted_unique (hperm.trans (isort_perm ns).symm) hs (isort_sorted ns)
  rw [e]
  exact post_lst R (RVs.ofInts _) hp hp'
theorem l_len : LNR C (fun xs H Q => ∃ x n, xs = [x] ∧ LenV C.K x H n ∧ Q (.int n) H) Py.fLen := by
  refine l_one ?_
  intro φ μ H v x Q E R rv hp
  rcases RV.deref R rv with ⟨r', e⟩ | ⟨n, xs, a, ys, rfl, rfl, e, ha, rs⟩
  · rw [e] at hp
    cases rv with
    | tup hs rs => exact ⟨_, _, rfl, .inr ⟨_, hs, rs.length⟩, Post.done hp R (.int _)⟩
    | lst hs _ _ rs => exact ⟨_, _, rfl, .inl ⟨_, SqL.of hs, rs.length⟩, Post.done hp R (.int _)⟩
    | str s h =>
      have hp : Post C (RV C) E φ H Q (if s.length ≤ Py.line then .ok (.int s.length) μ else .bad) := hp
      split at hp
      · rename_i hl
        refine ⟨_, s.length, rfl, ⟨by rw [toS_len]; exact sz_line hl, by rw [toS_len]⟩, Post.done hp R (.int _)⟩
      · exact False.elim hp
    | mref _ => exact False.elim (show Post C (RV C) E φ H Q Res.bad from hp)
    | _ => exact False.elim hp
  · rw [e] at hp
    exact ⟨_, _, rfl, .inl ⟨_, SqL.of ha, rs.length⟩, Post.done hp R (.int _)⟩
theorem l_abs : LNR C (fun xs H Q => ∃ i, xs = [.int i] ∧ Q (.int (if i < 0 then -i else i)) H) Py.fAbs := by
  refine l_one ?_
  intro φ μ H v x Q E R rv hp
  cases rv with
  | int i => exact ⟨i, rfl, Post.done hp R (.int _)⟩
  | _ => exact False.elim hp
def rIntP : List V → Hp → VK → Prop := fun xs H Q => ((∃ i, xs = [.int i] ∧ Q (.int i) H) ∨ ∃ k, xs = [.bl k] ∧ Q (.int (if k then 1 else 0)) H) ∨ ∃ a n, xs = [.str a] ∧ PySem.intText? a = some n ∧ a.length ≤ 640 ∧ Q (.int n) H
theorem call_intP {X : Cx} : CallR X (.type "int") rIntP := call_int1.or call_int_str
theorem l_intP : LNR C rIntP Py.fInt := by
  refine l_one ?_
  intro φ μ H v x Q E R rv hp
  cases rv with
  | int i => exact .inl (.inl ⟨i, rfl, Post.done hp R (.int _)⟩)
  | bl b => exact .inl (.inr ⟨b, rfl, Post.done hp R (.int _)⟩)
  | str s h =>
    have hp : Post C (RV C) E φ H Q (if (decide (s.length ≤ 600) && !s.isEmpty && s.all Py.isDigit) = true then .ok (.int (Py.dval s)) μ else .bad) := hp
    split at hp
    · rename_i hl
      rw [Bool.and_eq_true, Bool.and_eq_true] at hl
      have h1 : s.length ≤ 600 := of_decide_eq_true hl.1.1
      refine .inr ⟨toS s, (Py.dval s : Nat), rfl, ?_, by rw [toS_len]; omega, Post.done hp R (.int _)⟩
      have e := intText_digits (x := toS s) (by
        rw [toS_list]
        intro c hc
        have h2 := List.all_eq_true.mp hl.2 c hc
        unfold Py.isDigit at h2
        rw [Bool.and_eq_true] at h2
        exact ⟨of_decide_eq_true h2.1, of_decide_eq_true h2.2⟩) (by
        rw [toS_list]
        intro z
        subst z
        exact absurd hl.1.2 (by decide)) (by rw [toS_len]; omega)
      rw [toS_list] at e
      exact e
    · exact False.elim hp
  | _ => exact False.elim hp
theorem digsF_num : ∀ (f n : Nat), n < 10 ^ f → Py.digsF f n = if f = 0 then [] else TL.numL n
  | 0, _, _ => rfl
  | f + 1, n, h => by
    rw [if_neg (by omega)]
    show (if n < 10 then [48 + n] else Py.digsF f (n / 10) ++ [48 + n % 10]) = TL.numL n
    split
    · rename_i hn
      rw [TL.numL_lt hn]
    · rename_i hn
      have h2 : n / 10 < 10 ^ f := by
        rw [Nat.div_lt_iff_lt_mul (by decide)]
        rw [Nat.pow_succ] at h
        exact h
      have hf : f ≠ 0 := by
        intro z
        subst z
        simp at h2
        omega
      rw [TL.numL_step (by omega), digsF_num f (n / 10) h2, if_neg hf]
theorem l_str : LNR C (fun xs H Q => ∃ i, xs = [.int i] ∧ i.natAbs.log2 < 1920 ∧ Q (.str (toString i)) H) Py.fStr := by
  refine l_one ?_
  intro φ μ H v x Q E R rv hp
  cases rv with
  | int i =>
    have hp : Post C (RV C) E φ H Q (if 0 ≤ i ∧ i < 1000000000000000000000000000000 then .ok (.str (Py.digsF 40 i.toNat)) μ else .bad) := hp
    split at hp
    · rename_i hl
      obtain ⟨n, rfl⟩ := Int.eq_ofNat_of_zero_le hl.1
      have hn : n < 10 ^ 30 := by have := hl.2; omega
      refine ⟨_, rfl, ?_, ?_⟩
      · show (n : Int).natAbs.log2 < 1920
        rw [Int.natAbs_natCast]
        by_cases h0 : n = 0
        · subst h0; decide
        · have h2 : n < 2 ^ 100 := Nat.lt_trans hn (by decide)
          have := (Nat.log2_lt h0).mpr h2
          omega
      · have e1 : Py.digsF 40 n = TL.numL n := by
          rw [digsF_num 40 n (Nat.lt_trans hn (by decide)), if_neg (by decide)]
        have e2 : (Str.ofString (toString (n : Int))) = toS (TL.numL n) := by
          have := TL.tl_num n
          have e3 : ∀ z : Str, z = toS z.cps.toList := fun z => by cases z; rfl
          rw [e3 (Str.ofString _)]
          exact congrArg toS this
        have hp : Post C (RV C) E φ H Q (.ok (.str (Py.digsF 40 n)) μ) := hp
        rw [e1] at hp
        show Q (.str (Str.ofString (toString (n : Int)))) H
        rw [e2]
        exact Post.done hp R (.str _ fun c hc => by
          have := TL.numL_digits n c hc
          omega)
    · exact False.elim hp
  | _ => exact False.elim hp
theorem l_list : LNR C (fun xs H Q => ∃ p ys, xs = [.ref p] ∧ (SqL C.K H p ys ∨ SqT C.K H p ys) ∧ ∀ l, H l = none → Q (.ref l) (upd H l (.lst ys))) Py.fList := by
  refine l_one ?_
  intro φ μ H v x Q E R rv hp
  cases e : Py.seqM μ v with
  | none => rw [e] at hp; exact False.elim hp
  | some xs =>
    rw [e] at hp
    obtain ⟨a, ys, rfl, hs, rs⟩ := rv.seqM R e
    exact ⟨a, ys, rfl, hs, fun l hl => post_lst R rs hp hl⟩
theorem l_listM : LNR C (fun xs H Q => ∃ p ys, xs = [.ref p] ∧ (SqL C.K H p ys ∨ SqT C.K H p ys) ∧ ∀ l, H l = none → Q (.ref l) (upd H l (.lst ys))) Py.fListM := by
  refine l_one ?_
  intro φ μ H v x Q E R rv hp
  cases e : Py.seqM μ v with
  | none => rw [e] at hp; exact False.elim hp
  | some xs =>
    rw [e] at hp
    obtain ⟨a, ys, rfl, hs, rs⟩ := rv.seqM R e
    exact ⟨a, ys, rfl, hs, fun l hl => post_mut R rs hp hl⟩
theorem l_tuple : LNR C (fun xs H Q => ∃ p ys, xs = [.ref p] ∧ ((SqL C.K H p ys ∧ ∀ l, H l = none → Q (.ref l) (upd H l (.tup ys))) ∨ (SqT C.K H p ys ∧ Q (.ref p) H))) Py.fTuple := by
  refine l_one ?_
  intro φ μ H v x Q E R rv hp
  cases e : Py.seqM μ v with
  | none => rw [e] at hp; exact False.elim hp
  | some xs =>
    rw [e] at hp
    obtain ⟨a, ys, rfl, hs, rs⟩ := rv.seqM R e
    rcases hs with hs | hs
    · exact ⟨a, ys, rfl, .inl ⟨hs, fun l hl => post_tup R rs hp hl⟩⟩
    · exact ⟨a, ys, rfl, .inr ⟨hs, Post.done hp R (.tup hs rs)⟩⟩
theorem l_max2 : LNR C (fun xs H Q => ∃ i j, xs = [.int i, .int j] ∧ Q (.int (if j > i then j else i)) H) Py.fMax2 := by
  refine l_two ?_
  intro φ μ H v w x y Q E R rv rw hp
  cases rv with
  | int i => cases rw with
    | int j => exact ⟨i, j, rfl, Post.done hp R (.int _)⟩
    | _ => exact False.elim hp
  | _ => cases rw <;> exact False.elim hp
theorem l_min2 : LNR C (fun xs H Q => ∃ i j, xs = [.int i, .int j] ∧ Q (.int (if j < i then j else i)) H) Py.fMin2 := by
  refine l_two ?_
  intro φ μ H v w x y Q E R rv rw hp
  cases rv with
  | int i => cases rw with
    | int j => exact ⟨i, j, rfl, Post.done hp R (.int _)⟩
    | _ => exact False.elim hp
  | _ => cases rw <;> exact False.elim hp
theorem l_gcd : LNR C rGcd Py.fGcd := by
  refine l_two ?_
  intro φ μ H v w x y Q E R rv rw hp
  cases rv with
  | int i => cases rw with
    | int j => exact ⟨i, j, rfl, Post.done hp R (.int _)⟩
    | _ => exact False.elim hp
  | _ => cases rw <;> exact False.elim hp
/-- a value's type -/
theorem RV.tyX {φ : Ph} {μ : Mem} {H : Hp} {v : PV} {x : V} {n : String} (R : Rel C φ μ H) (r : RV C φ H v x) (h : Py.tyName μ v = some n) : TyX C.K H x (.type n) := by
  unfold Py.tyName at h
  rcases RV.deref R r with ⟨r', e⟩ | ⟨k, zs, a, ys, rfl, rfl, e, ha, rs⟩
  · rw [e] at h
    cases r with
    | non => cases h; exact .base .non
    | bl b => cases h; exact .base (.bl b)
    | int i => cases h; exact .base (.int i)
    | str s _ => cases h; exact .base (.str _)
    | @tup a _ ys hs rs =>
      cases h
      rcases hs with (hs | ⟨o, hs⟩) | ⟨o, its, n, hk, hc, _⟩
      · exact .base (.tup hs)
      · exact .fTuple hs
      · exact .kTuple hk hc
    | lst hs _ _ rs => cases h; exact .base (.lst hs)
    | _ => cases h
  · rw [e] at h
    cases h
    exact .base (.lst ha)
end
theorem kit_int : ∀ n ∈ ["NoneType", "bool", "int", "str", "tuple", "list"], ∀ t ∈ ["bool", "int", "str", "tuple", "list"], kitB n t = some (n == t || (n == "bool" && t == "int")) := by decide +kernel
theorem tyName_mem {μ : Mem} {v : PV} {n : String} (h : Py.tyName μ v = some n) : n ∈ ["NoneType", "bool", "int", "str", "tuple", "list"] := by
  unfold Py.tyName at h
  split at h <;> first | (cases h; simp) | cases h
section
variable {X : Cx} {T : Tb} {W : WX} {a b c e : Expr} {ca cb cc : Ev} {es : List Expr} {cs : Av} {pos p : Pos}
theorem se_len (hm : X.mg "len" = none) (hg : Gl X "len") (ha : SA X T W (e :: es) cs) (he : starEach (e :: es) X.env = (false, eval e X.env) :: starEach es X.env := by rfl) (hpl : (backTo pos (starEach es X.env)).any (·.1) = false := by rfl) :
    SE X T W (.Call (.Name "len" p) (e :: es) [] pos) (Py.opN Py.fLen cs) := se_callB call_len l_len hg hm (by decide +kernel) ha (by decide) (by decide) he hpl
theorem se_abs (hm : X.mg "abs" = none) (hg : Gl X "abs") (ha : SA X T W (e :: es) cs) (he : starEach (e :: es) X.env = (false, eval e X.env) :: starEach es X.env := by rfl) (hpl : (backTo pos (starEach es X.env)).any (·.1) = false := by rfl) :
    SE X T W (.Call (.Name "abs" p) (e :: es) [] pos) (Py.opN Py.fAbs cs) := se_callB call_abs l_abs hg hm (by decide +kernel) ha (by decide) (by decide) he hpl
theorem se_sum (hc : X.calm = true) (hm : X.mg "sum" = none) (hg : Gl X "sum") (ha : SA X T W (e :: es) cs) (he : starEach (e :: es) X.env = (false, eval e X.env) :: starEach es X.env := by rfl) (hpl : (backTo pos (starEach es X.env)).any (·.1) = false := by rfl) :
    SE X T W (.Call (.Name "sum" p) (e :: es) [] pos) (Py.opN Py.fSum cs) := se_callB (cr_sum hc) l_sum hg hm (by decide +kernel) ha (by decide) (by decide) he hpl
theorem se_maxL (hc : X.calm = true) (hm : X.mg "max" = none) (hg : Gl X "max") (ha : SA X T W (e :: es) cs) (he : starEach (e :: es) X.env = (false, eval e X.env) :: starEach es X.env := by rfl) (hpl : (backTo pos (starEach es X.env)).any (·.1) = false := by rfl) :
    SE X T W (.Call (.Name "max" p) (e :: es) [] pos) (Py.opN Py.fMaxL cs) := se_callB (cr_max hc) l_maxL hg hm (by decide +kernel) ha (by decide) (by decide) he hpl
theorem se_minL (hc : X.calm = true) (hm : X.mg "min" = none) (hg : Gl X "min") (ha : SA X T W (e :: es) cs) (he : starEach (e :: es) X.env = (false, eval e X.env) :: starEach es X.env := by rfl) (hpl : (backTo pos (starEach es X.env)).any (·.1) = false := by rfl) :
    SE X T W (.Call (.Name "min" p) (e :: es) [] pos) (Py.opN Py.fMinL cs) := se_callB (cr_min hc) l_minL hg hm (by decide +kernel) ha (by decide) (by decide) he hpl
theorem se_max2 (hc : X.calm = true) (hm : X.mg "max" = none) (hg : Gl X "max") (ha : SA X T W (e :: es) cs) (he : starEach (e :: es) X.env = (false, eval e X.env) :: starEach es X.env := by rfl) (hpl : (backTo pos (starEach es X.env)).any (·.1) = false := by rfl) :
    SE X T W (.Call (.Name "max" p) (e :: es) [] pos) (Py.opN Py.fMax2 cs) := se_callB (call_max2 hc) l_max2 hg hm (by decide +kernel) ha (by decide) (by decide) he hpl
theorem se_min2 (hc : X.calm = true) (hm : X.mg "min" = none) (hg : Gl X "min") (ha : SA X T W (e :: es) cs) (he : starEach (e :: es) X.env = (false, eval e X.env) :: starEach es X.env := by rfl) (hpl : (backTo pos (starEach es X.env)).any (·.1) = false := by rfl) :
    SE X T W (.Call (.Name "min" p) (e :: es) [] pos) (Py.opN Py.fMin2 cs) := se_callB (call_min2 hc) l_min2 hg hm (by decide +kernel) ha (by decide) (by decide) he hpl
theorem se_any (hc : X.calm = true) (hm : X.mg "any" = none) (hg : Gl X "any") (ha : SA X T W (e :: es) cs) (he : starEach (e :: es) X.env = (false, eval e X.env) :: starEach es X.env := by rfl) (hpl : (backTo pos (starEach es X.env)).any (·.1) = false := by rfl) :
    SE X T W (.Call (.Name "any" p) (e :: es) [] pos) (Py.opN Py.fAny cs) := se_callB (cr_any hc) l_any hg hm (by decide +kernel) ha (by decide) (by decide) he hpl
theorem se_all (hc : X.calm = true) (hm : X.mg "all" = none) (hg : Gl X "all") (ha : SA X T W (e :: es) cs) (he : starEach (e :: es) X.env = (false, eval e X.env) :: starEach es X.env := by rfl) (hpl : (backTo pos (starEach es X.env)).any (·.1) = false := by rfl) :
    SE X T W (.Call (.Name "all" p) (e :: es) [] pos) (Py.opN Py.fAll cs) := se_callB (cr_all hc) l_all hg hm (by decide +kernel) ha (by decide) (by decide) he hpl
theorem se_sorted (hm : X.mg "sorted" = none) (hg : Gl X "sorted") (ha : SA X T W (e :: es) cs) (he : starEach (e :: es) X.env = (false, eval e X.env) :: starEach es X.env := by rfl) (hpl : (backTo pos (starEach es X.env)).any (·.1) = false := by rfl) :
    SE X T W (.Call (.Name "sorted" p) (e :: es) [] pos) (Py.opN Py.fSorted cs) := se_callB cr_sortedI l_sorted hg hm (by decide +kernel) ha (by decide) (by decide) he hpl
theorem se_intC (hm : X.mg "int" = none) (hg : Gl X "int") (ha : SA X T W (e :: es) cs) (he : starEach (e :: es) X.env = (false, eval e X.env) :: starEach es X.env := by rfl) (hpl : (backTo pos (starEach es X.env)).any (·.1) = false := by rfl) :
    SE X T W (.Call (.Name "int" p) (e :: es) [] pos) (Py.opN Py.fInt cs) := se_callTy call_intP l_intP hg hm (by decide +kernel) ha (by decide) (by decide) he hpl
theorem se_strC (hm : X.mg "str" = none) (hg : Gl X "str") (ha : SA X T W (e :: es) cs) (he : starEach (e :: es) X.env = (false, eval e X.env) :: starEach es X.env := by rfl) (hpl : (backTo pos (starEach es X.env)).any (·.1) = false := by rfl) :
    SE X T W (.Call (.Name "str" p) (e :: es) [] pos) (Py.opN Py.fStr cs) := se_callTy call_str_int l_str hg hm (by decide +kernel) ha (by decide) (by decide) he hpl
theorem se_list (hm : X.mg "list" = none) (hg : Gl X "list") (ha : SA X T W (e :: es) cs) (he : starEach (e :: es) X.env = (false, eval e X.env) :: starEach es X.env := by rfl) (hpl : (backTo pos (starEach es X.env)).any (·.1) = false := by rfl) :
    SE X T W (.Call (.Name "list" p) (e :: es) [] pos) (Py.opN Py.fList cs) := se_callTy call_list_of l_list hg hm (by decide +kernel) ha (by decide) (by decide) he hpl
theorem se_listM (hm : X.mg "list" = none) (hg : Gl X "list") (ha : SA X T W (e :: es) cs) (he : starEach (e :: es) X.env = (false, eval e X.env) :: starEach es X.env := by rfl) (hpl : (backTo pos (starEach es X.env)).any (·.1) = false := by rfl) :
    SE X T W (.Call (.Name "list" p) (e :: es) [] pos) (Py.opN Py.fListM cs) := se_callTy call_list_of l_listM hg hm (by decide +kernel) ha (by decide) (by decide) he hpl
theorem se_tuple (hm : X.mg "tuple" = none) (hg : Gl X "tuple") (ha : SA X T W (e :: es) cs) (he : starEach (e :: es) X.env = (false, eval e X.env) :: starEach es X.env := by rfl) (hpl : (backTo pos (starEach es X.env)).any (·.1) = false := by rfl) :
    SE X T W (.Call (.Name "tuple" p) (e :: es) [] pos) (Py.opN Py.fTuple cs) := se_callTy call_tuple_of l_tuple hg hm (by decide +kernel) ha (by decide) (by decide) he hpl
/-- isinstance(a, t) -/
theorem se_isi (t : String) (ht : t ∈ ["bool", "int", "str", "tuple", "list"]) {x : Str} {p2 : Pos} (hm : X.mg "isinstance" = none) (hg : Gl X "isinstance") (hmt : X.mg x = none) (hgt : Gl X x) (hv : bootBuiltins x = some (.type t)) (ha : SE X T W a ca)
    (hn : x ≠ "__name__" := by decide) (hd : (x == ("__debug__" : Str)) = false := by decide) (he : starEach [a, .Name x p2] X.env = (false, eval a X.env) :: starEach [.Name x p2] X.env := by rfl) (he2 : starEach [.Name x p2] X.env = (false, eval (.Name x p2) X.env) :: starEach [] X.env := by rfl) (hpl : (backTo pos (starEach [.Name x p2] X.env)).any (·.1) = false := by rfl) :
    SE X T W (.Call (.Name "isinstance" p) [a, .Name x p2] [] pos) (Py.op1 (Py.fIsI t) ca) :=
  (pe_callB call_isi hg hm (by decide +kernel) (pa_cons ha (pa_cons (pe_bltn (v := .ty t) hgt hmt hv rfl hn hd) pa_nil he2) he) (by decide) (by decide) he hpl).weak fun σ H Q ⟨φ, μ, ρ, R, E, h⟩ =>
    ⟨φ, μ, ρ, R, E, (Post.bind h).imp fun u H1 ⟨φ1, μ1, v, l1, R1, rv, h1⟩ => by
      unfold Py.fIsI at h1
      cases e : Py.tyName μ1 v with
      | none => rw [e] at h1; exact False.elim h1
      | some n =>
        rw [e] at h1
        exact ⟨u, .ty t, .type n, .type t, _, rfl, .ty t, rv.tyX R1 e, kit_ty (kit_int n (tyName_mem e) t ht), Post.done h1 R1 (.bl _)⟩⟩
end
end PyS

set_option Elab.async false
set_option linter.all false
set_option maxRecDepth 100000
set_option maxHeartbeats 2000000
/-! PyJ: enumerate over tuples and texts; what is walked. -/
namespace PyS
open PySem PySem.Spec PyProof.Rows L2
open Py (PV MO Mem Exc Res PEnv Ev Tv Av Ov Iv)

/-! ### enumerate over a tuple, a text -/
set_option maxHeartbeats 4000000 in
theorem meets_enumerate_new1 {v : Value} {o : Obj} {H : Heap → Prop} (B : Begins v o H) :
    Meets (Builtin.«enumerate.__new__» ⟨[.type "enumerate", v], []⟩) (fun _ R s => H s.heap ∧
      R (.ok (.ret (.ref (s.heap.push o).objs.size))) { s with heap := (s.heap.push o).push { cls := .type "enumerate", data := .fields #[.none, .bool false, .ref s.heap.objs.size, rawInt 0, .none, .none] } }) :=
  .of_wp fun prog w A R s h => by
    obtain ⟨hp, g, d, tk, os⟩ := s; obtain ⟨h1, h⟩ := h
    have hsub := sub_enumerate
    have q1 : ∀ {A' : Around} {E : Value → Shared → Prop} {Q : Value → Shared → Prop}, Q (.ref hp.objs.size) ⟨hp.push o, g, d, tk, os⟩ → wpAny (model prog w) A' (pyIter v) Q E ⟨hp, g, d, tk, os⟩ :=
      fun q => B.iter prog w _ _ ⟨hp, g, d, tk, os⟩ _ h1 q
    wp_walk using q1
    refine wpAny_stack_any fun st => wpAny_pure ?_
    split
    · rename_i c _ _ _ _ _
      cases (c == Value.type "enumerate")
      · wp_walk using q1
        exact ⟨_, rfl, h⟩
      · wp_walk using q1
        exact ⟨_, rfl, h⟩
    · wp_walk using q1
      exact ⟨_, rfl, h⟩
theorem call_enumerate1 {prog : Program} {w : World} {A : Around} {E : Value → Shared → Prop} {s : Shared} {v : Value} {o : Obj} {H : Heap → Prop} {Q : Value → Shared → Prop} (B : Begins v o H) (h1 : H s.heap)
    (h : ∀ h', IsEnum h' (s.heap.objs.size + 1) s.heap.objs.size 0 .none → h'.get? s.heap.objs.size = some o → h'.objs.size = s.heap.objs.size + 2 →
      (∀ b o, s.heap.get? b = some o → h'.get? b = some o) → Q (.ref (s.heap.objs.size + 1)) { s with heap := h' }) :
    wpAny (model prog w) A (call (.type "enumerate") [v]) Q E s := by
  refine callType_new F.called_enumerate (by decide) (F.typeCall_enumerate_1 _) (F.newCall_enumerate_1 _) (fun obj => F.args_object_init_2 obj _) F.entry_enumerate_new
    (meets_enumerate_new1 B) ⟨h1, ?_⟩
  have hz : (s.heap.push o).objs.size = s.heap.objs.size + 1 := Heap.size_push ..
  show _ ∧ _
  rw [hz]
  have he : IsEnum ((s.heap.push o).push { cls := .type "enumerate", data := .fields #[.none, .bool false, .ref s.heap.objs.size, rawInt 0, .none, .none] }) (s.heap.objs.size + 1) s.heap.objs.size 0 .none := by
    have := Heap.get?_push_size (s.heap.push o) (o := { cls := .type "enumerate", data := .fields #[.none, .bool false, .ref s.heap.objs.size, rawInt 0, .none, .none] }) rfl
    rw [hz] at this; exact this
  refine ⟨⟨_, he, rfl⟩, h _ he (Heap.get?_push_of_some _ (Heap.get?_push_size _ B.free)) (by rw [Heap.size_push, hz]) fun b o x => Heap.get?_push_of_some _ (Heap.get?_push_of_some _ x)⟩

def IteT (K : PySem.W.Frag) (a : Addr) : It :=
  ⟨fun i H => ∃ (xs : List V) (x : V), SqT K H a xs ∧ xs[i]? = some x, fun i H v H' => ∃ T x, v = .ref T ∧ H T = none ∧ H' = upd H T (.tup [.int (i : Nat), x]) ∧ ∀ xs, SqT K H a xs → xs[i]? = some x, fun i H => ∃ xs : List V, SqT K H a xs ∧ xs.length ≤ i⟩
def IteS (x : Str) : It :=
  ⟨fun i H => i < x.cps.size, fun i H v H' => ∃ T c, v = .ref T ∧ H T = none ∧ x.cps[i]? = some c ∧ H' = upd H T (.tup [.int (i : Nat), .str ⟨#[c]⟩]), fun i H => x.cps.size ≤ i⟩
theorem turn_enumT {P : Program} {w : World} {K : PySem.W.Frag} {elts : List Expr} {kk : Nat} {tpos : Pos} (a e it : Addr) :
    Turn P w K (.Tuple elts kk tpos) (IteT K a) [e, it] e (fun i h => (∃ old, IsEnum h e it ((i : Nat) : Int) old) ∧ h.IsTupleIter it a i ∧ e ≠ it) where
  mem := by simp
  obj := fun i h st b hb => by
    obtain ⟨⟨old, he⟩, ⟨o, ho, hc, hd⟩, _⟩ := st
    have e' : b = e ∨ b = it := by simpa using hb
    rcases e' with z | z
    · rw [z]; exact ⟨_, he, fun v q => nomatch q⟩
    · rw [z]; exact ⟨o, ho, fun v q => by rw [hd] at q; cases q⟩
  keep := fun i h h' st k => let ⟨⟨old, he⟩, hi, hne⟩ := st; ⟨⟨old, k e (by simp) _ he⟩, hi.at fun o q => k it (by simp) o q, hne⟩
  item := by
    intro X hP hw hK hc i pins s σ H E I hf st hg
    subst hP hw hK
    obtain ⟨⟨old, he⟩, hit, hne⟩ := st
    obtain ⟨xs, x, hq, hx⟩ := hg
    obtain ⟨its, rv, p, hz⟩ := I.tuple hq
    obtain ⟨u, hu, ru⟩ := rv.get hx
    have pt : s.heap.IsTuple a its.toArray := p
    have hel : e < s.heap.objs.size := Heap.lt_size he
    have hil : it < s.heap.objs.size := by obtain ⟨_, q, _⟩ := hit; exact Heap.lt_size q
    have hai : a ≠ it := fun z => by
      obtain ⟨o1, e1, _, d1⟩ := id hit
      obtain ⟨o2, e2, _, n2, d2⟩ := id p
      rw [z, e1] at e2
      cases e2
      rw [d1] at d2
      cases d2
    have hae : e ≠ a := fun z => by
      obtain ⟨o2, e2, _, n2, d2⟩ := id p
      rw [← z] at e2
      have he2 := he
      unfold IsEnum at he2
      rw [he2] at e2
      cases e2
      cases d2
    have hh : X.A.in1.handled = none := I.ok.hd hc
    have D := Draws.tuple (prog := X.prog) (w := X.w) (A := X.A.in1) hh it a hai its.toArray
    have hlt : i < its.toArray.size := by
      have := (List.getElem?_eq_some_iff.mp hu).1
      simpa using this
    refine wpAny_pyNext_enum_itemD D he ⟨hit, pt⟩ hlt hne (by simp; exact ⟨hne, hae⟩) fun v h' tk hP ho hit' hT hsz hk => ?_
    have ev : v = u := by
      have h1 : its.toArray[i]? = some v := hP
      rw [List.getElem?_toArray, hu] at h1
      exact (Option.some.inj h1).symm
    subst ev
    refine ⟨_, rfl, wpAny_letOwnedTupleGo_enum (s := { s with heap := h', toks := tk + 1 }) ho fun h'' he' sb => ?_⟩
    have hT2 : h''.get? s.heap.objs.size = some { cls := .type "tuple", data := .seq #[.int i tk, v] } := (sb.2 _ (Nat.ne_of_gt hel)).trans hT
    have new : ObjOk X.prog X.w (upd H s.heap.objs.size (.tup [.int (i : Nat), x])) h'' s.heap.objs.size (.tup [.int (i : Nat), x]) :=
      ⟨by show 2 ≤ sizeLine; decide, [.int i tk, v], .cons ⟨_, rfl⟩ (.cons ru .nil), ⟨_, hT2, rfl, _, rfl⟩⟩
    have I1 : Inv X pins σ (upd H s.heap.objs.size (.tup [.int (i : Nat), x])) { s with heap := h'', toks := tk + 1 } :=
      I.turnedNew (ch := [e, it]) (fun b ob hb q => (sb.2 b (fun z => hb (by simp [z]))).trans (hk b ob (fun z => hb (by simp [z])) (fun z => hb (by simp [z])) q)) hf (Nat.le_refl _) new
    refine ⟨.ref s.heap.objs.size, _, I1, rfl, ⟨_, x, rfl, I.hok.fresh (Nat.le_refl _), rfl, fun ys hy => by rw [I.tuple_inj hy hq]; exact hx⟩, ⟨⟨v, ?_⟩, hit'.1.at fun o q => (sb.2 it (Ne.symm hne)).trans q, hne⟩, fun b hb => ?_⟩
    · have e1 : ((i + 1 : Nat) : Int) = (i : Int) + 1 := by omega
      rw [e1]; exact he'
    · have hb' : b < s.heap.objs.size := by
        have e' : b = e ∨ b = it := by simpa using hb
        rcases e' with z | z
        · rw [z]; exact hel
        · rw [z]; exact hil
      rw [upd_ne (Nat.ne_of_lt hb')]
      exact (hf b hb).1
  done := by
    intro X hP hw hK hc i pins s σ H E I hf st hg
    subst hP hw hK
    obtain ⟨⟨old, he⟩, hit, hne⟩ := st
    obtain ⟨xs, hq, hx⟩ := hg
    obtain ⟨its, rv, p, hz⟩ := I.tuple hq
    have pt : s.heap.IsTuple a its.toArray := p
    obtain ⟨f0, f1, f2, f3, f4, f5⟩ := hf it (by simp)
    have hl := rv.length
    have hai : a ≠ it := fun z => by
      obtain ⟨o1, e1, _, d1⟩ := id hit
      obtain ⟨o2, e2, _, n2, d2⟩ := id p
      rw [z, e1] at e2
      cases e2
      rw [d1] at d2
      cases d2
    have hT : s.TypeIs (.ref e) "enumerate" := ⟨_, he, rfl⟩
    unfold pyNext
    refine wpAny_bind (wpAny_attempt (wpAny_callSpecial?_slot (name := Str.ofString "__next__") hT F.slot_enumerate_next
      (wpAny_call_entry F.slot_enumerate_next hT F.entry_enumerate_next ?_ (F.args_enumerate_next_1 _))))
    show wpAny _ _ (field (.ref e) 2 >>= _) _ _ _
    refine wpAny_bind (wpAny_field he rfl (x := .ref it) rfl ?_)
    have hh : X.A.in1.handled = none := I.ok.hd hc
    refine wpAny_bind (wpAny_nextOf_tuple_end hh hit pt (by simp; omega) fun h' x he' hx' => ?_)
    obtain ⟨o, ho, hc⟩ := hx'
    refine wpAny_bind (wpAny_isInstance (T := "StopIteration") (b := true) ⟨o, ho, hc⟩ isSubtype_stop ?_)
    exact wpAny_pure ⟨rfl, I.turned (t' := s.toks) (fun b o hb q => he' b o hb q) f0 f1 f3 f4 f5⟩
  self := fun A i s Q E st h => let ⟨⟨_, he⟩, _⟩ := st; wpAny_pyIter_enum he h
theorem turn_enumS {P : Program} {w : World} {K : PySem.W.Frag} {elts : List Expr} {kk : Nat} {tpos : Pos} (x : Str) (t : Tok) (e it : Addr) :
    Turn P w K (.Tuple elts kk tpos) (IteS x) [e, it] e (fun i h => (∃ old, IsEnum h e it ((i : Nat) : Int) old) ∧ h.IsStrIter it (strIterType x) x t i ∧ e ≠ it) where
  mem := by simp
  obj := fun i h st b hb => by
    obtain ⟨⟨old, he⟩, ⟨o, ho, hc, hd⟩, _⟩ := st
    have e' : b = e ∨ b = it := by simpa using hb
    rcases e' with z | z
    · rw [z]; exact ⟨_, he, fun v q => nomatch q⟩
    · rw [z]; exact ⟨o, ho, fun v q => by rw [hd] at q; cases q⟩
  keep := fun i h h' st k => by
    obtain ⟨⟨old, he⟩, ⟨o, ho, r⟩, hne⟩ := st
    exact ⟨⟨old, k e (by simp) _ he⟩, ⟨o, k it (by simp) o ho, r⟩, hne⟩
  item := by
    intro X hP hw hK hc i pins s σ H E I hf st hg
    subst hP hw hK
    obtain ⟨⟨old, he⟩, hit, hne⟩ := st
    have hlt : i < x.cps.size := hg
    have hel : e < s.heap.objs.size := Heap.lt_size he
    have hil : it < s.heap.objs.size := by obtain ⟨_, q, _⟩ := hit; exact Heap.lt_size q
    have hh : X.A.in1.handled = none := I.ok.hd hc
    have D := Draws.text (prog := X.prog) (w := X.w) (A := X.A.in1) hh it x t
    refine wpAny_pyNext_enum_itemD D he hit hlt hne (by simp; exact hne) fun v h' tk hP ho hit' hT hsz hk => ?_
    obtain ⟨c, u, hcx, ev⟩ := hP
    subst ev
    refine ⟨_, rfl, wpAny_letOwnedTupleGo_enum (s := { s with heap := h', toks := tk + 1 }) ho fun h'' he' sb => ?_⟩
    have hT2 : h''.get? s.heap.objs.size = some { cls := .type "tuple", data := .seq #[.int i tk, .str ⟨#[c]⟩ u] } := (sb.2 _ (Nat.ne_of_gt hel)).trans hT
    have new : ObjOk X.prog X.w (upd H s.heap.objs.size (.tup [.int (i : Nat), .str ⟨#[c]⟩])) h'' s.heap.objs.size (.tup [.int (i : Nat), .str ⟨#[c]⟩]) :=
      ⟨by show 2 ≤ sizeLine; decide, [.int i tk, .str ⟨#[c]⟩ u], .cons ⟨_, rfl⟩ (.cons ⟨_, rfl⟩ .nil), ⟨_, hT2, rfl, _, rfl⟩⟩
    have I1 : Inv X pins σ (upd H s.heap.objs.size (.tup [.int (i : Nat), .str ⟨#[c]⟩])) { s with heap := h'', toks := tk + 1 } :=
      I.turnedNew (ch := [e, it]) (fun b ob hb q => (sb.2 b (fun z => hb (by simp [z]))).trans (hk b ob (fun z => hb (by simp [z])) (fun z => hb (by simp [z])) q)) hf (Nat.le_refl _) new
    refine ⟨.ref s.heap.objs.size, _, I1, rfl, ⟨_, c, rfl, I.hok.fresh (Nat.le_refl _), hcx, rfl⟩, ⟨⟨.str ⟨#[c]⟩ u, ?_⟩, ?_, hne⟩, fun b hb => ?_⟩
    · have e1 : ((i + 1 : Nat) : Int) = (i : Int) + 1 := by omega
      rw [e1]; exact he'
    · obtain ⟨o, ho', r⟩ := hit'
      exact ⟨o, (sb.2 it (Ne.symm hne)).trans ho', r⟩
    · have hb' : b < s.heap.objs.size := by
        have e' : b = e ∨ b = it := by simpa using hb
        rcases e' with z | z
        · rw [z]; exact hel
        · rw [z]; exact hil
      rw [upd_ne (Nat.ne_of_lt hb')]
      exact (hf b hb).1
  done := by
    intro X hP hw hK hc i pins s σ H E I hf st hg
    subst hP hw hK
    obtain ⟨⟨old, he⟩, hit, hne⟩ := st
    have hx : x.cps.size ≤ i := hg
    obtain ⟨f0, f1, f2, f3, f4, f5⟩ := hf it (by simp)
    have hT : s.TypeIs (.ref e) "enumerate" := ⟨_, he, rfl⟩
    unfold pyNext
    refine wpAny_bind (wpAny_attempt (wpAny_callSpecial?_slot (name := Str.ofString "__next__") hT F.slot_enumerate_next
      (wpAny_call_entry F.slot_enumerate_next hT F.entry_enumerate_next ?_ (F.args_enumerate_next_1 _))))
    show wpAny _ _ (field (.ref e) 2 >>= _) _ _ _
    refine wpAny_bind (wpAny_field he rfl (x := .ref it) rfl ?_)
    have hh : X.A.in1.handled = none := I.ok.hd hc
    have hn : x.cps[i]? = none := Array.getElem?_eq_none hx
    cases ha : x.cps.all (· < 128)
    · have hit2 : s.heap.IsStrIter it "str_iterator" x t i := by
        have e1 : strIterType x = "str_iterator" := by simp [strIterType, ha]
        rw [← e1]; exact hit
      refine wpAny_bind (wpAny_nextOf_wide_end hh hit2 hn fun h' x' he' hx' => ?_)
      obtain ⟨o, ho, hc⟩ := hx'
      refine wpAny_bind (wpAny_isInstance (T := "StopIteration") (b := true) ⟨o, ho, hc⟩ isSubtype_stop ?_)
      exact wpAny_pure ⟨rfl, I.turned (t' := s.toks) (fun b o hb q => he' b o hb q) f0 f1 f3 f4 f5⟩
    · have hit2 : s.heap.IsStrIter it "str_ascii_iterator" x t i := by
        have e1 : strIterType x = "str_ascii_iterator" := by simp [strIterType, ha]
        rw [← e1]; exact hit
      refine wpAny_bind (wpAny_nextOf_ascii_end hh hit2 hn fun h' x' he' hx' => ?_)
      obtain ⟨o, ho, hc⟩ := hx'
      refine wpAny_bind (wpAny_isInstance (T := "StopIteration") (b := true) ⟨o, ho, hc⟩ isSubtype_stop ?_)
      exact wpAny_pure ⟨rfl, I.turned (t' := s.toks) (fun b o hb q => he' b o hb q) f0 f1 f3 f4 f5⟩
  self := fun A i s Q E st h => let ⟨⟨_, he⟩, _⟩ := st; wpAny_pyIter_enum he h
def iEnumA (K : PySem.W.Frag) (ta : TA) : TI := fun σ H R => ta σ H fun vs H1 => (∃ a xs, vs = [.ref a] ∧ SqL K H1 a xs ∧ R (Ite K a) H1) ∨ (∃ a xs, vs = [.ref a] ∧ SqT K H1 a xs ∧ R (IteT K a) H1) ∨ ∃ x, vs = [.str x] ∧ R (IteS x) H1
theorem pi_enumA {X : Cx} {e : Expr} {ta : TA} {p pos tpos : Pos} {elts : List Expr} {kk : Nat} (hg : Gl X "enumerate") (hm : X.mg "enumerate" = none) (ha : PA X [e] ta) (hs : starEach [e] X.env = [(false, eval e X.env)] := by rfl) :
    PI X (.Tuple elts kk tpos) (.Call (.Name "enumerate" p) [e] [] pos) (iEnumA X.K ta) := by
  refine ⟨fun pins s σ H R I h => ?_⟩
  refine Call_ (ld_blt I hg hm boot_enumerate (PyProof.Rows.callWith_type1 (thn (ha.run pos pins s σ H _ I h) fun us s1 ⟨vs, H1, I1, r1, q1⟩ => ?_) hs rfl))
  have fpo : ∀ b ∈ [s1.heap.objs.size + 1, s1.heap.objs.size], FpOk X pins H1 b := fun b hb => by
    have e' : b = s1.heap.objs.size + 1 ∨ b = s1.heap.objs.size := by simpa using hb
    have hle : s1.heap.objs.size ≤ b := by
      rcases e' with z | z
      · rw [z]; exact Nat.le_add_right _ _
      · rw [z]; exact Nat.le_refl _
    exact I1.fpOk hle (I1.hok.fresh hle)
  rcases q1 with ⟨a, xs, ex, hq, q⟩ | ⟨a, xs, ex, hq, q⟩ | ⟨x, ex, q⟩
  · subst ex
    cases r1 with
    | cons r rr =>
      cases rr
      cases r
      obtain ⟨its, rv, p', hz⟩ := I1.list hq
      refine call_enumerate_list p'.isList fun h' he hit hsz hk => wpAny_pyIter_enum he ?_
      have I2 : Inv X pins σ H1 { s1 with heap := h' } := I1.kept (t' := s1.toks) hk
      exact ⟨s1.heap.objs.size + 1, [s1.heap.objs.size + 1, s1.heap.objs.size], _, _, H1, rfl, I2, turn_enum a (s1.heap.objs.size + 1) s1.heap.objs.size, ⟨⟨.none, he⟩, hit, Nat.succ_ne_self _⟩, fpo, q⟩
  · subst ex
    cases r1 with
    | cons r rr =>
      cases rr
      cases r
      obtain ⟨its, rv, p', hz⟩ := I1.tuple hq
      refine call_enumerate1 (begins_tuple a its.toArray) (show s1.heap.IsTuple a its.toArray from p') fun h' he hit hsz hk => wpAny_pyIter_enum he ?_
      have I2 : Inv X pins σ H1 { s1 with heap := h' } := I1.kept (t' := s1.toks) hk
      exact ⟨s1.heap.objs.size + 1, [s1.heap.objs.size + 1, s1.heap.objs.size], _, _, H1, rfl, I2, turn_enumT a (s1.heap.objs.size + 1) s1.heap.objs.size, ⟨⟨.none, he⟩, ⟨_, hit, rfl, rfl⟩, Nat.succ_ne_self _⟩, fpo, q⟩
  · subst ex
    cases r1 with
    | cons r rr =>
      cases rr
      obtain ⟨t, rfl⟩ := r
      refine call_enumerate_str fun h' he hit hsz hk => wpAny_pyIter_enum he ?_
      have I2 : Inv X pins σ H1 { s1 with heap := h' } := I1.kept (t' := s1.toks) hk
      exact ⟨s1.heap.objs.size + 1, [s1.heap.objs.size + 1, s1.heap.objs.size], _, _, H1, rfl, I2, turn_enumS x t (s1.heap.objs.size + 1) s1.heap.objs.size, ⟨⟨.none, he⟩, hit, Nat.succ_ne_self _⟩, fpo, q⟩

/-! ### what is walked, lifted -/
/-- J gives the items xs, one after another, in every later world -/
def ItG (C : Ctx) (φ : Ph) (H : Hp) (xs : List PV) (J : It) : Prop := ∀ φ' μ' H', Le φ φ' H H' → Rel C φ' μ' H' →
  J.stop xs.length H' ∧ ∀ i x, xs[i]? = some x → J.go i H' ∧ ∀ u H'', J.yld i H' u H'' → Le φ' φ' H' H'' ∧ Rel C φ' μ' H'' ∧ RV C φ' H'' x u
def tI (C : Ctx) (W : WX) (c : Iv) : TI := fun σ H R => ∃ φ μ ρ, Rel C φ μ H ∧ REnv C φ H ρ σ ∧ Post C (ItG C) (fun cls d H => W cls d σ H) φ H R (c ρ μ)
abbrev SI (X : Cx) (T : Tb) (W : WX) (tg iter : Expr) (c : Iv) : Prop := PI X tg iter (tI (cX X T) W c)
theorem _root_.L2.PI.weak {X : Cx} {tg iter : Expr} {t t' : TI} (h : PI X tg iter t) (w : ∀ σ H R, t' σ H R → t σ H R) : PI X tg iter t' := ⟨fun pins s σ H R I q => h.run pins s σ H R I (w σ H R q)⟩
theorem _root_.L2.PI.or {X : Cx} {tg iter : Expr} {t t' : TI} (h : PI X tg iter t) (h' : PI X tg iter t') : PI X tg iter (fun σ H R => t σ H R ∨ t' σ H R) := ⟨fun pins s σ H R I q => q.elim (h.run pins s σ H R I) (h'.run pins s σ H R I)⟩
section
variable {C : Ctx} {φ : Ph} {μ : Mem} {H : Hp}
theorem g_list {a : Addr} {xs : List PV} {ys : List V} (R : Rel C φ μ H) (h : H a = some (.lst ys)) (hn : a ∉ φ.m) (r : RVs C φ H xs ys) : ItG C φ H xs (Itl C.K a) := by
  intro φ' μ' H' l R'
  have h' : SqL C.K H' a ys := SqL.of (l.keep _ _ h hn (fun _ z => by cases z))
  have r' := r.mono R l
  refine ⟨⟨ys, h', by rw [r.length]; exact Nat.le_refl _⟩, fun i x e => ?_⟩
  obtain ⟨y, h1, h2⟩ := r'.get e
  refine ⟨⟨ys, y, h', h1⟩, fun u H'' hy => ?_⟩
  obtain ⟨rfl, hy⟩ := hy
  have e2 := hy ys h'
  rw [h1] at e2
  cases e2
  exact ⟨Le.refl _ _, R', h2⟩
theorem g_tup {a : Addr} {xs : List PV} {ys : List V} (R : Rel C φ μ H) (h : SqT C.K H a ys) (r : RVs C φ H xs ys) : ItG C φ H xs (Itt C.K a) := by
  intro φ' μ' H' l R'
  have h' : SqT C.K H' a ys := l.sqT R.notup R.nofrz h
  have r' := r.mono R l
  refine ⟨⟨ys, h', by rw [r.length]; exact Nat.le_refl _⟩, fun i x e => ?_⟩
  obtain ⟨y, h1, h2⟩ := r'.get e
  refine ⟨⟨ys, y, h', h1⟩, fun u H'' hy => ?_⟩
  obtain ⟨rfl, hy⟩ := hy
  have e2 := hy ys h'
  rw [h1] at e2
  cases e2
  exact ⟨Le.refl _ _, R', h2⟩
theorem sign_rv {s : List Nat} (hs : ∀ c ∈ s, c < 1114112) {c i : Nat} (h : s[i]? = some c) : RV C φ H (.str [c]) (.str ⟨#[c]⟩) := .str [c] fun d hd => by
  have hd : d = c := by simpa using hd
  subst hd
  exact hs _ (List.mem_of_getElem? h)
theorem g_str {s : List Nat} (hs : ∀ c ∈ s, c < 1114112) : ItG C φ H (s.map fun c => .str [c]) (Its (toS s)) := by
  intro φ' μ' H' l R'
  have sz : (toS s).cps.size = s.length := by simp [toS]
  refine ⟨by show (toS s).cps.size ≤ _; rw [sz, List.length_map]; exact Nat.le_refl _, fun i x e => ?_⟩
  rw [List.getElem?_map] at e
  cases q : s[i]? with
  | none => rw [q] at e; cases e
  | some c =>
    rw [q] at e
    cases e
    refine ⟨by show i < (toS s).cps.size; rw [sz]; exact (List.getElem?_eq_some_iff.mp q).1, fun u H'' hy => ?_⟩
    obtain ⟨rfl, d, hd, rfl⟩ := hy
    have e2 : s[i]? = some d := by simpa [toS] using hd
    rw [q] at e2
    cases e2
    exact ⟨Le.refl _ _, R', sign_rv hs q⟩
theorem g_range (lo hi : Int) : ItG C φ H (Py.rangeL lo hi) (Itr lo (hi - lo).toNat) := by
  intro φ' μ' H' l R'
  unfold Py.rangeL
  refine ⟨by show _ ≤ _; rw [List.length_map, List.length_range]; exact Nat.le_refl _, fun i x e => ?_⟩
  rw [List.getElem?_map] at e
  cases q : (List.range (hi - lo).toNat)[i]? with
  | none => rw [q] at e; cases e
  | some c =>
    rw [q] at e
    cases e
    have h1 := (List.getElem?_eq_some_iff.mp q)
    obtain ⟨h1, h2⟩ := h1
    rw [List.getElem_range] at h2
    subst h2
    rw [List.length_range] at h1
    refine ⟨h1, fun u H'' hy => ?_⟩
    obtain ⟨rfl, rfl⟩ := hy
    exact ⟨Le.refl _ _, R', .int _⟩
theorem enumL_len : ∀ (n : Nat) (xs : List PV), (Py.enumL n xs).length = xs.length
  | _, [] => rfl
  | n, x :: xs => by
    show (Py.enumL (n + 1) xs).length + 1 = xs.length + 1
    rw [enumL_len]
theorem enumL_get : ∀ (n : Nat) (xs : List PV) (i : Nat), (Py.enumL n xs)[i]? = (xs[i]?).map fun x => .tup [.int ((n + i : Nat) : Int), x]
  | n, [], i => by simp [Py.enumL]
  | n, x :: xs, 0 => rfl
  | n, x :: xs, i + 1 => by
    show (Py.enumL (n + 1) xs)[i]? = (xs[i]?).map _
    rw [enumL_get, show n + 1 + i = n + (i + 1) by omega]
theorem new_pair {φ' : Ph} {μ' : Mem} {H' : Hp} {x y : PV} {u v : V} {p : Addr} (R : Rel C φ' μ' H') (hp : H' p = none) (r : RV C φ' H' x u) (q : RV C φ' H' y v) :
    Le φ' φ' H' (upd H' p (.tup [u, v])) ∧ Rel C φ' μ' (upd H' p (.tup [u, v])) ∧ RV C φ' (upd H' p (.tup [u, v])) (.tup [x, y]) (.ref p) :=
  ⟨Le.fresh hp, R.fresh hp, .tup (SqT.of upd_same) (.cons (r.mono R (Le.fresh hp)) (.cons (q.mono R (Le.fresh hp)) .nil))⟩
theorem g_enumL {a : Addr} {xs : List PV} {ys : List V} (R : Rel C φ μ H) (h : H a = some (.lst ys)) (hn : a ∉ φ.m) (r : RVs C φ H xs ys) : ItG C φ H (Py.enumL 0 xs) (Ite C.K a) := by
  intro φ' μ' H' l R'
  have h' : SqL C.K H' a ys := SqL.of (l.keep _ _ h hn (fun _ z => by cases z))
  have r' := r.mono R l
  refine ⟨⟨ys, h', by rw [enumL_len, r.length]; exact Nat.le_refl _⟩, fun i x e => ?_⟩
  rw [enumL_get] at e
  cases q : xs[i]? with
  | none => rw [q] at e; cases e
  | some x0 =>
    rw [q] at e
    cases e
    obtain ⟨y, h1, h2⟩ := r'.get q
    refine ⟨⟨ys, y, h', h1⟩, fun u H'' hy => ?_⟩
    obtain ⟨p, z, rfl, hp, rfl, hz⟩ := hy
    have e2 := hz ys h'
    rw [h1] at e2
    cases e2
    rw [Nat.zero_add]
    exact new_pair R' hp (.int _) h2
theorem g_enumT {a : Addr} {xs : List PV} {ys : List V} (R : Rel C φ μ H) (h : SqT C.K H a ys) (r : RVs C φ H xs ys) : ItG C φ H (Py.enumL 0 xs) (IteT C.K a) := by
  intro φ' μ' H' l R'
  have h' : SqT C.K H' a ys := l.sqT R.notup R.nofrz h
  have r' := r.mono R l
  refine ⟨⟨ys, h', by rw [enumL_len, r.length]; exact Nat.le_refl _⟩, fun i x e => ?_⟩
  rw [enumL_get] at e
  cases q : xs[i]? with
  | none => rw [q] at e; cases e
  | some x0 =>
    rw [q] at e
    cases e
    obtain ⟨y, h1, h2⟩ := r'.get q
    refine ⟨⟨ys, y, h', h1⟩, fun u H'' hy => ?_⟩
    obtain ⟨p, z, rfl, hp, rfl, hz⟩ := hy
    have e2 := hz ys h'
    rw [h1] at e2
    cases e2
    rw [Nat.zero_add]
    exact new_pair R' hp (.int _) h2
theorem g_enumS {s : List Nat} (hs : ∀ c ∈ s, c < 1114112) : ItG C φ H (Py.enumL 0 (s.map fun c => .str [c])) (IteS (toS s)) := by
  intro φ' μ' H' l R'
  have sz : (toS s).cps.size = s.length := by simp [toS]
  refine ⟨by show (toS s).cps.size ≤ _; rw [sz, enumL_len, List.length_map]; exact Nat.le_refl _, fun i x e => ?_⟩
  rw [enumL_get, List.getElem?_map] at e
  cases q : s[i]? with
  | none => rw [q] at e; cases e
  | some c =>
    rw [q] at e
    cases e
    refine ⟨by show i < (toS s).cps.size; rw [sz]; exact (List.getElem?_eq_some_iff.mp q).1, fun u H'' hy => ?_⟩
    obtain ⟨p, d, rfl, hp, hd, rfl⟩ := hy
    have e2 : s[i]? = some d := by simpa [toS] using hd
    rw [q] at e2
    cases e2
    rw [Nat.zero_add]
    exact new_pair R' hp (.int _) (sign_rv hs q)
theorem zipL_len : ∀ (xs ys : List PV), (Py.zipL xs ys).length = min xs.length ys.length
  | [], ys => by simp [Py.zipL]
  | x :: xs, [] => by simp [Py.zipL]
  | x :: xs, y :: ys => by
    show (Py.zipL xs ys).length + 1 = _
    rw [zipL_len]
    simp only [List.length_cons]
    omega
theorem zipL_get : ∀ (xs ys : List PV) (i : Nat) (z : PV), (Py.zipL xs ys)[i]? = some z → ∃ x y, xs[i]? = some x ∧ ys[i]? = some y ∧ z = .tup [x, y]
  | [], ys, i, z, h => by simp [Py.zipL] at h
  | x :: xs, [], i, z, h => by simp [Py.zipL] at h
  | x :: xs, y :: ys, 0, z, h => by
    have h : some (PV.tup [x, y]) = some z := h
    cases h
    exact ⟨x, y, rfl, rfl, rfl⟩
  | x :: xs, y :: ys, i + 1, z, h => by
    obtain ⟨a, b, h1, h2, h3⟩ := zipL_get xs ys i z h
    exact ⟨a, b, h1, h2, h3⟩
theorem g_zipL {a b : Addr} {xs zs : List PV} {ys ws : List V} (R : Rel C φ μ H) (h : H a = some (.lst ys)) (hn : a ∉ φ.m) (r : RVs C φ H xs ys) (g : H b = some (.lst ws)) (gn : b ∉ φ.m) (q : RVs C φ H zs ws) : ItG C φ H (Py.zipL xs zs) (Itz C.K a b) := by
  intro φ' μ' H' l R'
  have h' : SqL C.K H' a ys := SqL.of (l.keep _ _ h hn (fun _ z => by cases z))
  have g' : SqL C.K H' b ws := SqL.of (l.keep _ _ g gn (fun _ z => by cases z))
  have r' := r.mono R l
  have q' := q.mono R l
  refine ⟨⟨ys, ws, h', g', by rw [zipL_len, r.length, q.length]; omega⟩, fun i x e => ?_⟩
  obtain ⟨x1, x2, e1, e2, rfl⟩ := zipL_get _ _ _ _ e
  obtain ⟨y1, h1, h2⟩ := r'.get e1
  obtain ⟨y2, h3, h4⟩ := q'.get e2
  refine ⟨⟨ys, ws, y1, y2, h', g', h1, h3⟩, fun u H'' hy => ?_⟩
  obtain ⟨p, z1, z2, rfl, hp, rfl, hz1, hz2⟩ := hy
  have e3 := hz1 ys h'
  have e4 := hz2 ws g'
  rw [h1] at e3
  rw [h3] at e4
  cases e3
  cases e4
  exact new_pair R' hp h2 h4
theorem g_zipT {a b : Addr} {xs zs : List PV} {ys ws : List V} (R : Rel C φ μ H) (h : SqT C.K H a ys) (r : RVs C φ H xs ys) (g : SqT C.K H b ws) (q : RVs C φ H zs ws) : ItG C φ H (Py.zipL xs zs) (RZ.ItzT C.K a b) := by
  intro φ' μ' H' l R'
  have h' : SqT C.K H' a ys := l.sqT R.notup R.nofrz h
  have g' : SqT C.K H' b ws := l.sqT R.notup R.nofrz g
  have r' := r.mono R l
  have q' := q.mono R l
  refine ⟨⟨ys, ws, h', g', by rw [zipL_len, r.length, q.length]; omega⟩, fun i x e => ?_⟩
  obtain ⟨x1, x2, e1, e2, rfl⟩ := zipL_get _ _ _ _ e
  obtain ⟨y1, h1, h2⟩ := r'.get e1
  obtain ⟨y2, h3, h4⟩ := q'.get e2
  refine ⟨⟨ys, ws, y1, y2, h', g', h1, h3⟩, fun u H'' hy => ?_⟩
  obtain ⟨p, z1, z2, rfl, hp, rfl, hz1, hz2⟩ := hy
  have e3 := hz1 ys h'
  have e4 := hz2 ws g'
  rw [h1] at e3
  rw [h3] at e4
  cases e3
  cases e4
  exact new_pair R' hp h2 h4
end
section
variable {X : Cx} {T : Tb} {W : WX} {a b e tg : Expr} {ca cb : Ev} {pos p : Pos}
theorem si_it (ha : SE X T W a ca) : SI X T W tg a (Py.itI ca) :=
  ((pi_list ha).or ((pi_tup ha).or (pi_str ha))).weak fun σ H R ⟨φ, μ, ρ, R0, E, h⟩ => by
    have h0 := h
    unfold Py.itI at h0
    cases q : ca ρ μ with
    | exc x μ' =>
      rw [q] at h0
      exact .inl ⟨φ, μ, ρ, R0, E, by rw [q]; exact h0⟩
    | bad => rw [q] at h0; exact False.elim h0
    | ok v μ' =>
      rw [q] at h0
      cases v with
      | lst xs =>
        have h0 : Post (cX X T) (ItG (cX X T)) (fun cls d H => W cls d σ H) φ H R (.ok xs μ') := h0
        refine .inl ⟨φ, μ, ρ, R0, E, ?_⟩
        rw [q]
        intro φ' H' u l R' r
        cases r with
        | lst hs hn _ rs => exact ⟨_, rfl, ⟨_, SqL.of hs⟩, Post.done (Post.world l h0) R' (g_list R' hs hn rs)⟩
      | tup xs =>
        have h0 : Post (cX X T) (ItG (cX X T)) (fun cls d H => W cls d σ H) φ H R (.ok xs μ') := h0
        refine .inr (.inl ⟨φ, μ, ρ, R0, E, ?_⟩)
        rw [q]
        intro φ' H' u l R' r
        cases r with
        | tup hs rs => exact ⟨_, rfl, ⟨_, hs⟩, Post.done (Post.world l h0) R' (g_tup R' hs rs)⟩
      | str s =>
        have h0 : Post (cX X T) (ItG (cX X T)) (fun cls d H => W cls d σ H) φ H R (.ok (s.map fun c => .str [c]) μ') := h0
        refine .inr (.inr ⟨φ, μ, ρ, R0, E, ?_⟩)
        rw [q]
        intro φ' H' u l R' r
        cases r with
        | str _ hs => exact ⟨_, rfl, Post.done (Post.world l h0) R' (g_str hs)⟩
      | _ => exact False.elim h0
theorem si_range1 (hm : X.mg "range" = none) (hg : Gl X "range") (ha : SE X T W a ca) (hs : starEach [a] X.env = [(false, eval a X.env)] := by rfl) : SI X T W tg (.Call (.Name "range" p) [a] [] pos) (Py.it1 ca) :=
  (pi_range1 hg hm (pa_cons ha pa_nil hs) hs).weak fun σ H R ⟨φ, μ, ρ, R0, E, h⟩ => ⟨φ, μ, ρ, R0, E, (Post.bind h).imp fun u H1 ⟨φ1, μ1, v, l1, R1, rv, h1⟩ => by
    cases rv with
    | int j =>
      have h1 : Post (cX X T) (ItG (cX X T)) (fun cls d H => W cls d σ H) φ1 H1 R (if -1000000000 ≤ j ∧ j ≤ 1000000000 then .ok (Py.rangeL 0 j) μ1 else .bad) := h1
      split at h1
      · rename_i hl
        refine ⟨j, rfl, by omega, by omega, ?_⟩
        have g := g_range (C := cX X T) (φ := φ1) (H := H1) 0 j
        rw [Int.sub_zero] at g
        exact Post.done h1 R1 g
      · exact False.elim h1
    | _ => exact False.elim h1⟩
theorem si_range2 (hm : X.mg "range" = none) (hg : Gl X "range") (ha : SE X T W a ca) (hb : SE X T W b cb) (hs : starEach [a, b] X.env = [(false, eval a X.env), (false, eval b X.env)] := by rfl) (hs2 : starEach [b] X.env = [(false, eval b X.env)] := by rfl) :
    SI X T W tg (.Call (.Name "range" p) [a, b] [] pos) (Py.it2 ca cb) :=
  (pi_range2 hg hm (pa_cons ha (pa_cons hb pa_nil hs2) (by rw [hs, hs2])) hs hs2).weak fun σ H R ⟨φ, μ, ρ, R0, E, h⟩ => ⟨φ, μ, ρ, R0, E, (Post.bind h).imp fun u H1 ⟨φ1, μ1, v, l1, R1, rv, h1⟩ =>
    ⟨φ1, μ1, ρ, R1, E.mono R0 l1, (Post.bind h1).imp fun w H2 ⟨φ2, μ2, v2, l2, R2, rw, h2⟩ => by
      cases rv with
      | int i => cases rw with
        | int j =>
          have h2 : Post (cX X T) (ItG (cX X T)) (fun cls d H => W cls d σ H) φ2 H2 R (if -1000000000 ≤ i ∧ i ≤ 1000000000 ∧ -1000000000 ≤ j ∧ j ≤ 1000000000 then .ok (Py.rangeL i j) μ2 else .bad) := h2
          split at h2
          · rename_i hl
            exact ⟨i, j, rfl, by omega, Post.done h2 R2 (g_range i j)⟩
          · exact False.elim h2
        | _ => exact False.elim h2
      | _ => cases rw <;> exact False.elim h2⟩⟩
theorem si_enum {elts : List Expr} {kk : Nat} {tpos : Pos} (hm : X.mg "enumerate" = none) (hg : Gl X "enumerate") (ha : SE X T W a ca) (hs : starEach [a] X.env = [(false, eval a X.env)] := by rfl) : SI X T W (.Tuple elts kk tpos) (.Call (.Name "enumerate" p) [a] [] pos) (Py.enumI ca) :=
  (pi_enumA hg hm (pa_cons ha pa_nil hs) hs).weak fun σ H R ⟨φ, μ, ρ, R0, E, h⟩ => ⟨φ, μ, ρ, R0, E, (Post.bind h).imp fun u H1 ⟨φ1, μ1, v, l1, R1, rv, h1⟩ => by
    cases rv with
    | lst hs hn _ rs => exact .inl ⟨_, _, rfl, SqL.of hs, Post.done h1 R1 (g_enumL R1 hs hn rs)⟩
    | tup hs rs => exact .inr (.inl ⟨_, _, rfl, hs, Post.done h1 R1 (g_enumT R1 hs rs)⟩)
    | str s hs => exact .inr (.inr ⟨_, rfl, Post.done h1 R1 (g_enumS hs)⟩)
    | _ => exact False.elim h1⟩
theorem si_zip {elts : List Expr} {kk : Nat} {tpos : Pos} (hm : X.mg "zip" = none) (hg : Gl X "zip") (ha : SE X T W a ca) (hb : SE X T W b cb) (hs : starEach [a, b] X.env = (false, eval a X.env) :: starEach [b] X.env := by rfl) (hs2 : starEach [b] X.env = [(false, eval b X.env)] := by rfl) (hpl : (backTo pos (starEach [b] X.env)).any (·.1) = false := by rfl) :
    SI X T W (.Tuple elts kk tpos) (.Call (.Name "zip" p) [a, b] [] pos) (Py.zipI ca cb) :=
  (RZ.pi_zipA hg hm (pa_cons ha (pa_cons hb pa_nil hs2) hs) hs hpl).weak fun σ H R ⟨φ, μ, ρ, R0, E, h⟩ => ⟨φ, μ, ρ, R0, E, (Post.bind h).imp fun u H1 ⟨φ1, μ1, v, l1, R1, rv, h1⟩ =>
    ⟨φ1, μ1, ρ, R1, E.mono R0 l1, (Post.bind h1).imp fun w H2 ⟨φ2, μ2, v2, l2, R2, rw, h2⟩ => by
      have rv2 := rv.mono R1 l2
      cases rv2 with
      | lst hs hn _ rs => cases rw with
        | lst ht hm _ rt => exact ⟨_, _, _, _, rfl, .inl ⟨SqL.of hs, SqL.of ht, Post.done h2 R2 (g_zipL R2 hs hn rs ht hm rt)⟩⟩
        | _ => exact False.elim h2
      | tup hs rs => cases rw with
        | tup ht rt => exact ⟨_, _, _, _, rfl, .inr ⟨hs, ht, Post.done h2 R2 (g_zipT R2 hs rs ht rt)⟩⟩
        | _ => exact False.elim h2
      | _ => cases rw <;> exact False.elim h2⟩⟩
end
end PyS

set_option Elab.async false
set_option linter.all false
set_option maxRecDepth 100000
set_option maxHeartbeats 2000000
/-! PyK: targets, comprehensions. -/
namespace PyS
open PySem PySem.Spec PyProof.Rows L2
open Py (PV MO Mem Exc Res PEnv Ev Tv Av Ov Iv Tg Tgs)

/-! ### targets -/
/-- the slots that own does not tell stand as they stood -/
def Off (own : Nat → Bool) (σ σ' : L2.St) : Prop := σ'.length = σ.length ∧ ∀ i, own i = false → σ'[i]? = σ[i]?
theorem Off.refl (own : Nat → Bool) (σ : L2.St) : Off own σ σ := ⟨rfl, fun _ _ => rfl⟩
theorem Off.trans {own : Nat → Bool} {σ σ1 σ2 : L2.St} (a : Off own σ σ1) (b : Off own σ1 σ2) : Off own σ σ2 := ⟨b.1.trans a.1, fun i h => (b.2 i h).trans (a.2 i h)⟩
theorem Off.set {own : Nat → Bool} {σ : L2.St} {i : Nat} {o : Option V} (h : own i = true) : Off own σ (σ.set i o) := ⟨by simp, fun j hj => by
  have e : i ≠ j := fun z => by subst z; rw [h] at hj; cases hj
  rw [List.getElem?_set_ne e]⟩
/-- behind a store -/
def PostG (C : Ctx) (own : Nat → Bool) (φ : Ph) (H : Hp) (σ : L2.St) (Q : L2.St → Hp → Prop) : Res PEnv → Prop
  | .ok ρ' μ' => ∀ φ' σ' H', Le φ φ' H H' → Rel C φ' μ' H' → REnv C φ' H' ρ' σ' → Off own σ σ' → Q σ' H'
  | _ => False
theorem PostG.world {C : Ctx} {own : Nat → Bool} {φ φ1 : Ph} {H H1 : Hp} {σ : L2.St} {Q : L2.St → Hp → Prop} {r : Res PEnv} (l : Le φ φ1 H H1) (h : PostG C own φ H σ Q r) : PostG C own φ1 H1 σ Q r := by
  cases r with
  | ok v μ' => exact fun φ' σ' H' m R E o => h φ' σ' H' (l.trans m) R E o
  | exc x μ' => exact h
  | bad => exact h
theorem PostG.bind {C : Ctx} {own : Nat → Bool} {φ : Ph} {H : Hp} {σ : L2.St} {Q : L2.St → Hp → Prop} {r : Res PEnv} {k : PEnv → Mem → Res PEnv} (h : PostG C own φ H σ Q (r.bind k)) :
    PostG C own φ H σ (fun σ1 H1 => ∃ φ1 μ1 ρ1, Le φ φ1 H H1 ∧ Rel C φ1 μ1 H1 ∧ REnv C φ1 H1 ρ1 σ1 ∧ PostG C own φ1 H1 σ1 Q (k ρ1 μ1)) r := by
  cases r with
  | ok ρ1 μ1 =>
    intro φ1 σ1 H1 l R E o
    refine ⟨φ1, μ1, ρ1, l, R, E, ?_⟩
    have h' : PostG C own φ1 H1 σ Q (k ρ1 μ1) := PostG.world l h
    cases q : k ρ1 μ1 with
    | ok ρ2 μ2 =>
      rw [q] at h'
      exact fun φ' σ' H' m R E o' => h' φ' σ' H' m R E (o.trans o')
    | exc x μ' => rw [q] at h'; exact h'
    | bad => rw [q] at h'; exact h'
  | exc x μ' => exact h
  | bad => exact h
theorem PostG.imp {C : Ctx} {own : Nat → Bool} {φ : Ph} {H : Hp} {σ : L2.St} {Q Q' : L2.St → Hp → Prop} {r : Res PEnv} (h : PostG C own φ H σ Q r) (q : ∀ σ1 H1, Q σ1 H1 → Q' σ1 H1) : PostG C own φ H σ Q' r := by
  cases r with
  | ok v μ' => exact fun φ' σ' H' m R E o => q _ _ (h φ' σ' H' m R E o)
  | exc x μ' => exact h
  | bad => exact h
def tG (C : Ctx) (own : Nat → Bool) (t : Tg) : TG := fun u σ H Q => ∃ φ μ ρ v, Rel C φ μ H ∧ REnv C φ H ρ σ ∧ RV C φ H v u ∧ PostG C own φ H σ Q (t v ρ μ)
def tGs (C : Ctx) (own : Nat → Bool) (t : Tgs) : TGs := fun us σ H Q => ∃ φ μ ρ vs, Rel C φ μ H ∧ REnv C φ H ρ σ ∧ RVs C φ H vs us ∧ PostG C own φ H σ Q (t vs ρ μ)
abbrev SG (X : Cx) (T : Tb) (own : Nat → Bool) (tg : Expr) (t : Tg) : Prop := PG X tg (tG (cX X T) own t)
abbrev SGs (X : Cx) (T : Tb) (own : Nat → Bool) (tg : List Expr) (t : Tgs) : Prop := PGs X tg (tGs (cX X T) own t)
theorem _root_.L2.PG.weak {X : Cx} {e : Expr} {t t' : TG} (h : PG X e t) (w : ∀ u σ H Q, t' u σ H Q → t u σ H Q) : PG X e t' := ⟨fun pins s σ H v u Q I r q => h.run pins s σ H v u Q I r (w v σ H Q q)⟩
theorem _root_.L2.PGs.weak {X : Cx} {e : List Expr} {t t' : TGs} (h : PGs X e t) (w : ∀ u σ H Q, t' u σ H Q → t u σ H Q) : PGs X e t' := ⟨fun pins s σ H v u Q I r q => h.run pins s σ H v u Q I r (w v σ H Q q)⟩
section
variable {X : Cx} {T : Tb} {own : Nat → Bool} {pos : Pos} {e : Expr} {es : List Expr} {ct : Tg} {cs : Tgs}
theorem sg_name (i : Nat) {x : Str} (hN : X.N.Nodup) (hi : X.N[i]? = some x) (hx : Loc X.env.scope x) (ho : own i = true) (hf : X.fn x = true ∨ X.env.scope.names.lookup x = some .local := by first | exact .inl rfl | exact .inr rfl | assumption) : SG X T own (.Name x pos) (Py.tgN i) :=
  (pg_name hN hi hx hf).weak fun u σ H Q ⟨φ, μ, ρ, v, R, E, r, h⟩ => h φ (σ.set i (some u)) H (Le.refl _ _) R (E.set i r) (Off.set ho)
theorem sgs_nil : SGs X T own [] Py.tgsNil := pgs_nil.weak fun us σ H Q ⟨φ, μ, ρ, vs, R, E, r, h⟩ => by
  cases r with
  | nil => exact ⟨rfl, h φ σ H (Le.refl _ _) R E (Off.refl _ _)⟩
  | cons _ _ => exact False.elim h
theorem sgs_cons (h1 : SG X T own e ct) (h2 : SGs X T own es cs) (hs : (assignEach (e :: es) X.env).map (·.2) = assign e X.env :: (assignEach es X.env).map (·.2) := by rfl) : SGs X T own (e :: es) (Py.tgsCons ct cs) := (pgs_cons h1 h2 hs).weak fun us σ H Q ⟨φ, μ, ρ, vs, R, E, r, h⟩ => by
  cases r with
  | nil => exact False.elim h
  | cons r t =>
    refine ⟨_, _, rfl, φ, μ, ρ, _, R, E, r, (PostG.bind h).imp ?_⟩
    rintro σ1 H1 ⟨φ1, μ1, ρ1, l1, R1, E1, h1⟩
    exact ⟨φ1, μ1, ρ1, _, R1, E1, t.mono R l1, h1⟩
/-- how many targets there are -/
inductive TgsN : Tgs → Nat → Prop
  | nil : TgsN Py.tgsNil 0
  | cons {t : Tg} {u : Tgs} {n : Nat} : TgsN u n → TgsN (Py.tgsCons t u) (n + 1)
theorem bind_bad {α β : Type} {r : Res α} {k : α → Mem → Res β} (h : ∀ a μ, ∀ b μ', k a μ ≠ .ok b μ') : ∀ b μ', r.bind k ≠ .ok b μ' := by
  intro b μ'
  cases r with
  | ok a μ => exact h a μ b μ'
  | exc x μ => intro z; cases z
  | bad => intro z; cases z
theorem TgsN.len {u : Tgs} {n : Nat} (h : TgsN u n) : ∀ {vs : List PV} {ρ : PEnv} {μ : Mem} {ρ' : PEnv} {μ' : Mem}, u vs ρ μ = .ok ρ' μ' → vs.length = n := by
  induction h with
  | nil =>
    intro vs ρ μ ρ' μ' e
    cases vs with
    | nil => rfl
    | cons _ _ => cases e
  | @cons t u n _ ih =>
    intro vs ρ μ ρ' μ' e
    cases vs with
    | nil => cases e
    | cons v r =>
      have e : (t v ρ μ).bind (fun ρ1 μ1 => u r ρ1 μ1) = .ok ρ' μ' := e
      cases q : t v ρ μ with
      | ok ρ1 μ1 =>
        rw [q] at e
        rw [List.length_cons, ih e]
      | exc x m => rw [q] at e; cases e
      | bad => rw [q] at e; cases e
/-- a tuple of targets -/
theorem sg_tup {n k : Nat} (hc : X.calm = true) (h : SGs X T own es cs) (hN : TgsN cs n) (hn : (assignEach es X.env).length = n := by rfl) (hst : (assignEach es X.env).findIdx? (·.1) = none := by rfl) : SG X T own (.Tuple es k pos) (Py.tgT cs) :=
  (pg_tup hc h hn hst).weak fun u σ H Q ⟨φ, μ, ρ, v, R, E, r, h⟩ => by
    cases r with
    | @tup a xs ys hs rs =>
      have h : PostG (cX X T) own φ H σ Q (cs xs ρ μ) := h
      refine ⟨a, ys, rfl, hs, ?_, φ, μ, ρ, xs, R, E, rs, h⟩
      cases q : cs xs ρ μ with
      | ok ρ' μ' => rw [← rs.length]; exact hN.len q
      | exc x m => rw [q] at h; exact False.elim h
      | bad => rw [q] at h; exact False.elim h
    | _ => exact False.elim h
end

/-! ### the list of a comprehension while it is made -/
section
variable {C : Ctx} {φ φ' : Ph} {μ : Mem} {H : Hp} {D : Addr} {zs zs' : List V}
theorem SqS.upd {K : PySem.W.Frag} {a : Addr} {xs : List V} (h : SqS K φ H a xs) (hD : H D = some (.lst zs)) (hb : D ∈ φ.b) : SqS K φ (upd H D (.lst zs')) a xs := by
  rcases h with ⟨h | ⟨o, h⟩, n, b⟩ | h
  · exact .inl ⟨.inl (by rw [upd_ne (fun z => by subst z; exact b hb)]; exact h), n, b⟩
  · exact .inl ⟨.inr ⟨o, by rw [upd_ne (fun z => by subst z; exact b hb)]; exact h⟩, n, b⟩
  · exact .inr h
theorem SqS.enter {K : PySem.W.Frag} {a : Addr} {xs : List V} {β : List Addr} (hb : D ∈ φ.b) (hs : ∀ a ∈ β, a ∈ φ.b) (h : SqS K φ H a xs) : SqS K ⟨φ.m ++ [D], β⟩ H a xs := by
  rcases h with ⟨h, n, b⟩ | h
  · refine .inl ⟨h, fun z => ?_, fun z => b (hs _ z)⟩
    rcases List.mem_append.mp z with z | z
    · exact n z
    · simp at z; rw [z] at b; exact b hb
  · exact .inr h
theorem SqS.unbar {K : PySem.W.Frag} {a : Addr} {xs : List V} {β : List Addr} (hs : ∀ a ∈ β, a ∈ φ.b) (h : SqS K φ H a xs) : SqS K ⟨φ.m, β⟩ H a xs := by
  rcases h with ⟨h, n, b⟩ | h
  · exact .inl ⟨h, n, fun z => b (hs _ z)⟩
  · exact .inr h
mutual
theorem RV.upd (hD : H D = some (.lst zs)) (hb : D ∈ φ.b) : ∀ {x : PV} {y : V}, RV C φ H x y → RV C φ (upd H D (.lst zs')) x y
  | _, _, .non => .non
  | _, _, .bl b => .bl b
  | _, _, .int i => .int i
  | _, _, .str s h => .str s h
  | _, _, .tup (a := a) h r => .tup (by
      rcases h with (h | ⟨o, h⟩) | h
      · exact .inl (.inl (by rw [upd_ne (fun z => by subst z; rw [hD] at h; cases h)]; exact h))
      · exact .inl (.inr ⟨o, by rw [upd_ne (fun z => by subst z; rw [hD] at h; cases h)]; exact h⟩)
      · exact .inr h) (RVs.upd hD hb r)
  | _, _, .lst (a := a) h n nb r => .lst (by rw [upd_ne (fun z => by subst z; exact nb hb)]; exact h) n nb (RVs.upd hD hb r)
  | _, _, .mref h => .mref h
  | _, _, .glob h => .glob h
  | _, _, .exn h => .exn h
  | _, _, .scr h r => .scr (h.upd hD hb) (RVs.upd hD hb r)
theorem RVs.upd (hD : H D = some (.lst zs)) (hb : D ∈ φ.b) : ∀ {xs : List PV} {ys : List V}, RVs C φ H xs ys → RVs C φ (upd H D (.lst zs')) xs ys
  | _, _, .nil => .nil
  | _, _, .cons r t => .cons (RV.upd hD hb r) (RVs.upd hD hb t)
end
theorem RFs.upd (hD : H D = some (.lst zs)) (hb : D ∈ φ.b) : ∀ {xs : List (String × PV)} {ys : List (Str × V)}, RFs C φ H xs ys → RFs C φ (L2.upd H D (.lst zs')) xs ys
  | _, _, .nil => .nil
  | _, _, .cons r t => .cons (r.upd hD hb) (RFs.upd hD hb t)
theorem RO.upd {o : MO} {u : HO} (hD : H D = some (.lst zs)) (hb : D ∈ φ.b) (r : RO C φ H o u) : RO C φ (L2.upd H D (.lst zs')) o u := by
  cases r with
  | lst h => exact .lst (h.upd hD hb)
  | ins h g => exact .ins h (g.upd hD hb)
theorem Rel.upd (R : Rel C φ μ H) (hD : H D = some (.lst zs)) (hb : D ∈ φ.b) (hm : D ∉ φ.m) : Rel C φ μ (L2.upd H D (.lst zs')) :=
  ⟨R.len, R.nd, fun a ha => by
    by_cases e : a = D
    · rw [e]; exact ⟨_, upd_same, fun _ z => by cases z⟩
    · obtain ⟨u, h1, h2⟩ := R.bt a ha
      exact ⟨u, by rw [upd_ne e]; exact h1, h2⟩, R.sep, fun n a o h1 h2 => by
    obtain ⟨u, hu, ro⟩ := R.obj n a o h1 h2
    exact ⟨u, by rw [upd_ne (fun z => by subst z; exact hm (List.mem_of_getElem? h1))]; exact hu, ro.upd hD hb⟩, fun p hp => by
    obtain ⟨ps, h1, h2, h3⟩ := R.tabs p hp
    refine ⟨ps, by rw [upd_ne (fun z => by rw [z, hD] at h1; cases h1)]; exact h1, h2, fun q cv hc => ?_⟩
    obtain ⟨c, e1, e2⟩ := h3 q cv hc
    refine ⟨c, e1, ?_⟩
    rw [upd_ne (fun z => by
      rw [z, hD] at e2
      have := Option.some.inj e2
      unfold LamX.CodeO at this
      cases this)]
    exact e2⟩
theorem REnv.upd {ρ : PEnv} {σ : L2.St} (E : REnv C φ H ρ σ) (hD : H D = some (.lst zs)) (hb : D ∈ φ.b) : REnv C φ (L2.upd H D (.lst zs')) ρ σ :=
  ⟨E.len, fun i v e => by
    obtain ⟨u, h1, h2⟩ := E.at_ i v e
    exact ⟨u, h1, h2.upd hD hb⟩⟩
theorem Le.upd {H1 : Hp} (l : Le φ φ' H1 H) (h : H1 D = none) {o : HO} : Le φ φ' H1 (L2.upd H D o) :=
  ⟨l.pre, l.bar, fun a u e n t => by rw [upd_ne (ne_of_none e h)]; exact l.keep a u e n t, fun a e => by
    obtain ⟨u, hu, ht⟩ := l.there a e
    exact ⟨u, by rw [upd_ne (fun z => e.ne (by rw [z]; exact h))]; exact hu, ht⟩⟩
/-- one more barred -/
abbrev Ph.bar (φ : Ph) (D : Addr) : Ph := ⟨φ.m, D :: φ.b⟩
theorem Le.bar1 (h : H D = none) {o : HO} : Le φ (φ.bar D) H (L2.upd H D o) :=
  ⟨⟨[], by simp, by simp⟩, ⟨[D], rfl, fun a ha => by simp at ha; rw [ha]; exact Ob.no h⟩, (Le.fresh (φ := φ) h).keep, (Le.fresh (φ := φ) h).there⟩
theorem Rel.bar1 (R : Rel C φ μ H) (h : H D = none) {o : HO} (ht : NT o := by intro _ z; cases z) : Rel C (φ.bar D) μ (L2.upd H D o) :=
  ⟨R.len, R.nd, fun a ha => by
    rcases List.mem_cons.mp ha with e | ha
    · rw [e]; exact ⟨_, upd_same, ht⟩
    · exact (Le.fresh (φ := φ) h).there a (R.bt a ha), fun a ha hb => by
    rcases List.mem_cons.mp hb with z | z
    · rw [z] at ha; exact R.tracked ha h
    · exact R.sep a ha z, fun n a m h1 h2 => by
    obtain ⟨u, hu, ro⟩ := R.obj n a m h1 h2
    exact ⟨u, by rw [upd_ne (ne_of_none hu h)]; exact hu, ro.mono R (Le.bar1 h)⟩, R.tabs.ext fun b u e => by rw [upd_ne (ne_of_none e h)]; exact e⟩
mutual
theorem RV.unbar {β : List Addr} (hs : ∀ a ∈ β, a ∈ φ.b) : ∀ {x : PV} {y : V}, RV C φ H x y → RV C ⟨φ.m, β⟩ H x y
  | _, _, .non => .non
  | _, _, .bl b => .bl b
  | _, _, .int i => .int i
  | _, _, .str s h => .str s h
  | _, _, .tup h r => .tup h (RVs.unbar hs r)
  | _, _, .lst h n nb r => .lst h n (fun z => nb (hs _ z)) (RVs.unbar hs r)
  | _, _, .mref h => .mref h
  | _, _, .glob h => .glob h
  | _, _, .exn h => .exn h
  | _, _, .scr h r => .scr (h.unbar hs) (RVs.unbar hs r)
theorem RVs.unbar {β : List Addr} (hs : ∀ a ∈ β, a ∈ φ.b) : ∀ {xs : List PV} {ys : List V}, RVs C φ H xs ys → RVs C ⟨φ.m, β⟩ H xs ys
  | _, _, .nil => .nil
  | _, _, .cons r t => .cons (RV.unbar hs r) (RVs.unbar hs t)
end
theorem RFs.unbar {β : List Addr} (hs : ∀ a ∈ β, a ∈ φ.b) : ∀ {xs : List (String × PV)} {ys : List (Str × V)}, RFs C φ H xs ys → RFs C ⟨φ.m, β⟩ H xs ys
  | _, _, .nil => .nil
  | _, _, .cons r t => .cons (r.unbar hs) (RFs.unbar hs t)
theorem Rel.unbar {β : List Addr} (hs : ∀ a ∈ β, a ∈ φ.b) (R : Rel C φ μ H) : Rel C ⟨φ.m, β⟩ μ H :=
  ⟨R.len, R.nd, fun a ha => R.bt a (hs a ha), fun a ha hb => R.sep a ha (hs a hb), fun n a o h1 h2 => by
    obtain ⟨u, hu, ro⟩ := R.obj n a o h1 h2
    refine ⟨u, hu, ?_⟩
    cases ro with
    | lst h => exact .lst (h.unbar hs)
    | ins h g => exact .ins h (g.unbar hs), R.tabs⟩
mutual
theorem RV.enter {β : List Addr} (hb : D ∈ φ.b) (hs : ∀ a ∈ β, a ∈ φ.b) : ∀ {x : PV} {y : V}, RV C φ H x y → RV C ⟨φ.m ++ [D], β⟩ H x y
  | _, _, .non => .non
  | _, _, .bl b => .bl b
  | _, _, .int i => .int i
  | _, _, .str s h => .str s h
  | _, _, .tup h r => .tup h (RVs.enter hb hs r)
  | _, _, .lst h n nb r => .lst h (fun z => by
      rcases List.mem_append.mp z with z | z
      · exact n z
      · simp at z; rw [z] at nb; exact nb hb) (fun z => nb (hs _ z)) (RVs.enter hb hs r)
  | _, _, .mref h => .mref (by
      show (φ.m ++ [D])[_]? = _
      rw [List.getElem?_append_left (List.getElem?_eq_some_iff.mp h).1]; exact h)
  | _, _, .glob h => .glob h
  | _, _, .exn h => .exn h
  | _, _, .scr h r => .scr (h.enter hb hs) (RVs.enter hb hs r)
theorem RVs.enter {β : List Addr} (hb : D ∈ φ.b) (hs : ∀ a ∈ β, a ∈ φ.b) : ∀ {xs : List PV} {ys : List V}, RVs C φ H xs ys → RVs C ⟨φ.m ++ [D], β⟩ H xs ys
  | _, _, .nil => .nil
  | _, _, .cons r t => .cons (RV.enter hb hs r) (RVs.enter hb hs t)
end
theorem RFs.enter {β : List Addr} (hb : D ∈ φ.b) (hs : ∀ a ∈ β, a ∈ φ.b) : ∀ {xs : List (String × PV)} {ys : List (Str × V)}, RFs C φ H xs ys → RFs C ⟨φ.m ++ [D], β⟩ H xs ys
  | _, _, .nil => .nil
  | _, _, .cons r t => .cons (r.enter hb hs) (RFs.enter hb hs t)
theorem Rel.enter {β : List Addr} {xs : List PV} {ys : List V} (R : Rel C φ μ H) (hb : D ∈ φ.b) (hm : D ∉ φ.m) (hs : ∀ a ∈ β, a ∈ φ.b) (hβ : D ∉ β) (hD : H D = some (.lst ys)) (r : RVs C ⟨φ.m ++ [D], β⟩ H xs ys) : Rel C ⟨φ.m ++ [D], β⟩ (μ ++ [.lst xs]) H := by
  refine ⟨by simp [R.len], List.nodup_append.mpr ⟨R.nd, by simp, fun a ha b hb e => ?_⟩, fun a ha => R.bt a (hs a ha), fun a ha hb => ?_, fun n a o h1 h2 => ?_, R.tabs⟩
  · simp at hb
    subst hb e
    exact hm ha
  · rcases List.mem_append.mp ha with z | z
    · exact R.sep a z (hs a hb)
    · simp at z
      rw [z] at hb
      exact hβ hb
  · have h1 : (φ.m ++ [D])[n]? = some a := h1
    by_cases hn : n < φ.m.length
    · rw [List.getElem?_append_left hn] at h1
      rw [List.getElem?_append_left (by rw [← R.len]; exact hn)] at h2
      obtain ⟨u, hu, ro⟩ := R.obj n a o h1 h2
      refine ⟨u, hu, ?_⟩
      cases ro with
      | lst h => exact .lst (h.enter hb hs)
      | ins h g => exact .ins h (g.enter hb hs)
    · have hl : n < (φ.m ++ [D]).length := (List.getElem?_eq_some_iff.mp h1).1
      have e : n = φ.m.length := by simp at hl; omega
      subst e
      simp at h1
      rw [R.len] at h2
      simp at h2
      subst h1 h2
      exact ⟨_, hD, .lst r⟩
end
theorem wipe_get {σ : L2.St} {i : Nat} : ∀ {vs : List Nat}, i ∈ vs → (L2.wipe σ vs)[i]? = σ[i]?.map fun _ => none
  | v :: vs, h => by
    show ((L2.wipe σ vs).set v none)[i]? = _
    by_cases e : v = i
    · subst e
      rw [List.getElem?_set_self']
      by_cases hl : v < σ.length
      · have h1 : ∃ a, (L2.wipe σ vs)[v]? = some a := ⟨_, List.getElem?_eq_some_iff.mpr ⟨by rw [L2.wipe_length]; exact hl, rfl⟩⟩
        have h2 : ∃ a, σ[v]? = some a := ⟨_, List.getElem?_eq_some_iff.mpr ⟨hl, rfl⟩⟩
        obtain ⟨a, h1⟩ := h1
        obtain ⟨b, h2⟩ := h2
        rw [h1, h2]; rfl
      · rw [List.getElem?_eq_none (by rw [L2.wipe_length]; omega), List.getElem?_eq_none (by omega)]; rfl
    · rw [List.getElem?_set_ne e]
      rcases List.mem_cons.mp h with z | z
      · exact absurd z.symm e
      · exact wipe_get z
theorem wipe_off {σ σ' : L2.St} {vs : List Nat} (h : Off (fun i => vs.contains i) (L2.wipe σ vs) σ') : L2.wipe σ' vs = L2.wipe σ vs := by
  apply List.ext_getElem?
  intro i
  by_cases hi : i ∈ vs
  · rw [wipe_get hi, wipe_get hi]
    have hl : σ'.length = σ.length := by rw [h.1, L2.wipe_length]
    by_cases hn : i < σ.length
    · rw [List.getElem?_eq_getElem hn, List.getElem?_eq_getElem (by rw [hl]; exact hn)]; rfl
    · rw [List.getElem?_eq_none (by omega), List.getElem?_eq_none (by omega)]
  · have e : (vs.contains i) = false := by simpa using hi
    rw [L2.wipe_out hi, h.2 i e]
/-- nothing is raised -/
abbrev W0 : WX := fun _ _ _ _ => False
theorem post_noexc {C : Ctx} {α β : Type} {P : Ph → Hp → α → β → Prop} {E : Value → Option Addr → Hp → Prop} {φ : Ph} {H : Hp} {Q : β → Hp → Prop} {r : Res α} (h : Post C P E φ H Q r) (hx : ∀ x μ, r ≠ .exc x μ) {E' : Value → Option Addr → Hp → Prop} : Post C P E' φ H Q r := by
  cases r with
  | ok v μ' => exact h
  | exc x μ' => exact absurd rfl (hx x μ')
  | bad => exact h
abbrev SPt (X : Cx) (T : Tb) (ifs : List Expr) (c : Tv) : Prop := PTs X ifs (tT (cX X T) W0 c)
theorem spt_nil {X : Cx} {T : Tb} : SPt X T [] Py.tYes := ⟨fun pins s σ H Q I h => pts_nil.run pins s σ H Q I (by
  obtain ⟨φ, μ, ρ, R, E, h⟩ := h
  exact Post.done h R rfl)⟩
theorem spt_one {X : Cx} {T : Tb} {c : Expr} {t : Tv} (h : ST X T W0 c t) : SPt X T [c] t := pts_one h

section
variable {X : Cx} {T : Tb} {W : WX} {elt tg iter : Expr} {ifs : List Expr} {scope : Scope} {own : List (Str × Nat)} {pos : Pos} {ci : Iv} {ct : Tg} {cc : Tv} {ce : Ev}
/-- what a turn of a comprehension keeps -/
structure Lc (C : Ctx) (φ1 : Ph) (H1 : Hp) (D : Addr) (ρw : PEnv) (σw : L2.St) (H' : Hp) (φ2 : Ph) (μ2 : Mem) (acc : List PV) : Prop where
  le : Le φ1 φ2 H1 H'
  rel : Rel C φ2 μ2 H'
  bb : φ2.b = D :: φ1.b
  nm : D ∉ φ2.m
  env : REnv C φ2 H' ρw σw
  at_ : ∃ ys, H' D = some (.lst ys) ∧ RVs C φ2 H' acc ys
theorem t_comp (Qe : Mem → List PV → Res PV) (hQe : ∀ ys μ, ys.length ≤ Py.line → (Qe μ ys = .ok (.lst ys) μ ∨ Qe μ ys = .ok (.mref μ.length) (μ ++ [.lst ys]))) {C : Ctx} {σ : L2.St} {H : Hp} {Q : VK}
    (h : tE C W (fun ρ μ => (ci ρ μ).bind fun xs μ1 => if xs.length ≤ Py.line then (Py.compL ct cc ce (Py.wipe ρ (own.map (·.2))) xs [] μ1).bind fun ys μ2 => Qe μ2 ys else .bad) σ H Q) :
    L2.tLc (tI C W ci) (tG C (fun i => (own.map (·.2)).contains i) ct) (tT C W0 cc) (tE C W0 ce) (own.map (·.2)) σ H Q := by
  obtain ⟨φ, μ, ρ, R, E, h⟩ := h
  refine ⟨φ, μ, ρ, R, E, (Post.bind h).imp ?_⟩
  rintro J H1 ⟨φ1, μ1, xs, l1, R1, g1, h1⟩ D hD
  split at h1
  · rename_i hlen
    have hnm : D ∉ φ1.m := R1.nofresh hD
    refine ⟨fun i m H' => m = xs.length - i ∧ i ≤ xs.length ∧ ∃ φ2 μ2 acc, Lc C φ1 H1 D (Py.wipe ρ (own.map (·.2))) (L2.wipe σ (own.map (·.2))) H' φ2 μ2 acc ∧ acc.length ≤ i ∧
      Post C (RV C) (fun cls d H => W cls d σ H) φ1 H1 Q ((Py.compL ct cc ce (Py.wipe ρ (own.map (·.2))) (xs.drop i) acc μ2).bind fun ys μ2 => Qe μ2 ys),
      ⟨xs.length, by simp, Nat.zero_le _, φ1.bar D, μ1, [], ⟨Le.bar1 hD, R1.bar1 hD, rfl, hnm, ((E.mono R l1).wipe _).mono R1 (Le.bar1 hD), [], upd_same, .nil⟩, Nat.le_refl _, h1⟩, ?_⟩
    rintro i m H' ⟨rfl, hi, φ2, μ2, acc, ⟨le, rel, bb, nm, env, ys, hys, rys⟩, hacc, hp⟩
    obtain ⟨gstop, ggo⟩ := g1 φ2 μ2 H' le rel
    by_cases hlt : i < xs.length
    · obtain ⟨x, hx⟩ : ∃ x, xs[i]? = some x := ⟨_, List.getElem?_eq_some_iff.mpr ⟨hlt, rfl⟩⟩
      have hdrop : xs.drop i = x :: xs.drop (i + 1) := by
        rw [List.drop_eq_getElem_cons hlt]
        rw [(List.getElem?_eq_some_iff.mp hx).2]
      obtain ⟨go, yld⟩ := ggo i x hx
      refine .inr ⟨go, fun H' => ∃ φ2 μ2 acc, Lc C φ1 H1 D (Py.wipe ρ (own.map (·.2))) (L2.wipe σ (own.map (·.2))) H' φ2 μ2 acc ∧ acc.length ≤ i + 1 ∧
        Post C (RV C) (fun cls d H => W cls d σ H) φ1 H1 Q ((Py.compL ct cc ce (Py.wipe ρ (own.map (·.2))) (xs.drop (i + 1)) acc μ2).bind fun ys μ2 => Qe μ2 ys),
        fun H' q => ⟨xs.length - (i + 1), by omega, rfl, hlt, q⟩, fun u H'' hy => ?_⟩
      obtain ⟨l3, R3, r3⟩ := yld u H'' hy
      rw [hdrop] at hp
      -- the target
      cases q1 : ct x (Py.wipe ρ (own.map (·.2))) μ2 with
      | exc _ _ => simp only [Py.compL, q1] at hp; exact False.elim hp
      | bad => simp only [Py.compL, q1] at hp; exact False.elim hp
      | ok ρ3 μ3 =>
        refine ⟨φ2, μ2, _, x, R3, env.mono rel l3, r3, ?_⟩
        rw [q1]
        intro φ4 σ4 H4 l4 R4 E4 o4
        refine ⟨wipe_off o4, ?_⟩
        cases q2 : cc ρ3 μ3 with
        | exc _ _ => simp only [Py.compL, q1, q2] at hp; exact False.elim hp
        | bad => simp only [Py.compL, q1, q2] at hp; exact False.elim hp
        | ok b μ5 =>
          refine ⟨φ4, μ3, ρ3, R4, E4, ?_⟩
          rw [q2]
          intro φ5 H5 b' l5 R5 hb
          subst hb
          have l345 := (l3.trans l4).trans l5
          have hDb : ∀ {φ' : Ph} {H' H'' : Hp}, D ∈ φ2.b := fun {_ _ _} => by rw [bb]; exact List.mem_cons_self
          have nm5 : D ∉ φ5.m := l345.notin hys nm
          have hys5 : H5 D = some (.lst ys) := l345.keep _ _ hys nm (fun _ z => by cases z)
          have bb5 : ∃ β, φ5.b = β ++ φ2.b := by obtain ⟨β, e, _⟩ := l345.bar; exact ⟨β, e⟩
          have sub5 : ∀ a ∈ φ2.b, a ∈ φ5.b := fun a ha => by obtain ⟨β, e⟩ := bb5; rw [e]; exact List.mem_append_right _ ha
          cases b' with
          | false =>
            rw [if_neg Bool.false_ne_true]
            simp only [Py.compL, q1, q2] at hp
            refine ⟨⟨φ5.m, φ2.b⟩, μ5, acc, ⟨?_, R5.unbar sub5, bb, nm5, ?_, ys, hys5, (rys.mono rel l345).unbar sub5⟩, by omega, hp⟩
            · have := le.trans l345
              exact ⟨this.pre, le.bar, this.keep, this.there⟩
            · have e5 := env.mono rel l345
              exact ⟨e5.len, fun j v ej => by obtain ⟨w, h1, h2⟩ := e5.at_ j v ej; exact ⟨w, h1, h2.unbar sub5⟩⟩
          | true =>
            rw [if_pos rfl]
            cases q3 : ce ρ3 μ5 with
            | exc _ _ => simp only [Py.compL, q1, q2, q3] at hp; exact False.elim hp
            | bad => simp only [Py.compL, q1, q2, q3] at hp; exact False.elim hp
            | ok y μ6 =>
              simp only [Py.compL, q1, q2, q3] at hp
              refine ⟨φ5, μ5, ρ3, R5, E4.mono R4 l5, ?_⟩
              rw [q3]
              intro φ6 H6 yv l6 R6 ry
              have l6' := l345.trans l6
              have nm6 : D ∉ φ6.m := l6'.notin hys nm
              have hys6 : H6 D = some (.lst ys) := l6'.keep _ _ hys nm (fun _ z => by cases z)
              have sub6 : ∀ a ∈ φ2.b, a ∈ φ6.b := fun a ha => by obtain ⟨β, e, _⟩ := l6'.bar; rw [e]; exact List.mem_append_right _ ha
              have hlen2 : ys.length ≤ i := by rw [← rys.length]; exact hacc
              refine ⟨ys, hys6, Nat.lt_of_lt_of_le (show ys.length < Py.line from by omega) (by rw [sizeLine_eq]; decide), ?_⟩
              have R6' := R6.unbar sub6
              have hbD : D ∈ (Ph.mk φ6.m φ2.b).b := by show D ∈ φ2.b; rw [bb]; exact List.mem_cons_self
              refine ⟨⟨φ6.m, φ2.b⟩, μ6, acc ++ [y], ⟨?_, R6'.upd hys6 hbD nm6, bb, nm6, ?_, ys ++ [yv], upd_same, ?_⟩, by simp; omega, hp⟩
              · have := le.trans l6'
                exact Le.upd (φ' := ⟨φ6.m, φ2.b⟩) ⟨this.pre, le.bar, this.keep, this.there⟩ hD
              · have e6 := env.mono rel l6'
                have e6' : REnv C ⟨φ6.m, φ2.b⟩ H6 _ _ := ⟨e6.len, fun j v ej => by obtain ⟨w, h1, h2⟩ := e6.at_ j v ej; exact ⟨w, h1, h2.unbar sub6⟩⟩
                exact e6'.upd hys6 hbD
              · exact (((rys.mono rel l6').unbar sub6).append (.cons (ry.unbar sub6) .nil)).upd hys6 hbD
    · have e : i = xs.length := by omega
      subst e
      refine .inl ⟨gstop, ?_⟩
      rw [List.drop_length] at hp
      have hp : Post C (RV C) (fun cls d H => W cls d σ H) φ1 H1 Q (Qe μ2 acc) := hp
      have hle : Le φ1 ⟨φ2.m, φ1.b⟩ H1 H' := ⟨le.pre, ⟨[], by simp, by simp⟩, le.keep, le.there⟩
      have sub : ∀ a ∈ φ1.b, a ∈ φ2.b := fun a ha => by rw [bb]; exact List.mem_cons_of_mem _ ha
      have nb1 : D ∉ φ1.b := R1.nobar hD
      rcases hQe acc μ2 (by omega) with q | q
      · rw [q] at hp
        exact hp ⟨φ2.m, φ1.b⟩ H' _ hle (rel.unbar sub) (.lst hys nm nb1 (rys.unbar sub))
      · rw [q] at hp
        have hbD : D ∈ φ2.b := by rw [bb]; exact List.mem_cons_self
        have hle2 : Le φ1 ⟨φ2.m ++ [D], φ1.b⟩ H1 H' := ⟨by
          obtain ⟨ψ, e, hn⟩ := le.pre
          refine ⟨ψ ++ [D], by show φ2.m ++ [D] = _; rw [e, List.append_assoc], fun a ha => ?_⟩
          rcases List.mem_append.mp ha with z | z
          · exact hn a z
          · simp at z; rw [z]; exact Ob.no hD, ⟨[], by simp, by simp⟩, le.keep, le.there⟩
        refine hp ⟨φ2.m ++ [D], φ1.b⟩ H' _ hle2 (rel.enter hbD nm sub nb1 hys (rys.enter hbD sub)) (.mref ?_)
        show (φ2.m ++ [D])[μ2.length]? = some D
        rw [← rel.len]
        simp
  · exact False.elim h1
variable (hc : X.calm = true) (hN : X.N.Nodup) (hi : SI X T W tg iter ci) (ok : BlkOk X.N X.env.scope scope own)
  (hg : ∀ (s : Shared) (H : Hp) (C : Addr) (cl : List (Str × Addr)) (fp : List Addr), SG (X.blk s H scope (compEnvC scope cl C X.env) fp) T (fun i => (own.map (·.2)).contains i) tg ct)
  (ht : ∀ (s : Shared) (H : Hp) (C : Addr) (cl : List (Str × Addr)) (fp : List Addr), SPt (X.blk s H scope (compEnvC scope cl C X.env) fp) T ifs cc)
  (he : ∀ (s : Shared) (H : Hp) (C : Addr) (cl : List (Str × Addr)) (fp : List Addr), SE (X.blk s H scope (compEnvC scope cl C X.env) fp) T W0 elt ce)
include hc hN hi ok hg ht he
theorem se_lc (hs : ∀ x, foldedSetIterable iter X.env x = pure x := by intro _; rfl) : SE X T W (.ListComp elt [⟨tg, iter, ifs, 0⟩] scope pos) (Py.compI ci (own.map (·.2)) ct cc ce) :=
  (pe_lc hc hN hi ok hg ht he hs).weak fun σ H Q h => t_comp (fun μ ys => .ok (.lst ys) μ) (fun _ _ _ => .inl rfl) h
theorem se_lcM (hs : ∀ x, foldedSetIterable iter X.env x = pure x := by intro _; rfl) : SE X T W (.ListComp elt [⟨tg, iter, ifs, 0⟩] scope pos) (Py.compM ci (own.map (·.2)) ct cc ce) :=
  (pe_lc hc hN hi ok hg ht he hs).weak fun σ H Q h => t_comp (fun μ ys => .ok (.mref μ.length) (μ ++ [MO.lst ys])) (fun _ _ _ => .inr rfl) h
end
end PyS

set_option Elab.async false
set_option linter.all false
set_option maxRecDepth 100000
set_option maxHeartbeats 2000000
/-! PyL: statements, defs, calls. -/
namespace PyS
open PySem PySem.Spec PyProof.Rows L2
open Py (PV MO Mem Exc Res PEnv Ev Tv Av Ov Iv Tg Tgs Sv Out)

/-- behind a statement -/
def PostS (C : Ctx) (W : WX) (φ : Ph) (H : Hp) (D : Ends) : Out → Prop
  | .next ρ μ => ∀ φ' σ' H', Le φ φ' H H' → Rel C φ' μ H' → REnv C φ' H' ρ σ' → D.nx σ' H'
  | .brk ρ μ => ∀ φ' σ' H', Le φ φ' H H' → Rel C φ' μ H' → REnv C φ' H' ρ σ' → D.bk σ' H'
  | .cont ρ μ => ∀ φ' σ' H', Le φ φ' H H' → Rel C φ' μ H' → REnv C φ' H' ρ σ' → D.ct σ' H'
  | .ret v μ => ∀ φ' H' u, Le φ φ' H H' → Rel C φ' μ H' → RV C φ' H' v u → D.rt u H'
  | .exc x ρ μ => ∀ φ' σ' H' cls d, Le φ φ' H H' → Rel C φ' μ H' → REnv C φ' H' ρ σ' → RX C φ' H' x cls d → W cls d σ' H'
  | .bad => False
def tS (C : Ctx) (W : WX) (c : Sv) : TS := fun D σ H => ∃ φ μ ρ, Rel C φ μ H ∧ REnv C φ H ρ σ ∧ PostS C W φ H D (c ρ μ)
section
variable {C : Ctx} {W : WX} {φ φ1 : Ph} {H H1 : Hp} {D : Ends} {o : Out}
theorem PostS.world (l : Le φ φ1 H H1) (h : PostS C W φ H D o) : PostS C W φ1 H1 D o := by
  cases o with
  | next ρ μ => exact fun φ' σ' H' m R E => h φ' σ' H' (l.trans m) R E
  | brk ρ μ => exact fun φ' σ' H' m R E => h φ' σ' H' (l.trans m) R E
  | cont ρ μ => exact fun φ' σ' H' m R E => h φ' σ' H' (l.trans m) R E
  | ret v μ => exact fun φ' H' u m R E => h φ' H' u (l.trans m) R E
  | exc x ρ μ => exact fun φ' σ' H' cls d m R E X => h φ' σ' H' cls d (l.trans m) R E X
  | bad => exact h
/-- an expression first -/
theorem PostS.lift {α β : Type} {P : Ph → Hp → α → β → Prop} {r : Res α} {ρ : PEnv} {σ : L2.St} {μ : Mem} {k : α → Mem → Out} (R : Rel C φ μ H) (E : REnv C φ H ρ σ) (h : PostS C W φ H D (Py.liftS r ρ k)) :
    Post C P (fun cls d H => W cls d σ H) φ H (fun u H1 => ∃ φ1 μ1 v, Le φ φ1 H H1 ∧ Rel C φ1 μ1 H1 ∧ P φ1 H1 v u ∧ PostS C W φ1 H1 D (k v μ1)) r := by
  cases r with
  | ok v μ' => exact fun φ' H' u m R p => ⟨φ', μ', v, m, R, p, PostS.world m h⟩
  | exc x μ' => exact fun φ' H' cls d m R' X => h φ' σ H' cls d m R' (E.mono R m) X
  | bad => exact h
theorem PostS.here {ρ : PEnv} {σ : L2.St} {μ : Mem} (h : PostS C W φ H D (.next ρ μ)) (R : Rel C φ μ H) (E : REnv C φ H ρ σ) : D.nx σ H := h φ σ H (Le.refl _ _) R E
end
section
variable {X : Cx} {T : Tb} {W : WX} {a b c e tg iter : Expr} {st : Stmt} {rest sa sb : List Stmt} {ca cb cc : Ev} {ct : Tv} {cs cs' : Sv} {ci : Iv} {cg : Tg} {pos : Pos}
abbrev SS (X : Cx) (T : Tb) (W : WX) (st : Stmt) (c : Sv) : Prop := PS X st (tS (cX X T) W c)
abbrev SB (X : Cx) (T : Tb) (W : WX) (st : List Stmt) (c : Sv) : Prop := PSs X st (tS (cX X T) W c)
theorem _root_.L2.PS.weak {t t' : TS} (h : PS X st t) (w : ∀ D σ H, t' D σ H → t D σ H) : PS X st t' := ⟨fun pins s σ H D I q => h.run pins s σ H D I (w D σ H q)⟩
theorem _root_.L2.PSs.weak {st : List Stmt} {t t' : TS} (h : PSs X st t) (w : ∀ D σ H, t' D σ H → t D σ H) : PSs X st t' := ⟨fun pins s σ H D I q => h.run pins s σ H D I (w D σ H q)⟩
theorem t_seq {C : Ctx} {D : Ends} {σ : L2.St} {H : Hp} (h : tS C W (Py.seqS cs cs') D σ H) : tSeq (tS C W cs) (tS C W cs') D σ H := by
  obtain ⟨φ, μ, ρ, R, E, h⟩ := h
  refine ⟨φ, μ, ρ, R, E, ?_⟩
  unfold Py.seqS at h
  cases q : cs ρ μ with
  | next ρ1 μ1 =>
    rw [q] at h
    exact fun φ' σ' H' l R' E' => ⟨φ', μ1, ρ1, R', E', PostS.world l h⟩
  | brk ρ1 μ1 => rw [q] at h; exact h
  | cont ρ1 μ1 => rw [q] at h; exact h
  | ret v μ1 => rw [q] at h; exact h
  | exc x ρ1 μ1 => rw [q] at h; exact h
  | bad => rw [q] at h; exact h
theorem sb_cons (h1 : SS X T W st cs) (h2 : SB X T W rest cs') : SB X T W (st :: rest) (Py.seqS cs cs') := (pss_cons h1 h2).weak fun _ _ _ h => t_seq h
theorem sb_one (h1 : SS X T W st cs) : SB X T W [st] cs := pss_one h1
theorem sb_nil : SB X T W [] Py.passS := pss_nil.weak fun D σ H ⟨φ, μ, ρ, R, E, h⟩ => PostS.here h R E
theorem ss_pass : SS X T W (.Pass pos) Py.passS := ps_pass.weak fun D σ H ⟨φ, μ, ρ, R, E, h⟩ => PostS.here h R E
theorem ss_doc {x j pos'} : SS X T W (.Expr (.Constant (.str x) j pos) pos') Py.passS := ps_doc.weak fun D σ H ⟨φ, μ, ρ, R, E, h⟩ => PostS.here h R E
theorem ss_brk : SS X T W (.Break pos) Py.brkS := ps_break.weak fun D σ H ⟨φ, μ, ρ, R, E, h⟩ => h φ σ H (Le.refl _ _) R E
theorem ss_cont : SS X T W (.Continue pos) Py.contS := ps_continue.weak fun D σ H ⟨φ, μ, ρ, R, E, h⟩ => h φ σ H (Le.refl _ _) R E
theorem ss_expr (ha : SE X T W e ca) (hs : swapsWith e none pos.line X.env = pure false := by rfl) : SS X T W (.Expr e pos) (Py.exprS ca) :=
  (ps_expr ha hs).weak fun D σ H ⟨φ, μ, ρ, R, E, h⟩ => ⟨φ, μ, ρ, R, E, (PostS.lift R E h).imp fun u H1 ⟨φ1, μ1, v, l1, R1, rv, h1⟩ => PostS.here h1 R1 (E.mono R l1)⟩
theorem ss_ret (ha : SE X T W e ca) : SS X T W (.Return (some e) pos) (Py.retS ca) :=
  (ps_ret ha).weak fun D σ H ⟨φ, μ, ρ, R, E, h⟩ => ⟨φ, μ, ρ, R, E, (PostS.lift R E h).imp fun u H1 ⟨φ1, μ1, v, l1, R1, rv, h1⟩ => h1 φ1 H1 u (Le.refl _ _) R1 rv⟩
theorem ss_retN : SS X T W (.Return none pos) Py.retN := ps_retN.weak fun D σ H ⟨φ, μ, ρ, R, E, h⟩ => h φ H .non (Le.refl _ _) R .non
theorem ss_if (hc : ST X T W c ct) (ha : SB X T W sa cs) (hb : SB X T W sb cs') : SS X T W (.If c sa sb pos) (Py.ifS ct cs cs') :=
  (ps_if hc ha hb).weak fun D σ H ⟨φ, μ, ρ, R, E, h⟩ => ⟨φ, μ, ρ, R, E, (PostS.lift (P := PB) R E h).imp fun u H1 ⟨φ1, μ1, v, l1, R1, rv, h1⟩ => by
    subst rv
    cases u with
    | true => exact ⟨φ1, μ1, ρ, R1, E.mono R l1, h1⟩
    | false => exact ⟨φ1, μ1, ρ, R1, E.mono R l1, h1⟩⟩
theorem t_asg {C : Ctx} {own : Nat → Bool} {D : Ends} {σ : L2.St} {H : Hp} (h : tS C W (Py.asgS cg ca) D σ H) : tAsg (tE C W ca) (tG C own cg) D σ H := by
  obtain ⟨φ, μ, ρ, R, E, h⟩ := h
  refine ⟨φ, μ, ρ, R, E, (PostS.lift R E h).imp fun u H1 ⟨φ1, μ1, v, l1, R1, rv, h1⟩ => ⟨φ1, μ1, ρ, v, R1, E.mono R l1, rv, ?_⟩⟩
  cases q : cg v ρ μ1 with
  | ok ρ2 μ2 =>
    rw [q] at h1
    exact fun φ' σ' H' l R' E' _ => h1 φ' σ' H' l R' E'
  | exc x m => rw [q] at h1; exact h1
  | bad => rw [q] at h1; exact h1
theorem ss_asg (he : SE X T W e ca) (hg : SG X T (fun _ => true) tg cg) (hs : swapsWithSole [tg] e pos.line X.env = pure false := by rfl) (hw : swappedStores [tg] e X.env = pure none := by rfl)
    (h1 : (assignEach [tg] X.env).map (·.2) = [assign tg X.env] := by rfl) : SS X T W (.Assign [tg] e pos) (Py.asgS cg ca) := (ps_asg he hg hs hw h1).weak fun _ _ _ h => t_asg h
theorem g_nameS {C : Ctx} {i : Nat} {x : V} {σ : L2.St} {H : Hp} {Q : L2.St → Hp → Prop} (h : tG C (fun _ => true) (Py.tgN i) x σ H Q) : gName i x σ H Q := by
  obtain ⟨φ, μ, ρ, v, R, E, r, h⟩ := h
  exact h φ _ H (Le.refl _ _) R (E.set i r) (Off.set rfl)
theorem ss_set (i : Nat) {x : Str} {pos' : Pos} (hN : X.N.Nodup) (hi : X.N[i]? = some x) (hx : Loc X.env.scope x) (he : SE X T W e ca) (hs : swapsWith e (some (.Name x pos')) pos.line X.env = pure false := by rfl) (hf : X.fn x = true ∨ X.env.scope.names.lookup x = some .local := by first | exact .inl rfl | exact .inr rfl | assumption) :
    SS X T W (.Assign [.Name x pos'] e pos) (Py.asgS (Py.tgN i) ca) := (ps_set hN hi hx he hs hf).weak fun D σ H h => by
  obtain ⟨φ, μ, ρ, R, E, h⟩ := t_asg (own := fun _ => true) h
  exact ⟨φ, μ, ρ, R, E, h.imp fun u H1 q => g_nameS q⟩
theorem ss_setLc (i : Nat) {y : Str} {py : Pos} {elt : Expr} {ifs : List Expr} {scope : Scope} {own : List (Str × Nat)} {spos : Pos} {ctt : Tv} {ce : Ev} (hc : X.calm = true) (hN : X.N.Nodup) (hy : X.N[i]? = some y) (hyl : X.env.scope.names.lookup y = some .local)
    (hsw : swapsWith (.ListComp elt [⟨tg, iter, ifs, 0⟩] scope pos) (some (.Name y py)) spos.line X.env = pure true) (hi : SI X T W tg iter ci) (ok : BlkOk X.N X.env.scope scope own)
    (hg : ∀ (s : Shared) (H : Hp) (C : Addr) (cl : List (Str × Addr)) (fp : List Addr), SG (X.blk s H scope (compEnvC scope cl C X.env) fp) T (fun i => (own.map (·.2)).contains i) tg cg)
    (ht : ∀ (s : Shared) (H : Hp) (C : Addr) (cl : List (Str × Addr)) (fp : List Addr), SPt (X.blk s H scope (compEnvC scope cl C X.env) fp) T ifs ctt)
    (he : ∀ (s : Shared) (H : Hp) (C : Addr) (cl : List (Str × Addr)) (fp : List Addr), SE (X.blk s H scope (compEnvC scope cl C X.env) fp) T W0 elt ce) (hs : ∀ x, foldedSetIterable iter X.env x = pure x := by intro _; rfl) :
    SS X T W (.Assign [.Name y py] (.ListComp elt [⟨tg, iter, ifs, 0⟩] scope pos) spos) (Py.asgS (Py.tgN i) (Py.compI ci (own.map (·.2)) cg ctt ce)) :=
  (ps_setLc hc hN hy hyl hsw hi ok hg ht he hs).weak fun D σ H h => by
    obtain ⟨φ, μ, ρ, R, E, h⟩ := t_asg (own := fun _ => true) h
    exact t_comp (fun μ ys => .ok (.lst ys) μ) (fun _ _ _ => .inl rfl) ⟨φ, μ, ρ, R, E, h.imp fun u H1 q => g_nameS q⟩
theorem ss_setLcM (i : Nat) {y : Str} {py : Pos} {elt : Expr} {ifs : List Expr} {scope : Scope} {own : List (Str × Nat)} {spos : Pos} {ctt : Tv} {ce : Ev} (hc : X.calm = true) (hN : X.N.Nodup) (hy : X.N[i]? = some y) (hyl : X.env.scope.names.lookup y = some .local)
    (hsw : swapsWith (.ListComp elt [⟨tg, iter, ifs, 0⟩] scope pos) (some (.Name y py)) spos.line X.env = pure true) (hi : SI X T W tg iter ci) (ok : BlkOk X.N X.env.scope scope own)
    (hg : ∀ (s : Shared) (H : Hp) (C : Addr) (cl : List (Str × Addr)) (fp : List Addr), SG (X.blk s H scope (compEnvC scope cl C X.env) fp) T (fun i => (own.map (·.2)).contains i) tg cg)
    (ht : ∀ (s : Shared) (H : Hp) (C : Addr) (cl : List (Str × Addr)) (fp : List Addr), SPt (X.blk s H scope (compEnvC scope cl C X.env) fp) T ifs ctt)
    (he : ∀ (s : Shared) (H : Hp) (C : Addr) (cl : List (Str × Addr)) (fp : List Addr), SE (X.blk s H scope (compEnvC scope cl C X.env) fp) T W0 elt ce) (hs : ∀ x, foldedSetIterable iter X.env x = pure x := by intro _; rfl) :
    SS X T W (.Assign [.Name y py] (.ListComp elt [⟨tg, iter, ifs, 0⟩] scope pos) spos) (Py.asgS (Py.tgN i) (Py.compM ci (own.map (·.2)) cg ctt ce)) :=
  (ps_setLc hc hN hy hyl hsw hi ok hg ht he hs).weak fun D σ H h => by
    obtain ⟨φ, μ, ρ, R, E, h⟩ := t_asg (own := fun _ => true) h
    exact t_comp (fun μ ys => .ok (.mref μ.length) (μ ++ [MO.lst ys])) (fun _ _ _ => .inr rfl) ⟨φ, μ, ρ, R, E, h.imp fun u H1 q => g_nameS q⟩
/-- a, b = x, y, plain local names -/
theorem ss_par (i j : Nat) {x y : Str} {px py pt : Pos} {kt k2 pt2} {cas : Av} (hc : X.calm = true) (hN : X.N.Nodup) (hi : X.N[i]? = some x) (hj : X.N[j]? = some y) (hij : i ≠ j)
    (hx : X.env.scope.names.lookup x = some .local) (hy : X.env.scope.names.lookup y = some .local) (ha : SA X T W [a, b] cas)
    (hw : swappedStores [.Tuple [.Name x px, .Name y py] kt pt] (.Tuple [a, b] k2 pt2) X.env = pure (some [x, y]))
    (hs : swapsWithSole [.Tuple [.Name x px, .Name y py] kt pt] (.Tuple [a, b] k2 pt2) pos.line X.env = pure false := by rfl) :
    SS X T W (.Assign [.Tuple [.Name x px, .Name y py] kt pt] (.Tuple [a, b] k2 pt2) pos) (Py.asgS (Py.tgT (Py.tgsCons (Py.tgN i) (Py.tgsCons (Py.tgN j) Py.tgsNil))) (Py.opN Py.fTup cas)) :=
  (ps_par hc hN hi hj hij hx hy ha hw hs).weak fun D σ H ⟨φ, μ, ρ, R, E, h⟩ => ⟨φ, μ, ρ, R, E, by
    have h : PostS (cX X T) W φ H D (Py.liftS ((cas ρ μ).bind Py.fTup) ρ _) := h
    cases q : cas ρ μ with
    | exc x μ' =>
      rw [q] at h
      exact fun φ' H' cls d m R' X => h φ' σ H' cls d m R' (E.mono R m) X
    | bad => rw [q] at h; exact h
    | ok vs μ' =>
      rw [q] at h
      intro φ' H' us l R' rs
      have h : PostS (cX X T) W φ H D (Py.liftS (Py.fTup vs μ') ρ _) := h
      unfold Py.fTup at h
      split at h
      · match vs, rs, h with
        | [v, w], .cons r1 (.cons r2 .nil), h =>
          exact ⟨_, _, rfl, h φ' _ H' l R' (((E.mono R l).set i r1).set j r2)⟩
        | [], _, h => exact False.elim h
        | [_], _, h => exact False.elim h
        | _ :: _ :: _ :: _, _, h => exact False.elim h
      · exact False.elim h⟩
theorem ss_par3 (i j l : Nat) {x y z : Str} {px py pz pt : Pos} {kt k2 pt2} {cas : Av} (hc : X.calm = true) (hN : X.N.Nodup) (hi : X.N[i]? = some x) (hj : X.N[j]? = some y) (hl : X.N[l]? = some z) (hij : i ≠ j) (hil : i ≠ l) (hjl : j ≠ l)
    (hx : X.env.scope.names.lookup x = some .local) (hy : X.env.scope.names.lookup y = some .local) (hz : X.env.scope.names.lookup z = some .local) (ha : SA X T W [a, b, c] cas)
    (hw : swappedStores [.Tuple [.Name x px, .Name y py, .Name z pz] kt pt] (.Tuple [a, b, c] k2 pt2) X.env = pure (some [x, y, z]))
    (hs : swapsWithSole [.Tuple [.Name x px, .Name y py, .Name z pz] kt pt] (.Tuple [a, b, c] k2 pt2) pos.line X.env = pure false := by rfl) :
    SS X T W (.Assign [.Tuple [.Name x px, .Name y py, .Name z pz] kt pt] (.Tuple [a, b, c] k2 pt2) pos) (Py.asgS (Py.tgT (Py.tgsCons (Py.tgN i) (Py.tgsCons (Py.tgN j) (Py.tgsCons (Py.tgN l) Py.tgsNil)))) (Py.opN Py.fTup cas)) :=
  (ps_par3 hc hN hi hj hl hij hil hjl hx hy hz ha hw hs).weak fun D σ H ⟨φ, μ, ρ, R, E, h⟩ => ⟨φ, μ, ρ, R, E, by
    have h : PostS (cX X T) W φ H D (Py.liftS ((cas ρ μ).bind Py.fTup) ρ _) := h
    cases q : cas ρ μ with
    | exc x μ' =>
      rw [q] at h
      exact fun φ' H' cls d m R' X => h φ' σ H' cls d m R' (E.mono R m) X
    | bad => rw [q] at h; exact h
    | ok vs μ' =>
      rw [q] at h
      intro φ' H' us l R' rs
      have h : PostS (cX X T) W φ H D (Py.liftS (Py.fTup vs μ') ρ _) := h
      unfold Py.fTup at h
      split at h
      · match vs, rs, h with
        | [v, w, u], .cons r1 (.cons r2 (.cons r3 .nil)), h =>
          exact ⟨_, _, _, rfl, h φ' _ H' l R' ((((E.mono R l).set i r1).set j r2).set _ r3)⟩
        | [], _, h => exact False.elim h
        | [_], _, h => exact False.elim h
        | [_, _], _, h => exact False.elim h
        | _ :: _ :: _ :: _ :: _, _, h => exact False.elim h
      · exact False.elim h⟩

/-! ### loops -/
theorem t_for {C : Ctx} {own : Nat → Bool} {D : Ends} {σ : L2.St} {H : Hp} (h : tS C W (Py.forS ci cg cs) D σ H) : tFor (tI C W ci) (tG C own cg) (tS C W cs) D σ H := by
  obtain ⟨φ, μ, ρ, R, E, h⟩ := h
  refine ⟨φ, μ, ρ, R, E, (PostS.lift R E h).imp ?_⟩
  rintro J H1 ⟨φ1, μ1, xs, l1, R1, g1, h1⟩
  refine ⟨fun i m σ' H' => m = xs.length - i ∧ i ≤ xs.length ∧ ∃ φ2 μ2 ρ2, Le φ1 φ2 H1 H' ∧ Rel C φ2 μ2 H' ∧ REnv C φ2 H' ρ2 σ' ∧ PostS C W φ2 H' D (Py.forL cg cs (xs.drop i) ρ2 μ2),
    ⟨xs.length, by simp, Nat.zero_le _, φ1, μ1, ρ, Le.refl _ _, R1, E.mono R l1, h1⟩, ?_⟩
  rintro i m σ' H' ⟨rfl, hi, φ2, μ2, ρ2, l2, R2, E2, h2⟩
  obtain ⟨gstop, ggo⟩ := g1 φ2 μ2 H' l2 R2
  by_cases hlt : i < xs.length
  · obtain ⟨x, hx⟩ : ∃ x, xs[i]? = some x := ⟨_, List.getElem?_eq_some_iff.mpr ⟨hlt, rfl⟩⟩
    have hdrop : xs.drop i = x :: xs.drop (i + 1) := by
      rw [List.drop_eq_getElem_cons hlt]
      rw [(List.getElem?_eq_some_iff.mp hx).2]
    obtain ⟨go, yld⟩ := ggo i x hx
    refine .inr ⟨go, fun σ' H' => ∃ φ2 μ2 ρ2, Le φ1 φ2 H1 H' ∧ Rel C φ2 μ2 H' ∧ REnv C φ2 H' ρ2 σ' ∧ PostS C W φ2 H' D (Py.forL cg cs (xs.drop (i + 1)) ρ2 μ2),
      fun σ' H' q => ⟨xs.length - (i + 1), by omega, rfl, hlt, q⟩, fun u H'' hy => ?_⟩
    obtain ⟨l3, R3, r3⟩ := yld u H'' hy
    rw [hdrop] at h2
    refine ⟨φ2, μ2, ρ2, x, R3, E2.mono R2 l3, r3, ?_⟩
    cases q1 : cg x ρ2 μ2 with
    | exc _ _ => simp only [Py.forL, q1] at h2; exact False.elim h2
    | bad => simp only [Py.forL, q1] at h2; exact False.elim h2
    | ok ρ3 μ3 =>
      simp only [Py.forL, q1] at h2
      intro φ4 σ4 H4 l4 R4 E4 _
      have l34 := l3.trans l4
      refine ⟨φ4, μ3, ρ3, R4, E4, ?_⟩
      have h4 := PostS.world l34 h2
      cases q2 : cs ρ3 μ3 with
      | next ρ5 μ5 =>
        rw [q2] at h4
        exact fun φ' σ' H' l R' E' => ⟨φ', μ5, ρ5, ((l2.trans l34).trans l), R', E', PostS.world l h4⟩
      | cont ρ5 μ5 =>
        rw [q2] at h4
        exact fun φ' σ' H' l R' E' => ⟨φ', μ5, ρ5, ((l2.trans l34).trans l), R', E', PostS.world l h4⟩
      | brk ρ5 μ5 => rw [q2] at h4; exact h4
      | ret v μ5 => rw [q2] at h4; exact h4
      | exc x ρ5 μ5 => rw [q2] at h4; exact h4
      | bad => rw [q2] at h4; exact h4
  · have e : i = xs.length := by omega
    subst e
    rw [List.drop_length] at h2
    exact .inl ⟨gstop, PostS.here h2 R2 E2⟩
theorem ss_for {own : Nat → Bool} {body : List Stmt} (hp : PassesOwn (model X.prog X.w) X.A X.env X.xe) (hc : X.calm = true) (hi : SI X T W tg iter ci) (hg : SG X T own tg cg) (hb : SB X T W body cs)
    (hs : ∀ x, foldedSetIterable iter X.env x = pure x := by intro _; rfl) : SS X T W (.For tg iter body [] pos) (Py.forS ci cg cs) := (ps_for hp hc hi hg hb hs).weak fun _ _ _ h => t_for h
theorem t_while {C : Ctx} (n : Nat) {D : Ends} {σ : L2.St} {H : Hp} (h : tS C W (Py.whileL ct cs n) D σ H) : tWhile (tT C W ct) (tS C W cs) D σ H := by
  refine ⟨fun m σ H => tS C W (Py.whileL ct cs m) D σ H, ⟨n, h⟩, ?_⟩
  rintro m σ H ⟨φ, μ, ρ, R, E, h⟩
  cases m with
  | zero => exact False.elim h
  | succ m =>
    refine ⟨φ, μ, ρ, R, E, (PostS.lift (P := PB) R E h).imp fun u H1 ⟨φ1, μ1, v, l1, R1, rv, h1⟩ => ?_⟩
    subst rv
    cases u with
    | false => exact PostS.here h1 R1 (E.mono R l1)
    | true =>
      rw [if_pos rfl] at h1 ⊢
      refine ⟨fun σ H => tS C W (Py.whileL ct cs m) D σ H, fun σ' H' q => ⟨m, Nat.lt_succ_self _, q⟩, φ1, μ1, ρ, R1, E.mono R l1, ?_⟩
      cases q2 : cs ρ μ1 with
      | next ρ5 μ5 =>
        rw [q2] at h1
        exact fun φ' σ' H' l R' E' => ⟨φ', μ5, ρ5, R', E', PostS.world l h1⟩
      | cont ρ5 μ5 =>
        rw [q2] at h1
        exact fun φ' σ' H' l R' E' => ⟨φ', μ5, ρ5, R', E', PostS.world l h1⟩
      | brk ρ5 μ5 => rw [q2] at h1; exact h1
      | ret v μ5 => rw [q2] at h1; exact h1
      | exc x ρ5 μ5 => rw [q2] at h1; exact h1
      | bad => rw [q2] at h1; exact h1
theorem ss_while (n : Nat) {body : List Stmt} (hp : PassesOwn (model X.prog X.w) X.A X.env X.xe) (hc : ST X T W c ct) (hb : SB X T W body cs) : SS X T W (.While c body [] pos) (Py.whileL ct cs n) := (ps_while hp hc hb).weak fun _ _ _ h => t_while n h
end

/-! ### defs -/
def spF (C : Ctx) (F : Py.Fn) (n : Nat) : Sp := fun vs H Q E => vs.length = n ∧ ∃ φ μ as, Rel C φ μ H ∧ RVs C φ H as vs ∧ Post C (RV C) E φ H Q (F as μ)
/-- the def x, of n parameters, does what F says -/
structure FnAt (P : Program) (w : World) (K : PySem.W.Frag) (mg : Str → Option Value) (T : Tb) (base : Heap) (k : Nat) (x : Str) (n : Nat) (F : Py.Fn) : Prop where
  ar : ∀ as μ, as.length ≠ n → F as μ = .bad
  ex : ∃ f fd ps, mg x = some (.ref f) ∧ PySem.W.keepIn K (.ref f) = true ∧ Binds K fd ps [] ∧ ps.length = n ∧ FnOk P w K mg base (L2N.CX P w) k f fd ps (spF ⟨K, mg, T⟩ F n)
theorem FnAt.mono {P : Program} {w : World} {K : PySem.W.Frag} {mg : Str → Option Value} {T : Tb} {base : Heap} {k j : Nat} {x : Str} {n : Nat} {F : Py.Fn} (h : FnAt P w K mg T base k x n F) (hj : k ≤ j) : FnAt P w K mg T base j x n F := by
  obtain ⟨f, fd, ps, h1, h2, h3, h4, h5⟩ := h.ex
  exact ⟨h.ar, f, fd, ps, h1, h2, h3, h4, h5.mono hj⟩
section
variable {C : Ctx} {φ φ' : Ph} {μ μ1 : Mem} {H H' : Hp}
mutual
theorem RV.lower {m : Nat} : ∀ {x : PV} {y : V}, RV C φ H x y → Py.below m x = true → RV C ⟨φ.m.take m, φ.b⟩ H x y
  | _, _, .non, _ => .non
  | _, _, .bl b, _ => .bl b
  | _, _, .int i, _ => .int i
  | _, _, .str s h, _ => .str s h
  | _, _, .tup h r, b => .tup h (RVs.lower r b)
  | _, _, .lst h n nb r, b => .lst h (fun z => n (List.mem_of_mem_take z)) nb (RVs.lower r b)
  | _, _, .mref h, b => .mref (by
      show (φ.m.take m)[_]? = _
      rw [List.getElem?_take_of_lt (of_decide_eq_true b)]; exact h)
  | _, _, .glob h, _ => .glob h
  | _, _, .exn h, _ => .exn h
  | _, _, .scr h r, b => .scr (by
      rcases h with ⟨h, n, nb⟩ | h
      · exact .inl ⟨h, fun z => n (List.mem_of_mem_take z), nb⟩
      · exact .inr h) (RVs.lower r b)
theorem RVs.lower {m : Nat} : ∀ {xs : List PV} {ys : List V}, RVs C φ H xs ys → Py.belows m xs = true → RVs C ⟨φ.m.take m, φ.b⟩ H xs ys
  | _, _, .nil, _ => .nil
  | _, _, .cons r t, b => by
    have b := Bool.and_eq_true_iff.mp (show (Py.below m _ && Py.belows m _) = true from b)
    exact .cons (RV.lower r b.1) (RVs.lower t b.2)
end
theorem RFs.lower {m : Nat} : ∀ {xs : List (String × PV)} {ys : List (Str × V)}, RFs C φ H xs ys → (xs.all fun p => Py.below m p.2) = true → RFs C ⟨φ.m.take m, φ.b⟩ H xs ys
  | _, _, .nil, _ => .nil
  | _, _, .cons r t, b => by
    rw [List.all_cons, Bool.and_eq_true] at b
    exact .cons (r.lower b.1) (RFs.lower t b.2)
theorem Rel.lower {m : Nat} (R : Rel C φ μ H) (hm : m ≤ μ.length) (h : (μ.take m).all (Py.belowM m) = true) : Rel C ⟨φ.m.take m, φ.b⟩ (μ.take m) H := by
  refine ⟨by show (φ.m.take m).length = _; rw [List.length_take, List.length_take, R.len], R.nd.sublist (List.take_sublist _ _), R.bt, fun a ha => R.sep a (List.mem_of_mem_take ha), fun n a o h1 h2 => ?_, R.tabs⟩
  have h1 : (φ.m.take m)[n]? = some a := h1
  have hn : n < m := by
    have := (List.getElem?_eq_some_iff.mp h1).1
    rw [List.length_take] at this
    omega
  have hb := List.all_eq_true.mp h o (List.mem_of_getElem? h2)
  rw [List.getElem?_take_of_lt hn] at h1 h2
  obtain ⟨u, hu, ro⟩ := R.obj n a o h1 h2
  refine ⟨u, hu, ?_⟩
  cases ro with
  | lst h => exact .lst (h.lower hb)
  | ins h g => exact .ins h (g.lower hb)
theorem leave_ok {m : Nat} {v : PV} {u : V} {E : Value → Option Addr → Hp → Prop} {Q : VK} (hm : φ.m.length = m) (l : Le φ φ' H H') (R : Rel C φ' μ1 H') (r : RV C φ' H' v u) (h : Post C (RV C) E φ H Q (Py.leave m v μ1)) : Q u H' := by
  unfold Py.leave at h
  split at h
  · exact h φ' H' u l R r
  · dsimp only at h
    split at h
    · rename_i hc
      rw [Bool.and_eq_true] at hc
      have hml : m ≤ μ1.length := by
        rw [← R.len]
        obtain ⟨ψ, e, _⟩ := l.pre
        rw [e, List.length_append, ← hm]
        omega
      have ht : φ'.m.take m = φ.m := by
        obtain ⟨ψ, e, _⟩ := l.pre
        rw [e, ← hm]
        simp
      have lt : Le φ ⟨φ'.m.take m, φ'.b⟩ H H' := ⟨⟨[], by show φ'.m.take m = φ.m ++ []; rw [ht]; simp, by simp⟩, l.bar, l.keep, l.there⟩
      refine h ⟨φ'.m.take m, φ'.b⟩ H' u lt (R.lower hml hc.2) ?_
      have hb := hc.1
      have plain : Py.settle m μ1 v = v → RV C ⟨φ'.m.take m, φ'.b⟩ H' (Py.settle m μ1 v) u := fun e => by
        rw [e] at hb ⊢
        exact r.lower hb
      cases r with
      | @mref a n hn =>
        by_cases hnm : n < m
        · exact plain (by simp only [Py.settle, if_pos hnm])
        · cases q : μ1[n]? with
          | none => exact plain (by simp only [Py.settle, if_neg hnm, q])
          | some o =>
            cases o with
            | lst xs =>
              by_cases hx : Py.belows m xs = true
              · have e : Py.settle m μ1 (.mref n) = .lst xs := by simp only [Py.settle, if_neg hnm, q, if_pos hx]
                rw [e]
                obtain ⟨w, hw, ro⟩ := R.obj n a _ hn q
                cases ro with
                | lst rs =>
                  refine .lst hw (fun z => ?_) (R.sep a (List.mem_of_getElem? hn)) (rs.lower hx)
                  have z : a ∈ φ'.m.take m := z
                  obtain ⟨j, hj, ej⟩ := List.getElem_of_mem z
                  have hj2 : j < m := by rw [List.length_take] at hj; omega
                  have e1 : φ'.m[j]? = some a := by
                    have := List.getElem?_eq_some_iff.mpr ⟨hj, ej⟩
                    rw [List.getElem?_take_of_lt hj2] at this
                    exact this
                  have e2 : j = n := by
                    obtain ⟨a1, b1⟩ := List.getElem?_eq_some_iff.mp e1
                    obtain ⟨a2, b2⟩ := List.getElem?_eq_some_iff.mp hn
                    exact (List.getElem_inj R.nd).mp (b1.trans b2.symm)
                  omega
              · exact plain (by simp only [Py.settle, if_neg hnm, q, if_neg hx])
            | ins c fs => exact plain (by simp only [Py.settle, if_neg hnm, q])
            | dct kvs => exact plain (by simp only [Py.settle, if_neg hnm, q])
      | non => exact plain rfl
      | bl b => exact plain rfl
      | int b => exact plain rfl
      | str b hb => exact plain rfl
      | tup a b => exact plain rfl
      | lst a b c d => exact plain rfl
      | glob a => exact plain rfl
      | exn a => exact plain rfl
      | scr _ _ => exact plain rfl
    · exact h φ' H' u l R r
end
/-- a def's start -/
theorem start_env {C : Ctx} {φ : Ph} {H : Hp} {N : List Str} {as : List PV} {vs : List V} {n : Nat} (hn : as.length = n) (r : RVs C φ H as vs) : REnv C φ H (as.map some ++ List.replicate (N.length - n) none) (L2.start N vs) := by
  have hl := r.length
  refine ⟨by unfold L2.start; simp; omega, fun i v e => ?_⟩
  unfold L2.start
  by_cases hi : i < as.length
  · rw [List.getElem?_append_left (by simpa using hi), List.getElem?_map] at e
    rw [List.getElem?_append_left (by rw [List.length_map, ← hl]; exact hi), List.getElem?_map]
    cases q : as[i]? with
    | none => rw [q] at e; cases e
    | some z =>
      rw [q] at e
      cases e
      obtain ⟨y, h1, h2⟩ := r.get q
      exact ⟨y, by rw [h1]; rfl, h2⟩
  · rw [List.getElem?_append_right (by simpa using hi), List.getElem?_replicate] at e
    split at e <;> cases e
/-- a def's body gives its promise -/
theorem t_fn {C : Ctx} {E : XK} {N : List Str} {n : Nat} {body : Sv} {vs : List V} {H : Hp} {Q : VK} (h : spF C (Py.fnI n N.length body) n vs H Q E) :
    tS C (fun cls d _ H => E cls d H) body { nx := fun _ H' => Q .non H', rt := Q } (L2.start N vs) H := by
  obtain ⟨hl, φ, μ, as, R, r, h⟩ := h
  have ha : as.length = n := by rw [r.length]; exact hl
  refine ⟨φ, μ, _, R, start_env ha r, ?_⟩
  unfold Py.fnI at h
  rw [if_pos ha] at h
  cases q : body (as.map some ++ List.replicate (N.length - n) none) μ with
  | next ρ1 μ1 =>
    rw [q] at h
    exact fun φ' σ' H' l R' _ => leave_ok R.len l R' .non h
  | ret v μ1 =>
    rw [q] at h
    exact fun φ' H' u l R' r' => leave_ok R.len l R' r' h
  | exc x ρ1 μ1 =>
    rw [q] at h
    exact fun φ' σ' H' cls d l R' _ X => h φ' H' cls d l R' X
  | brk ρ1 μ1 => rw [q] at h; exact False.elim h
  | cont ρ1 μ1 => rw [q] at h; exact False.elim h
  | bad => rw [q] at h; exact False.elim h
section
variable {P : Program} {w : World} {K : PySem.W.Frag} {mg : Str → Option Value} {T : Tb} {base : Heap} {x : Str} {params : Arguments} {body : List Stmt} {scope : Scope} {f : Addr} {fd : FuncData} {N ps : List Str} {k : Nat} {cb : Sv}
theorem fn_at (F : FunD K x x params body scope [] [] f fd) (hmg : mg x = some (.ref f)) (S : FnScope N ps scope) (hb : Binds K fd ps [])
    (hbody : ∀ (cdv : Value) (A : Around) (outer : List Env) (s : Shared) (H : Hp) (E : XK), Room k (A.deeper (envOfC x scope s.heap.objs.size f cdv)) →
      PSs (cxOf (L2N.CX P w) P w K mg base N x scope f cdv A outer s H E) body (tS ⟨K, mg, T⟩ (fun cls d _ H => E cls d H) cb)) : FnAt P w K mg T base (k + 1) x ps.length (Py.fnI ps.length N.length cb) := by
  refine ⟨fun as μ h => by unfold Py.fnI; rw [if_neg h], f, fd, ps, hmg, F.kp, hb, rfl, ?_⟩
  refine F.ok S (fun vs H Q E h => h.1) (fun cdv A outer s H vs Q E hr h => ⟨_, hbody cdv A outer s H E hr, t_fn h⟩)
/-- no fuel -/
theorem fn_at0 (F : FunD K x x params body scope [] [] f fd) (hmg : mg x = some (.ref f)) (S : FnScope N ps scope) (hb : Binds K fd ps []) : FnAt P w K mg T base 1 x ps.length (fun _ _ => .bad) := by
  refine ⟨fun _ _ _ => rfl, f, fd, ps, hmg, F.kp, hb, rfl, ?_⟩
  refine F.ok (k := 0) S (fun vs H Q E h => h.1) (fun cdv A outer s H vs Q E hr h => ?_)
  obtain ⟨_, φ, μ, as, R, r, h⟩ := h
  exact False.elim h
end
section
variable {X : Cx} {T : Tb} {W : WX} {e : Expr} {es : List Expr} {cas : Av} {pos p : Pos} {x : Str} {k n : Nat} {F : Py.Fn}
theorem se_call (G : FnAt X.prog X.w X.K X.mg T X.base k x n F) (hr : Room k X.A) (tk : L2N.Takes X W) (hg : Gl X x) (ha : SA X T W (e :: es) cas)
    (hdb : (x == ("__debug__" : Str)) = false := by decide) (he : starEach (e :: es) X.env = (false, eval e X.env) :: starEach es X.env := by rfl) (hpl : (backTo pos (starEach es X.env)).any (·.1) = false := by rfl) :
    SE X T W (.Call (.Name x p) (e :: es) [] pos) (Py.opN F cas) := by
  obtain ⟨f, fd, ps, h1, h2, h3, h4, h5⟩ := G.ex
  refine (pe_callS (E := WE W) h5 hr hg h1 h2 h3 (fun σ => L2N.passAt tk σ) ha hdb he hpl).weak fun σ H Q ⟨φ, μ, ρ, R, E, h⟩ => ⟨φ, μ, ρ, R, E, (Post.bind h).imp ?_⟩
  rintro vs H1 ⟨φ1, μ1, as, l1, R1, rs, q1⟩
  refine ⟨?_, φ1, μ1, as, R1, rs, q1⟩
  rw [← rs.length]
  by_cases hl : as.length = n
  · exact hl
  · rw [G.ar as μ1 hl] at q1
    exact False.elim q1
theorem se_call0 (G : FnAt X.prog X.w X.K X.mg T X.base k x 0 F) (hr : Room k X.A) (tk : L2N.Takes X W) (hg : Gl X x) (hdb : (x == ("__debug__" : Str)) = false := by decide) : SE X T W (.Call (.Name x p) [] [] pos) (Py.opN F Py.nilI) := by
  obtain ⟨f, fd, ps, h1, h2, h3, h4, h5⟩ := G.ex
  refine ⟨fun pins s σ H Q I ⟨φ, μ, ρ, R, E, h⟩ => ?_⟩
  refine wpAny_Call_Name_kw (ld_glob I hg h1 ?_ hdb)
  exact PySem.W.callWith_K0 I.kIn h2 (run_fnS (us := []) (E := WE W) h5 hr h3 (L2N.passAt tk σ) I .nil ⟨rfl, φ, μ, [], R, .nil, h⟩)
end
end PyS

set_option Elab.async false
set_option linter.all false
set_option maxRecDepth 100000
set_option maxHeartbeats 2000000
/-! PyM: what changes: lists, items, attributes; own classes; raise. -/
namespace Py
/-- a list stands there -/
def isLst (μ : Mem) (v : PV) : Bool := match deref μ v with
  | .lst _ => true
  | _ => false
def methL (f : PV → List PV → M PV) (o : Ev) (as : Av) : Ev := fun ρ μ => (o ρ μ).bind fun x μ1 => if isLst μ1 x then (as ρ μ1).bind fun vs μ2 => f x vs μ2 else .bad
def onLst (g : List PV → List PV → Option (PV × List PV)) : PV → List PV → M PV := fun x vs μ => match x with
  | .mref n => match μ[n]? with
    | some (.lst xs) => match g xs vs with
      | some (v, ys) => .ok v (mset μ n (.lst ys))
      | none => .bad
    | _ => .bad
  | _ => .bad
def fAppend : PV → List PV → M PV := onLst fun xs vs => match vs with
  | [v] => if xs.length < line then some (.non, xs ++ [v]) else none
  | _ => none
def fPop : PV → List PV → M PV := onLst fun xs vs => match vs with
  | [] => match xs[xs.length - 1]? with
    | some y => some (y, xs.dropLast)
    | none => none
  | [.int i] => match ixN xs.length i with
    | some j => match xs[j]? with
      | some y => if xs.length ≤ line then some (y, xs.eraseIdx j) else none
      | none => none
    | none => none
  | _ => none

/-! ### attributes -/
def getF (f : String) : List (String × PV) → Option PV
  | [] => none
  | (g, v) :: r => if g = f then some v else getF f r
def setF (f : String) (v : PV) : List (String × PV) → List (String × PV)
  | [] => [(f, v)]
  | (g, w) :: r => if g = f then (g, v) :: r else (g, w) :: setF f v r
/-- x.f, x an instance of one of the classes cs -/
def fFld (cs : List String) (f : String) (x : PV) : M PV := fun μ => match x with
  | .mref n => match μ[n]? with
    | some (.ins c fs) => if c ∈ cs then (match getF f fs with
      | some v => .ok v μ
      | none => .bad) else .bad
    | _ => .bad
  | _ => .bad
def tgFld (cs : List String) (f : String) (o : Ev) : Tg := fun v ρ μ => (o ρ μ).bind fun x μ1 => match x with
  | .mref n => match μ1[n]? with
    | some (.ins c fs) => if c ∈ cs ∧ fs.length < 1000 then .ok ρ (mset μ1 n (.ins c (setF f v fs))) else .bad
    | _ => .bad
  | _ => .bad
/-- the class of x has its method m, and no attribute is called so -/
def methOf (tbl : List (String × Fn)) (m : String) (μ : Mem) (x : PV) : Option Fn := match x with
  | .mref n => match μ[n]? with
    | some (.ins c fs) => match getF m fs with
      | none => tbl.lookup c
      | some _ => none
    | _ => none
  | _ => none
def mcallI (tbl : List (String × Fn)) (m : String) (o : Ev) (as : Av) : Ev := fun ρ μ => (o ρ μ).bind fun x μ1 => match methOf tbl m μ1 x with
  | some F => (as ρ μ1).bind fun vs μ2 => F (x :: vs) μ2
  | none => .bad
/-- cls(as), F its __init__ -/
def fMake (cls : String) (F : Fn) : Fn := fun vs μ => (F (.mref μ.length :: vs) (μ ++ [.ins cls []])).bind fun v μ2 => match v with
  | .non => .ok (.mref μ.length) μ2
  | _ => .bad
end Py
namespace PyS
open PySem PySem.Spec PyProof.Rows L2
open Py (PV MO Mem Exc Res PEnv Ev Tv Av Ov Iv Tg Tgs Sv Out)

theorem ofS_inj {a b : String} (h : PySem.Str.ofString a = PySem.Str.ofString b) : a = b := by
  rw [Str.ofString_eq_toList, Str.ofString_eq_toList] at h
  have h1 : a.toList.map Char.toNat = b.toList.map Char.toNat := by simpa using h
  have h2 : a.toList = b.toList := (List.map_inj_right (fun x y e => Char.toNat_inj.mp e)).mp h1
  exact String.toList_inj.mp h2

/-! ### what may change is written -/
section
variable {C : Ctx} {φ φ' : Ph} {μ : Mem} {H : Hp} {a : Addr} {n : Nat} {o o' : MO} {u : HO}
theorem RO.nt {o : MO} {u : HO} (r : RO C φ H o u) : NT u := by
  cases r <;> intro _ z <;> cases z
theorem Le.write (h : φ.m[n]? = some a) (hu : H a ≠ none) (ht : NT u := by intro _ z; cases z) : Le φ φ H (L2.upd H a u) :=
  ⟨⟨[], by simp, by simp⟩, ⟨[], by simp, by simp⟩, fun b w e hn _ => by rw [upd_ne (fun z => by subst z; exact hn (List.mem_of_getElem? h))]; exact e, fun b ⟨w, hb, t⟩ => by
    by_cases q : b = a
    · rw [q]; exact ⟨u, upd_same, ht⟩
    · exact ⟨w, by rw [upd_ne q]; exact hb, t⟩⟩
theorem Rel.write (R : Rel C φ μ H) (h : φ.m[n]? = some a) (ro : RO C φ H o' u) : Rel C φ (Py.mset μ n o') (L2.upd H a u) := by
  have hm := List.mem_of_getElem? h
  have hne : H a ≠ none := R.tracked hm
  have l : Le φ φ H (L2.upd H a u) := Le.write h hne ro.nt
  refine ⟨by simp [Py.mset, R.len], R.nd, fun b hb => l.there b (R.bt b hb), R.sep, fun k b q h1 h2 => ?_, fun p hp => ?_⟩
  · by_cases hk : n = k
    · subst hk
      rw [h] at h1
      cases h1
      have hlt : n < μ.length := by rw [← R.len]; exact (List.getElem?_eq_some_iff.mp h).1
      unfold Py.mset at h2
      rw [List.getElem?_set_self hlt] at h2
      cases h2
      exact ⟨u, upd_same, ro.mono R l⟩
    · unfold Py.mset at h2
      rw [List.getElem?_set_ne hk] at h2
      obtain ⟨w, hw, rw'⟩ := R.obj k b q h1 h2
      have hba : b ≠ a := fun z => by
        subst z
        obtain ⟨a1, b1⟩ := List.getElem?_eq_some_iff.mp h
        obtain ⟨a2, b2⟩ := List.getElem?_eq_some_iff.mp h1
        exact hk ((List.getElem_inj R.nd).mp (b1.trans b2.symm))
      exact ⟨w, by rw [upd_ne hba]; exact hw, rw'.mono R l⟩
  · obtain ⟨v, hv, hk⟩ := R.kind hm
    obtain ⟨ps, h1, h2, h3⟩ := R.tabs p hp
    refine ⟨ps, by rw [upd_ne (fun z => by rw [z, hv] at h1; rcases hk with ⟨_, e⟩ | ⟨_, _, _, e⟩ <;> rw [e] at h1 <;> cases h1)]; exact h1, h2, fun q cv hc => ?_⟩
    obtain ⟨c, e1, e2⟩ := h3 q cv hc
    refine ⟨c, e1, ?_⟩
    rw [upd_ne (fun z => by
      rw [z, hv] at e2
      have := Option.some.inj e2
      unfold LamX.CodeO at this
      rcases hk with ⟨_, e⟩ | ⟨_, _, _, e⟩ <;> rw [e] at this <;> cases this)]
    exact e2
theorem Rel.lstAt (R : Rel C φ μ H) (h : φ.m[n]? = some a) {xs : List PV} (e : μ[n]? = some (.lst xs)) : ∃ ys, H a = some (.lst ys) ∧ RVs C φ H xs ys := by
  obtain ⟨u, hu, ro⟩ := R.obj n a _ h e
  cases ro with
  | lst r => exact ⟨_, hu, r⟩
theorem RVs.dropLast {xs : List PV} {ys : List V} (r : RVs C φ H xs ys) : RVs C φ H xs.dropLast ys.dropLast := by
  rw [List.dropLast_eq_take, List.dropLast_eq_take, ← r.length]
  exact r.take _
theorem RVs.erase : ∀ {xs : List PV} {ys : List V} (i : Nat), RVs C φ H xs ys → RVs C φ H (xs.eraseIdx i) (ys.eraseIdx i)
  | _, _, _, .nil => .nil
  | _, _, 0, .cons _ t => t
  | _, _, i + 1, .cons r t => .cons r (RVs.erase i t)
/-- f says what the method r asks -/
def LMR (C : Ctx) (r : V → List V → Hp → VK → Prop) (f : PV → List PV → Py.M PV) : Prop := ∀ ⦃φ μ H v x vs xs⦄ ⦃Q : VK⦄ ⦃E : Value → Option Addr → Hp → Prop⦄, Rel C φ μ H → RV C φ H v x → RVs C φ H vs xs → Post C (RV C) E φ H Q (f v vs μ) → r x xs H Q
theorem onLst_inv {g : List PV → List PV → Option (PV × List PV)} {v : PV} {x : V} {vs : List PV} {Q : VK} {E : Value → Option Addr → Hp → Prop} (R : Rel C φ μ H) (rx : RV C φ H v x) (h : Post C (RV C) E φ H Q (Py.onLst g v vs μ)) :
    ∃ a xs ys w zs, x = .ref a ∧ H a = some (.lst ys) ∧ RVs C φ H xs ys ∧ g xs vs = some (w, zs) ∧ ∀ us y, RVs C φ H zs us → RV C φ H w y → Q y (L2.upd H a (.lst us)) := by
  unfold Py.onLst at h
  cases rx with
  | @mref a n hn =>
    dsimp only at h
    cases q : μ[n]? with
    | none => rw [q] at h; exact False.elim h
    | some o =>
      rw [q] at h
      cases o with
      | lst xs =>
        dsimp only at h
        obtain ⟨ys, hy, r⟩ := R.lstAt hn q
        cases q2 : g xs vs with
        | none => rw [q2] at h; exact False.elim h
        | some p =>
          obtain ⟨w, zs⟩ := p
          rw [q2] at h
          refine ⟨a, xs, ys, w, zs, rfl, hy, r, q2, fun us y ru ry => ?_⟩
          have l : Le φ φ H (L2.upd H a (.lst us)) := Le.write hn (R.tracked (List.mem_of_getElem? hn))
          exact h φ _ y l (R.write hn (.lst ru)) (ry.mono R l)
      | ins _ _ => exact False.elim h
      | dct _ => exact False.elim h
  | _ => exact False.elim h
theorem l_append : LMR C rAppend Py.fAppend := by
  intro φ μ H v x vs xs Q E R rx rs h
  obtain ⟨a, ls, ys, w, zs, e, ha, r, hg, k⟩ := onLst_inv R rx h
  subst e
  match vs, rs, hg with
  | [y], .cons ry .nil, hg =>
    dsimp only at hg
    split at hg
    · rename_i hl
      cases hg
      exact ⟨a, ys, _, rfl, rfl, ha, by rw [← r.length, sizeLine_eq]; exact Nat.lt_of_lt_of_le hl (by decide), k _ _ (r.append (.cons ry .nil)) .non⟩
    · cases hg
  | [], _, hg => cases hg
  | _ :: _ :: _, _, hg => cases hg
theorem l_pop : LMR C (fun x xs H Q => rPop x xs H Q ∨ rPopAt x xs H Q) Py.fPop := by
  intro φ μ H v x vs xs Q E R rx rs h
  obtain ⟨a, ls, ys, w, zs, e, ha, r, hg, k⟩ := onLst_inv R rx h
  subst e
  match vs, rs, hg with
  | [], .nil, hg =>
    dsimp only at hg
    split at hg
    · rename_i y hy
      cases hg
      obtain ⟨z, hz, rz⟩ := r.get hy
      exact .inl ⟨a, ys, z, rfl, rfl, ha, by rw [← r.length]; exact hz, k _ _ r.dropLast rz⟩
    · cases hg
  | [.int i], .cons (.int _) .nil, hg =>
    dsimp only at hg
    split at hg
    · rename_i j hj
      split at hg
      · rename_i y hy
        split at hg
        · rename_i hl
          cases hg
          obtain ⟨z, hz, rz⟩ := r.get hy
          have hj' : L2.ixN ys.length i = some j := by rw [← r.length]; exact hj
          obtain ⟨h1, h2, h3, h4⟩ := ixN_seq hj'
          have hl2 : ys.length ≤ 16000000 := by rw [← r.length]; exact hl
          exact .inr ⟨a, ys, i, j, z, rfl, rfl, ha, by omega, by omega, h1, hz, k _ _ (r.erase j) rz⟩
        · cases hg
      · cases hg
    · cases hg
  | [.non], _, hg => cases hg
  | [.bl _], _, hg => cases hg
  | [.str _], _, hg => cases hg
  | [.tup _], _, hg => cases hg
  | [.lst _], _, hg => cases hg
  | [.mref _], _, hg => cases hg
  | [.glob _], _, hg => cases hg
  | [.exn _], _, hg => cases hg
  | [.scr _], _, hg => cases hg
  | u :: _ :: _, _, hg => cases u <;> cases hg
end

/-! ### attributes -/
section
variable {C : Ctx} {φ φ' : Ph} {μ : Mem} {H : Hp} {a : Addr} {n : Nat}
theorem RFs.getS {f : String} : ∀ {fs : List (String × PV)} {gs : List (Str × V)}, RFs C φ H fs gs → ∀ {v : PV}, Py.getF f fs = some v → ∃ u, gs.lookup (PySem.Str.ofString f) = some u ∧ RV C φ H v u
  | _, _, .nil, _, e => by cases e
  | _, _, .cons (f := g) (x := x) (y := y) r t, v, e => by
    unfold Py.getF at e
    by_cases h : g = f
    · rw [if_pos h] at e
      cases e
      subst h
      exact ⟨y, by simp [List.lookup], r⟩
    · rw [if_neg h] at e
      obtain ⟨u, h1, h2⟩ := RFs.getS t e
      refine ⟨u, ?_, h2⟩
      have : (PySem.Str.ofString f == PySem.Str.ofString g) = false := beq_eq_false_iff_ne.mpr fun z => h (ofS_inj z).symm
      simp only [List.lookup, this]
      exact h1
theorem RFs.getN {f : String} : ∀ {fs : List (String × PV)} {gs : List (Str × V)}, RFs C φ H fs gs → Py.getF f fs = none → gs.lookup (PySem.Str.ofString f) = none
  | _, _, .nil, _ => rfl
  | _, _, .cons (f := g) (x := x) (y := y) r t, e => by
    unfold Py.getF at e
    by_cases h : g = f
    · rw [if_pos h] at e; cases e
    · rw [if_neg h] at e
      have : (PySem.Str.ofString f == PySem.Str.ofString g) = false := beq_eq_false_iff_ne.mpr fun z => h (ofS_inj z).symm
      simp only [List.lookup, this]
      exact RFs.getN t e
theorem RFs.setF {f : String} {v : PV} {u : V} (q : RV C φ H v u) : ∀ {fs : List (String × PV)} {gs : List (Str × V)}, RFs C φ H fs gs → RFs C φ H (Py.setF f v fs) (putF (PySem.Str.ofString f) u gs)
  | _, _, .nil => .cons q .nil
  | _, _, .cons (f := g) (x := x) (y := y) r t => by
    unfold Py.setF putF
    by_cases h : g = f
    · rw [if_pos h, if_pos (by rw [h])]
      exact .cons q t
    · rw [if_neg h, if_neg (fun z => h (ofS_inj z))]
      exact .cons r (RFs.setF q t)
theorem RFs.length : ∀ {fs : List (String × PV)} {gs : List (Str × V)}, RFs C φ H fs gs → fs.length = gs.length
  | _, _, .nil => rfl
  | _, _, .cons _ t => by simp [RFs.length t]
theorem Rel.insAt (R : Rel C φ μ H) (h : φ.m[n]? = some a) {c : String} {fs : List (String × PV)} (e : μ[n]? = some (.ins c fs)) : ∃ A dx gs, C.mg (PySem.Str.ofString c) = some (.ref A) ∧ H a = some (.ins A dx gs) ∧ RFs C φ H fs gs := by
  obtain ⟨u, hu, ro⟩ := R.obj n a _ h e
  cases ro with
  | ins h1 h2 => exact ⟨_, _, _, h1, hu, h2⟩
end
/-- the class may have attributes of the name -/
structure ClsF (K : PySem.W.Frag) (mg : Str → Option Value) (c f : String) : Prop where
  ex : ∃ A, mg (PySem.Str.ofString c) = some (.ref A) ∧ Cls K A ∧ NoAttr K A (PySem.Str.ofString f)
section
variable {X : Cx} {T : Tb} {W : WX} {a b c e o i : Expr} {es : List Expr} {ca co ci : Ev} {cas : Av} {pos apos pos' : Pos} {own : Nat → Bool} {cs : List String} {f : String}

/-! ### methods of lists -/
theorem isLst_ty {C : Ctx} {φ : Ph} {μ : Mem} {H : Hp} {v : PV} {x : V} (R : Rel C φ μ H) (r : RV C φ H v x) (h : Py.isLst μ v = true) : tyV C.K "list" x H := by
  unfold Py.isLst Py.deref at h
  cases r with
  | lst h1 h2 h3 h4 => exact .inl ⟨rfl, _, .inl (.inl h1)⟩
  | @mref a n hn =>
    dsimp only at h
    cases q : μ[n]? with
    | none => rw [q] at h; cases h
    | some m =>
      rw [q] at h
      cases m with
      | lst xs =>
        obtain ⟨ys, hy, _⟩ := R.lstAt hn q
        exact .inl ⟨rfl, ys, .inl (.inl hy)⟩
      | ins _ _ => cases h
      | dct _ => cases h
  | _ => cases h
theorem t_methL {C : Ctx} {r : V → List V → Hp → VK → Prop} {f : PV → List PV → Py.M PV} (hf : LMR C r f) {σ : L2.St} {H : Hp} {Q : VK} (h : tE C W (Py.methL f co cas) σ H Q) : tBM C.K "list" r (tE C W co) (tA C W cas) σ H Q := by
  obtain ⟨φ, μ, ρ, R, E, h⟩ := h
  refine ⟨φ, μ, ρ, R, E, (Post.bind h).imp ?_⟩
  rintro x H1 ⟨φ1, μ1, v, l1, R1, rv, h1⟩
  by_cases hl : Py.isLst μ1 v = true
  · rw [if_pos hl] at h1
    refine ⟨isLst_ty R1 rv hl, φ1, μ1, ρ, R1, E.mono R l1, (Post.bind (P := RVs C) h1).imp ?_⟩
    rintro us H2 ⟨φ2, μ2, vs, l2, R2, rvs, h2⟩
    exact hf R2 (rv.mono R1 l2) rvs h2
  · rw [if_neg hl] at h1
    exact False.elim h1
theorem se_append {ta : Expr} (ho : SE X T W o co) (ha : SA X T W [ta] cas) (hbase : attributeBase o "append" X.env (eval o X.env) = eval o X.env := by rfl)
    (hfew : ((backTo pos (starEach [ta] X.env)).all (fun x => !x.1) && (backToKw pos (keywordEach [] X.env)).all (fun x => x.1.isSome) && decide ([ta].length + ([] : List Keyword).length + (if ([] : List Keyword).isEmpty then 0 else 1) < 30)) = true := by rfl)
    (hline : (apos.endLine == pos.line) = true := by rfl) (hs : starEach [ta] X.env = (false, eval ta X.env) :: starEach [] X.env := by rfl) (hplain : (backTo pos (starEach [] X.env)).any (·.1) = false := by rfl) :
    SE X T W (.Call (.Attribute o "append" apos) [ta] [] pos) (Py.methL Py.fAppend co cas) :=
  (pe_bm F.plainAttrs_list F.slot_list_append F.type_list_append mt_append ho ha hbase hfew hline hs hplain).weak fun _ _ _ h => t_methL l_append h
theorem mt_pops : MtR X "list.pop" (fun x xs H Q => rPop x xs H Q ∨ rPopAt x xs H Q) := MtR.or mt_pop mt_popAt
theorem se_pop1 {ta : Expr} (ho : SE X T W o co) (ha : SA X T W [ta] cas) (hbase : attributeBase o "pop" X.env (eval o X.env) = eval o X.env := by rfl)
    (hfew : ((backTo pos (starEach [ta] X.env)).all (fun x => !x.1) && (backToKw pos (keywordEach [] X.env)).all (fun x => x.1.isSome) && decide ([ta].length + ([] : List Keyword).length + (if ([] : List Keyword).isEmpty then 0 else 1) < 30)) = true := by rfl)
    (hline : (apos.endLine == pos.line) = true := by rfl) (hs : starEach [ta] X.env = (false, eval ta X.env) :: starEach [] X.env := by rfl) (hplain : (backTo pos (starEach [] X.env)).any (·.1) = false := by rfl) :
    SE X T W (.Call (.Attribute o "pop" apos) [ta] [] pos) (Py.methL Py.fPop co cas) :=
  (pe_bm F.plainAttrs_list F.slot_list_pop F.type_list_pop mt_pops ho ha hbase hfew hline hs hplain).weak fun _ _ _ h => t_methL l_pop h
theorem se_pop0 (ho : SE X T W o co) (hbase : attributeBase o "pop" X.env (eval o X.env) = eval o X.env := by rfl) (hline : (apos.endLine == pos.line) = true := by rfl) :
    SE X T W (.Call (.Attribute o "pop" apos) [] [] pos) (Py.methL Py.fPop co Py.nilI) :=
  (pe_bm0 F.plainAttrs_list F.slot_list_pop F.type_list_pop mt_pops ho hbase hline).weak fun σ H Q h => by
    obtain ⟨φ, μ, ρ, R, E, h⟩ := h
    refine ⟨φ, μ, ρ, R, E, (Post.bind h).imp ?_⟩
    rintro x H1 ⟨φ1, μ1, v, l1, R1, rv, h1⟩
    by_cases hl : Py.isLst μ1 v = true
    · rw [if_pos hl] at h1
      exact ⟨isLst_ty R1 rv hl, l_pop R1 rv .nil h1⟩
    · rw [if_neg hl] at h1
      exact False.elim h1

/-! ### x[i] = v -/
theorem sg_ix (ho : SE X T W0 o co) (hi : SE X T W0 i ci)
    (ha : ∀ v, assign (.Subscript o i pos) X.env v = (do
      let ov ← holding [v] (eval o X.env)
      let iv ← holding [v, ov] (eval i X.env)
      standAt pos
      holding [v, ov, iv] (setItem ov iv v)
      release [v, ov, iv] []) := by intro _; rfl) : SG X T own (.Subscript o i pos) (Py.tgIx co ci) :=
  (pg_sub ho hi set_list ha).weak fun u σ H Q ⟨φ, μ, ρ, v, R, E, r, h⟩ => by
    have h : PostG (cX X T) own φ H σ Q ((co ρ μ).bind fun x μ1 => (ci ρ μ1).bind fun k μ2 => _) := h
    refine ⟨φ, μ, ρ, R, E, ?_⟩
    cases q1 : co ρ μ with
    | exc _ _ => rw [q1] at h; exact False.elim h
    | bad => rw [q1] at h; exact False.elim h
    | ok x μ1 =>
      rw [q1] at h
      intro φ1 H1 y1 l1 R1 r1
      have h : PostG (cX X T) own φ H σ Q ((ci ρ μ1).bind fun k μ2 => _) := h
      refine ⟨φ1, μ1, ρ, R1, E.mono R l1, ?_⟩
      cases q2 : ci ρ μ1 with
      | exc _ _ => rw [q2] at h; exact False.elim h
      | bad => rw [q2] at h; exact False.elim h
      | ok k μ2 =>
        rw [q2] at h
        intro φ2 H2 y2 l2 R2 r2
        have r1' := r1.mono R1 l2
        cases r1' with
        | @mref p n hn =>
          cases r2 with
          | int j =>
            have h : PostG (cX X T) own φ H σ Q (match μ2[n]? with
              | some (.lst xs) => match Py.ixN xs.length j with
                | some m => .ok ρ (Py.mset μ2 n (.lst (xs.set m v)))
                | none => .bad
              | _ => .bad) := h
            cases q3 : μ2[n]? with
            | none => rw [q3] at h; exact False.elim h
            | some m =>
              rw [q3] at h
              cases m with
              | lst xs =>
                dsimp only at h
                cases q4 : Py.ixN xs.length j with
                | none => rw [q4] at h; exact False.elim h
                | some m =>
                  rw [q4] at h
                  obtain ⟨ys, hy, ry⟩ := R2.lstAt hn q3
                  refine ⟨p, ys, j, m, rfl, rfl, hy, by rw [← ry.length]; exact q4, ?_⟩
                  have l3 : Le φ2 φ2 H2 (L2.upd H2 p (.lst (ys.set m u))) := Le.write hn (R2.tracked (List.mem_of_getElem? hn))
                  have l12 := l1.trans l2
                  have rv := r.mono R l12
                  exact h φ2 σ _ (l12.trans l3) (R2.write hn (.lst (RVs.set rv m ry))) ((E.mono R l12).mono R2 l3) (Off.refl _ _)
              | ins _ _ => exact False.elim h
              | dct _ => exact False.elim h
          | _ => exact False.elim h
        | _ => exact False.elim h
end
end PyS

set_option Elab.async false
set_option linter.all false
set_option maxRecDepth 100000
set_option maxHeartbeats 2000000
/-! PyN: attributes, own classes, methods, raise, join. -/
namespace PyS
open PySem PySem.Spec PyProof.Rows L2
open Py (PV MO Mem Exc Res PEnv Ev Tv Av Ov Iv Tg Tgs Sv Out)
section
variable {X : Cx} {T : Tb} {W : WX} {a b c e o i : Expr} {es : List Expr} {ca co ci : Ev} {cas : Av} {pos apos pos' : Pos} {own : Nat → Bool} {cs : List String} {f : String}

/-! ### attributes -/
theorem se_fld (hc : ∀ c ∈ cs, ClsF X.K X.mg c f) (he : SE X T W e ca) (hb : attributeBase e (PySem.Str.ofString f) X.env (eval e X.env) = eval e X.env := by rfl) :
    SE X T W (.Attribute e (PySem.Str.ofString f) pos) (Py.op1 (Py.fFld cs f) ca) :=
  (pe_fld he hb).weak fun σ H Q ⟨φ, μ, ρ, R, E, h⟩ => ⟨φ, μ, ρ, R, E, (Post.bind h).imp fun u H1 ⟨φ1, μ1, v, l1, R1, rv, h1⟩ => by
    unfold Py.fFld at h1
    cases rv with
    | @mref p n hn =>
      dsimp only at h1
      cases q : μ1[n]? with
      | none => rw [q] at h1; exact False.elim h1
      | some m =>
        rw [q] at h1
        cases m with
        | ins c fs =>
          dsimp only at h1
          by_cases hm : c ∈ cs
          · rw [if_pos hm] at h1
            obtain ⟨A, dx, gs, hA, hH, rf⟩ := R1.insAt hn q
            obtain ⟨A', hA', cl, na⟩ := (hc c hm).ex
            have hA : X.mg (PySem.Str.ofString c) = some (.ref A) := hA
            rw [hA] at hA'
            cases hA'
            cases q2 : Py.getF f fs with
            | none => rw [q2] at h1; exact False.elim h1
            | some w =>
              rw [q2] at h1
              obtain ⟨u, hu, ru⟩ := rf.getS q2
              exact ⟨p, A, dx, gs, u, rfl, hH, cl, na, hu, Post.done h1 R1 ru⟩
          · rw [if_neg hm] at h1; exact False.elim h1
        | lst _ => exact False.elim h1
        | dct _ => exact False.elim h1
    | _ => exact False.elim h1⟩
/-- what is asked of a store to an attribute -/
theorem fld_store {C : Ctx} {φ : Ph} {μ : Mem} {H : Hp} {n : Nat} {p : Addr} {c : String} {fs : List (String × PV)} {v : PV} {u : V} (R : Rel C φ μ H) (hn : φ.m[n]? = some p) (q : μ[n]? = some (.ins c fs)) (rv : RV C φ H v u) :
    ∃ A dx gs, C.mg (PySem.Str.ofString c) = some (.ref A) ∧ H p = some (.ins A dx gs) ∧ gs.length = fs.length ∧ Le φ φ H (L2.upd H p (.ins A dx (putF (PySem.Str.ofString f) u gs))) ∧
      Rel C φ (Py.mset μ n (.ins c (Py.setF f v fs))) (L2.upd H p (.ins A dx (putF (PySem.Str.ofString f) u gs))) := by
  obtain ⟨A, dx, gs, hA, hH, rf⟩ := R.insAt hn q
  exact ⟨A, dx, gs, hA, hH, rf.length.symm, Le.write hn (R.tracked (List.mem_of_getElem? hn)), R.write hn (.ins hA (rf.setF rv))⟩
theorem sg_fld (hc : ∀ c ∈ cs, ClsF X.K X.mg c f) (ho : SE X T W0 o co) : SG X T own (.Attribute o (PySem.Str.ofString f) pos) (Py.tgFld cs f co) := by
  refine ⟨fun pins s σ H v u Q I r ⟨φ, μ, ρ, w, R, E, rw_, h⟩ => ?_⟩
  rw [assign_Attribute]
  have h : PostG (cX X T) own φ H σ Q ((co ρ μ).bind fun x μ1 => _) := h
  have h0 : tE (cX X T) W0 co σ H (fun x H1 => ∃ p A dx gs, x = .ref p ∧ H1 p = some (.ins A dx gs) ∧ Cls X.K A ∧ NoAttr X.K A (PySem.Str.ofString f) ∧ gs.length < 1000 ∧ Q σ (L2.upd H1 p (.ins A dx (putF (PySem.Str.ofString f) v gs)))) := by
    refine ⟨φ, μ, ρ, R, E, ?_⟩
    cases q1 : co ρ μ with
    | exc _ _ => rw [q1] at h; exact False.elim h
    | bad => rw [q1] at h; exact False.elim h
    | ok x μ1 =>
      rw [q1] at h
      intro φ1 H1 y1 l1 R1 r1
      cases r1 with
      | @mref p n hn =>
        have h : PostG (cX X T) own φ H σ Q (match μ1[n]? with
          | some (.ins c fs) => if c ∈ cs ∧ fs.length < 1000 then .ok ρ (Py.mset μ1 n (.ins c (Py.setF f w fs))) else .bad
          | _ => .bad) := h
        cases q : μ1[n]? with
        | none => rw [q] at h; exact False.elim h
        | some m =>
          rw [q] at h
          cases m with
          | ins c fs =>
            dsimp only at h
            by_cases hm : c ∈ cs ∧ fs.length < 1000
            · rw [if_pos hm] at h
              obtain ⟨A, dx, gs, hA, hH, hl, l2, R2⟩ := fld_store (f := f) R1 hn q (rw_.mono R l1)
              obtain ⟨A', hA', cl, na⟩ := (hc c hm.1).ex
              have hA : X.mg (PySem.Str.ofString c) = some (.ref A) := hA
              rw [hA] at hA'
              cases hA'
              exact ⟨p, A, dx, gs, rfl, hH, cl, na, by rw [hl]; exact hm.2, h φ1 σ _ (l1.trans l2) R2 ((E.mono R l1).mono R1 l2) (Off.refl _ _)⟩
            · rw [if_neg hm] at h; exact False.elim h
          | lst _ => exact False.elim h
          | dct _ => exact False.elim h
      | _ => exact False.elim h
  refine wpAny_bind (wpAny_holding (thn (ho.run pins s σ H _ I h0) fun ov s1 ⟨x, H1, I1, r1, p, A, dx, gs, ex, ea, cl, na, hl, q⟩ => ?_))
  subst ex
  obtain rfl : ov = Value.ref p := r1
  refine wpAny_bind (wpAny_standAt (wpAny_bind (wpAny_holding (setattr_ok I1 ea cl na hl r fun s2 I2 => ?_))))
  exact wpAny_release ⟨σ, _, I2, q⟩
theorem ss_fld (hc : ∀ c ∈ cs, ClsF X.K X.mg c f) (ho : SE X T W o co) (he : SE X T W e ca) (hs : swapsWith e (some (.Attribute o (PySem.Str.ofString f) pos')) pos.line X.env = pure false := by rfl) :
    SS X T W (.Assign [.Attribute o (PySem.Str.ofString f) pos'] e pos) (Py.asgS (Py.tgFld cs f co) ca) :=
  (ps_fld ho he hs).weak fun D σ H ⟨φ, μ, ρ, R, E, h⟩ => ⟨φ, μ, ρ, R, E, (PostS.lift R E h).imp fun u H1 ⟨φ1, μ1, v, l1, R1, rv, h1⟩ => by
    refine ⟨φ1, μ1, ρ, R1, E.mono R l1, ?_⟩
    unfold Py.tgFld at h1
    cases q1 : co ρ μ1 with
    | exc _ _ => rw [q1] at h1; exact False.elim h1
    | bad => rw [q1] at h1; exact False.elim h1
    | ok x μ2 =>
      rw [q1] at h1
      intro φ2 H2 y2 l2 R2 r2
      cases r2 with
      | @mref p n hn =>
        have h : PostS (cX X T) W φ1 H1 D (match (match μ2[n]? with
          | some (.ins c fs) => if c ∈ cs ∧ fs.length < 1000 then .ok ρ (Py.mset μ2 n (.ins c (Py.setF f v fs))) else .bad
          | _ => .bad : Res PEnv) with
          | .ok ρ2 μ2 => Out.next ρ2 μ2
          | _ => .bad) := h1
        cases q : μ2[n]? with
        | none => rw [q] at h; exact False.elim h
        | some m =>
          rw [q] at h
          cases m with
          | ins c fs =>
            dsimp only at h
            by_cases hm : c ∈ cs ∧ fs.length < 1000
            · rw [if_pos hm] at h
              obtain ⟨A, dx, gs, hA, hH, hl, l3, R3⟩ := fld_store (f := f) R2 hn q (rv.mono R1 l2)
              obtain ⟨A', hA', cl, na⟩ := (hc c hm.1).ex
              have hA : X.mg (PySem.Str.ofString c) = some (.ref A) := hA
              rw [hA] at hA'
              cases hA'
              exact ⟨p, A, dx, gs, rfl, hH, cl, na, by rw [hl]; exact hm.2, h φ2 σ _ (l2.trans l3) R3 (((E.mono R l1).mono R1 l2).mono R2 l3)⟩
            · rw [if_neg hm] at h; exact False.elim h
          | lst _ => exact False.elim h
          | dct _ => exact False.elim h
      | _ => exact False.elim h1⟩
end

/-! ### methods of own classes -/
/-- the method m of the class c, of n parameters (self among them), does what F says -/
structure MtAt (P : Program) (w : World) (K : PySem.W.Frag) (mg : Str → Option Value) (T : Tb) (base : Heap) (k : Nat) (c m : String) (n : Nat) (F : Py.Fn) : Prop where
  ar : ∀ as μ, as.length ≠ n → F as μ = .bad
  ex : ∃ A f fd ps, mg (PySem.Str.ofString c) = some (.ref A) ∧ Cls K A ∧ Meth K A (PySem.Str.ofString m) f ∧ Binds K fd ps [] ∧ ps.length = n ∧ FnOk P w K mg base (L2N.CX P w) k f fd ps (spF ⟨K, mg, T⟩ F n)
theorem MtAt.mono {P : Program} {w : World} {K : PySem.W.Frag} {mg : Str → Option Value} {T : Tb} {base : Heap} {k j : Nat} {c m : String} {n : Nat} {F : Py.Fn} (h : MtAt P w K mg T base k c m n F) (hj : k ≤ j) : MtAt P w K mg T base j c m n F := by
  obtain ⟨A, f, fd, ps, h1, h2, h3, h4, h5, h6⟩ := h.ex
  exact ⟨h.ar, A, f, fd, ps, h1, h2, h3, h4, h5, h6.mono hj⟩
section
variable {X : Cx} {CX : CXT} {k : Nat} {C : Addr} {ps : List Str} {x : Str} {p pos apos : Pos} {e o : Expr} {es : List Expr} {ta : TE} {t : TA} {T : Tb} {W : WX} {co : Ev} {cas : Av} {m : String} {n : Nat}
/-- one of several defs for the method, by the class -/
def tMethD (K : PySem.W.Frag) (m : Str) (P : Addr → Nat → Addr → FuncData → List Str → Sp → Prop) (ta : TE) (t : TA) (W : WX) : TE := fun σ H Q => ta σ H fun x H1 => ∃ a dx fs C k f fd ps sp, x = .ref a ∧ H1 a = some (.ins C dx fs) ∧ fs.lookup m = none ∧ Cls K C ∧ Meth K C m f ∧ Binds K fd ps [] ∧ P C k f fd ps sp ∧
  t σ H1 fun vs H2 => sp (x :: vs) H2 Q (WE W σ)
theorem pe_methD {m : Str} {pl : Sem Bool} {Pk : Addr → Nat → Addr → FuncData → List Str → Sp → Prop} (he : PE X o ta) (hF : ∀ C k' f fd ps sp, Pk C k' f fd ps sp → FnOk X.prog X.w X.K X.mg X.base (L2N.CX X.prog X.w) k f fd ps sp) (hr : Room k X.A) (tk : L2N.Takes X W) (ha : PA X (e :: es) t)
    (hst : starEach (e :: es) X.env = (false, eval e X.env) :: starEach es X.env := by rfl) (hpl : (backTo pos (starEach es X.env)).any (·.1) = false := by rfl)
    (ht : eval (.Call (.Attribute o m apos) (e :: es) [] pos) X.env = (do
      let ov ← eval o X.env
      standAt apos.atName
      let (f, first) ← holding [ov] (getMethod ov m pl)
      callWith pos f first (backTo pos (starEach (e :: es) X.env)) (backToKw pos (keywordEach [] X.env))) := by rfl) :
    PE X (.Call (.Attribute o m apos) (e :: es) [] pos) (tMethD X.K m Pk ta t W) := by
  refine ⟨fun pins s σ H Q I h => ?_⟩
  refine PySem.W.methodCall_KW (pl := pl) (thn (he.run pins s σ H _ I h) fun u s1 ⟨x, H1, I1, rx, a, dx, fs, C, k', f, fd, ps, sp, ex, ea, l, c, hm, hb, hp, q⟩ => ?_) ht
  subst ex
  obtain rfl : u = Value.ref a := rx
  refine getmeth_ok I1 ea c hm l ?_
  refine PySem.W.callWith_K (first := [.ref a]) (h₀ := X.base) I.ok.mod.kin hm.kp (thn (ha.run pos pins s1 σ H1 _ I1 q) fun us s2 ⟨vs, H2, I2, r, q2⟩ => ⟨I2.kIn, ?_⟩) hst hpl
  exact run_fnS (us := .ref a :: us) (vs := .ref a :: vs) (E := WE W) (hF _ _ _ _ _ _ hp) hr hb (L2N.passAt tk σ) I2 (.cons rfl r) q2
theorem pe_methD0 {m : Str} {pl : Sem Bool} {Pk : Addr → Nat → Addr → FuncData → List Str → Sp → Prop} (he : PE X o ta) (hF : ∀ C k' f fd ps sp, Pk C k' f fd ps sp → FnOk X.prog X.w X.K X.mg X.base (L2N.CX X.prog X.w) k f fd ps sp) (hr : Room k X.A) (tk : L2N.Takes X W)
    (ht : eval (.Call (.Attribute o m apos) [] [] pos) X.env = (do
      let ov ← eval o X.env
      standAt apos.atName
      let (f, first) ← holding [ov] (getMethod ov m pl)
      callWith pos f first (backTo pos (starEach [] X.env)) (backToKw pos (keywordEach [] X.env))) := by rfl) :
    PE X (.Call (.Attribute o m apos) [] [] pos) (tMethD X.K m Pk ta tNil W) := by
  refine ⟨fun pins s σ H Q I h => ?_⟩
  refine PySem.W.methodCall_KW (pl := pl) (thn (he.run pins s σ H _ I h) fun u s1 ⟨x, H1, I1, rx, a, dx, fs, C, k', f, fd, ps, sp, ex, ea, l, c, hm, hb, hp, q⟩ => ?_) ht
  subst ex
  obtain rfl : u = Value.ref a := rx
  refine getmeth_ok I1 ea c hm l ?_
  exact PySem.W.callWith_K0 (first := [.ref a]) I1.kIn hm.kp (run_fnS (us := [.ref a]) (vs := [.ref a]) (E := WE W) (hF _ _ _ _ _ _ hp) hr hb (L2N.passAt tk σ) I1 (.cons rfl .nil) q)
/-- the promise stands in the table -/
abbrev pkOf (X : Cx) (T : Tb) (k : Nat) (n : Nat) : Addr → Nat → Addr → FuncData → List Str → Sp → Prop := fun _ _ f fd ps sp => FnOk X.prog X.w X.K X.mg X.base (L2N.CX X.prog X.w) k f fd ps sp
theorem mem_lookS {α : Type} {c : String} {y : α} : ∀ {l : List (String × α)}, l.lookup c = some y → (c, y) ∈ l
  | [], h => by cases h
  | (d, z) :: r, h => by
    rw [List.lookup_cons] at h
    by_cases e : (c == d) = true
    · rw [e] at h
      cases h
      rw [beq_iff_eq.mp e]
      exact List.mem_cons_self
    · rw [Bool.not_eq_true] at e
      rw [e] at h
      exact List.mem_cons_of_mem _ (mem_lookS h)
theorem meth_at {C : Ctx} {tbl : List (String × Py.Fn)} {μ : Mem} {φ : Ph} {H : Hp} {v : PV} {x : V} {F : Py.Fn} (R : Rel C φ μ H) (rv : RV C φ H v x) (h : Py.methOf tbl m μ v = some F) :
    ∃ a A dx gs c, x = .ref a ∧ H a = some (.ins A dx gs) ∧ C.mg (PySem.Str.ofString c) = some (.ref A) ∧ gs.lookup (PySem.Str.ofString m) = none ∧ (c, F) ∈ tbl := by
  unfold Py.methOf at h
  cases rv with
  | @mref p n hn =>
    dsimp only at h
    cases q : μ[n]? with
    | none => rw [q] at h; cases h
    | some o =>
      rw [q] at h
      cases o with
      | ins c fs =>
        dsimp only at h
        cases q2 : Py.getF m fs with
        | some _ => rw [q2] at h; cases h
        | none =>
          rw [q2] at h
          obtain ⟨A, dx, gs, hA, hH, rf⟩ := R.insAt hn q
          exact ⟨p, A, dx, gs, c, rfl, hH, hA, rf.getN q2, mem_lookS h⟩
      | lst _ => cases h
      | dct _ => cases h
  | _ => cases h
theorem se_meth {tbl : List (String × Py.Fn)} {pl : Sem Bool} (ho : SE X T W o co) (G : ∀ q ∈ tbl, MtAt X.prog X.w X.K X.mg T X.base k q.1 m (n + 2) q.2) (hr : Room k X.A) (tk : L2N.Takes X W) (ha : SA X T W (e :: es) cas)
    (hst : starEach (e :: es) X.env = (false, eval e X.env) :: starEach es X.env := by rfl) (hpl : (backTo pos (starEach es X.env)).any (·.1) = false := by rfl)
    (ht : eval (.Call (.Attribute o (PySem.Str.ofString m) apos) (e :: es) [] pos) X.env = (do
      let ov ← eval o X.env
      standAt apos.atName
      let (f, first) ← holding [ov] (getMethod ov (PySem.Str.ofString m) pl)
      callWith pos f first (backTo pos (starEach (e :: es) X.env)) (backToKw pos (keywordEach [] X.env))) := by rfl) :
    SE X T W (.Call (.Attribute o (PySem.Str.ofString m) apos) (e :: es) [] pos) (Py.mcallI tbl m co cas) := by
  refine (pe_methD (pl := pl) (Pk := pkOf X T k n) ho (fun _ _ _ _ _ _ h => h) hr tk ha hst hpl ht).weak fun σ H Q ⟨φ, μ, ρ, R, E, h⟩ => ⟨φ, μ, ρ, R, E, (Post.bind h).imp ?_⟩
  rintro x H1 ⟨φ1, μ1, v, l1, R1, rv, h1⟩
  cases q : Py.methOf tbl m μ1 v with
  | none => rw [q] at h1; exact False.elim h1
  | some F =>
    rw [q] at h1
    obtain ⟨a, A, dx, gs, c, ex, hH, hA, hl, hm⟩ := meth_at R1 rv q
    obtain ⟨A', f, fd, ps, g1, g2, g3, g4, g5, g6⟩ := (G _ hm).ex
    have hA : X.mg (PySem.Str.ofString c) = some (.ref A) := hA
    rw [hA] at g1
    cases g1
    refine ⟨a, dx, gs, A, k, f, fd, ps, _, ex, hH, hl, g2, g3, g4, g6, φ1, μ1, ρ, R1, E.mono R l1, (Post.bind (P := RVs (cX X T)) h1).imp ?_⟩
    rintro us H2 ⟨φ2, μ2, vs, l2, R2, rvs, h2⟩
    refine ⟨?_, φ2, μ2, v :: vs, R2, .cons (rv.mono R1 l2) rvs, h2⟩
    by_cases hn : (v :: vs).length = n + 2
    · rw [List.length_cons, ← rvs.length]
      exact hn
    · have z := (G _ hm).ar (v :: vs) μ2 hn
      dsimp only at z
      rw [z] at h2
      exact False.elim h2
theorem se_meth0 {tbl : List (String × Py.Fn)} {pl : Sem Bool} (ho : SE X T W o co) (G : ∀ q ∈ tbl, MtAt X.prog X.w X.K X.mg T X.base k q.1 m 1 q.2) (hr : Room k X.A) (tk : L2N.Takes X W)
    (ht : eval (.Call (.Attribute o (PySem.Str.ofString m) apos) [] [] pos) X.env = (do
      let ov ← eval o X.env
      standAt apos.atName
      let (f, first) ← holding [ov] (getMethod ov (PySem.Str.ofString m) pl)
      callWith pos f first (backTo pos (starEach [] X.env)) (backToKw pos (keywordEach [] X.env))) := by rfl) :
    SE X T W (.Call (.Attribute o (PySem.Str.ofString m) apos) [] [] pos) (Py.mcallI tbl m co Py.nilI) := by
  refine (pe_methD0 (pl := pl) (Pk := pkOf X T k 0) ho (fun _ _ _ _ _ _ h => h) hr tk ht).weak fun σ H Q ⟨φ, μ, ρ, R, E, h⟩ => ⟨φ, μ, ρ, R, E, (Post.bind h).imp ?_⟩
  rintro x H1 ⟨φ1, μ1, v, l1, R1, rv, h1⟩
  cases q : Py.methOf tbl m μ1 v with
  | none => rw [q] at h1; exact False.elim h1
  | some F =>
    rw [q] at h1
    obtain ⟨a, A, dx, gs, c, ex, hH, hA, hl, hm⟩ := meth_at R1 rv q
    obtain ⟨A', f, fd, ps, g1, g2, g3, g4, g5, g6⟩ := (G _ hm).ex
    have hA : X.mg (PySem.Str.ofString c) = some (.ref A) := hA
    rw [hA] at g1
    cases g1
    exact ⟨a, dx, gs, A, k, f, fd, ps, _, ex, hH, hl, g2, g3, g4, g6, rfl, φ1, μ1, [v], R1, .cons rv .nil, h1⟩
end

section
variable {P : Program} {w : World} {K : PySem.W.Frag} {mg : Str → Option Value} {T : Tb} {base : Heap} {c m : String} {q : Str} {params : Arguments} {body : List Stmt} {scope : Scope} {A f : Addr} {fd : FuncData} {N ps : List Str} {k : Nat} {cb : Sv}
theorem mt_at (F : FunD K (PySem.Str.ofString m) q params body scope [] [] f fd) (hmg : mg (PySem.Str.ofString c) = some (.ref A)) (hc : Cls K A) (hm : Meth K A (PySem.Str.ofString m) f) (S : FnScope N ps scope) (hb : Binds K fd ps [])
    (hbody : ∀ (cdv : Value) (A : Around) (outer : List Env) (s : Shared) (H : Hp) (E : XK), Room k (A.deeper (envOfC q scope s.heap.objs.size f cdv)) →
      PSs (cxOf (L2N.CX P w) P w K mg base N q scope f cdv A outer s H E) body (tS ⟨K, mg, T⟩ (fun cls d _ H => E cls d H) cb)) : MtAt P w K mg T base (k + 1) c m ps.length (Py.fnI ps.length N.length cb) := by
  refine ⟨fun as μ h => by unfold Py.fnI; rw [if_neg h], A, f, fd, ps, hmg, hc, hm, hb, rfl, ?_⟩
  refine F.ok S (fun vs H Q E h => h.1) (fun cdv A outer s H vs Q E hr h => ⟨_, hbody cdv A outer s H E hr, t_fn h⟩)
end

/-! ### an instance is made -/
structure MkAt (P : Program) (w : World) (K : PySem.W.Frag) (mg : Str → Option Value) (T : Tb) (base : Heap) (k : Nat) (c : String) (n : Nat) (F : Py.Fn) : Prop where
  ar : ∀ as μ, as.length ≠ n → F as μ = .bad
  ex : ∃ A f fd ps, mg (PySem.Str.ofString c) = some (.ref A) ∧ Mk K A f ∧ Binds K fd ps [] ∧ ps.length = n ∧ FnOk P w K mg base (L2N.CX P w) k f fd ps (spF ⟨K, mg, T⟩ F n)
section
variable {X : Cx} {k : Nat} {C f : Addr} {fd : FuncData} {ps : List Str} {sp : Sp} {x : Str} {p pos : Pos} {e : Expr} {es : List Expr} {t : TA} {T : Tb} {W : WX} {cas : Av} {c : String} {n : Nat} {F : Py.Fn}
theorem run_makeS {pins : List (Addr × Obj)} {σ : L2.St} {H : Hp} {s : Shared} {Q : VK} {us : List Value} {vs : List V} (M : Mk X.K C f) (F : FnOk X.prog X.w X.K X.mg X.base (L2N.CX X.prog X.w) k f fd ps sp) (hr : Room (k + 1) X.A) (hb : Binds X.K fd ps [])
    (tk : L2N.Takes X W) (I : Inv X pins σ H s) (r : Vals vs us)
    (h : ∀ x dx, H x = none → H dx = none → dx ≠ x → sp (.ref x :: vs) (upd (upd H dx (.own x)) x (.ins C dx [])) (fun v H2 => v = .non ∧ Q (.ref x) H2) (WE W σ)) :
    wpAny (model X.prog X.w) X.A (call (.ref C) us) (EP X pins σ Q) X.xe s := by
  have hq := h (s.heap.objs.size + 1) s.heap.objs.size (I.hok.fresh (Nat.le_succ _)) (I.hok.fresh (Nat.le_refl _)) (Nat.ne_of_lt (Nat.lt_succ_self _))
  have I2 := Inv.made (C := C) I
  have r2 : Vals (V.ref (s.heap.objs.size + 1) :: vs) (Value.ref (s.heap.objs.size + 1) :: us) := .cons rfl r
  have hl : (Value.ref (s.heap.objs.size + 1) :: us ++ []).length = ps.length := by
    have e := r2.length
    rw [F.len _ _ _ _ hq] at e
    rw [List.append_nil]
    exact e.symm
  have hb' := hb _ (Value.ref (s.heap.objs.size + 1) :: us) I2.kIn hl
  rw [List.append_nil] at hb'
  refine wpAny_call (make_map (f := f) I.kIn M.makes M.init (beq_iff_eq.mp M.fn) (codeAny_mono (F.run _ X.stack _ _ ⟨Value.ref (s.heap.objs.size + 1) :: us, []⟩ (Value.ref (s.heap.objs.size + 1) :: us) _ _ (WE W σ) (hr.make C us [])
    (I2.env0.make C us []) hb' r2 hq) fun r s' hq' => ?_))
  cases r with
  | error e => exact L2N.passAt tk σ pins _ _ e s' I2 hq'
  | ok fl =>
    cases fl with
    | ret u =>
      obtain ⟨v, H', I3, rv, ev, q3⟩ := I2.after hq'
      subst ev
      exact ⟨rv, ⟨V.ref (s.heap.objs.size + 1), H', I3, rfl, q3⟩⟩
    | next => exact False.elim hq'
    | brk => exact False.elim hq'
    | cont => exact False.elim hq'
/-- what comes of the making -/
theorem make_post {C' : Ctx} {E : Value → Option Addr → Hp → Prop} {φ : Ph} {μ : Mem} {H : Hp} {Q : VK} {as : List PV} {vs : List V} (har : ∀ as μ, as.length ≠ n + 1 → F as μ = .bad) (hA : C'.mg (PySem.Str.ofString c) = some (.ref C)) (R : Rel C' φ μ H) (r : RVs C' φ H as vs)
    (h : Post C' (RV C') E φ H Q (Py.fMake c F as μ)) (x dx : Addr) (hx : H x = none) (hd : H dx = none) (hne : dx ≠ x) :
    spF C' F (n + 1) (.ref x :: vs) (upd (upd H dx (.own x)) x (.ins C dx [])) (fun v H2 => v = .non ∧ Q (.ref x) H2) E := by
  have l1 : Le φ φ H (upd H dx (.own x)) := Le.fresh hd
  have R1 : Rel C' φ μ (upd H dx (.own x)) := R.fresh hd
  have hx1 : upd H dx (.own x) x = none := by rw [upd_ne (Ne.symm hne)]; exact hx
  have l2 : Le φ (φ.add x) (upd H dx (.own x)) (upd (upd H dx (.own x)) x (.ins C dx [])) := Le.made hx1
  have R2 : Rel C' (φ.add x) (μ ++ [.ins c []]) (upd (upd H dx (.own x)) x (.ins C dx [])) := R1.made hx1 (.ins hA .nil)
  have l12 := l1.trans l2
  have rx : RV C' (φ.add x) (upd (upd H dx (.own x)) x (.ins C dx [])) (.mref μ.length) (.ref x) := .mref (by rw [← R.len]; simp)
  unfold Py.fMake at h
  have h2 : Post C' (RV C') E (φ.add x) (upd (upd H dx (.own x)) x (.ins C dx [])) (fun v H2 => v = .non ∧ Q (.ref x) H2) (F (.mref μ.length :: as) (μ ++ [.ins c []])) := by
    have h3 := Post.world l12 h
    cases q : F (.mref μ.length :: as) (μ ++ [.ins c []]) with
    | exc _ _ => rw [q] at h3; exact h3
    | bad => rw [q] at h3; exact h3
    | ok v μ2 =>
      rw [q] at h3
      intro φ' H' u l R' r'
      cases r' with
      | non => exact ⟨rfl, h3 φ' H' _ l R' (rx.mono R2 l)⟩
      | _ => exact False.elim h3
  refine ⟨?_, _, _, _, R2, .cons rx (r.mono R l12), h2⟩
  by_cases hn : ((PV.mref μ.length) :: as).length = n + 1
  · rw [List.length_cons, ← r.length]
    exact hn
  · rw [har _ _ hn] at h2
    exact False.elim h2
theorem se_make0 (G : MkAt X.prog X.w X.K X.mg T X.base k c 1 F) (hr : Room (k + 1) X.A) (tk : L2N.Takes X W) (hg : Gl X (PySem.Str.ofString c))
    (hdb : (PySem.Str.ofString c == ("__debug__" : Str)) = false := by decide) : SE X T W (.Call (.Name (PySem.Str.ofString c) p) [] [] pos) (Py.opN (Py.fMake c F) Py.nilI) := by
  obtain ⟨A, f, fd, ps, g1, g2, g3, g4, g5⟩ := G.ex
  refine ⟨fun pins s σ H Q I ⟨φ, μ, ρ, R, E, h⟩ => ?_⟩
  refine wpAny_Call_Name_kw (ld_glob I hg g1 ?_ hdb)
  exact PySem.W.callWith_K0 I.kIn g2.kp (run_makeS (us := []) (vs := []) g2 g5 hr g3 tk I .nil fun x dx hx hd hne => make_post (n := 0) G.ar g1 R .nil h x dx hx hd hne)
theorem se_make (G : MkAt X.prog X.w X.K X.mg T X.base k c (n + 1) F) (hr : Room (k + 1) X.A) (tk : L2N.Takes X W) (hg : Gl X (PySem.Str.ofString c)) (ha : SA X T W (e :: es) cas)
    (hdb : (PySem.Str.ofString c == ("__debug__" : Str)) = false := by decide) (he : starEach (e :: es) X.env = (false, eval e X.env) :: starEach es X.env := by rfl) (hpl : (backTo pos (starEach es X.env)).any (·.1) = false := by rfl) :
    SE X T W (.Call (.Name (PySem.Str.ofString c) p) (e :: es) [] pos) (Py.opN (Py.fMake c F) cas) := by
  obtain ⟨A, f, fd, ps, g1, g2, g3, g4, g5⟩ := G.ex
  refine ⟨fun pins s σ H Q I ⟨φ, μ, ρ, R, E, h⟩ => ?_⟩
  refine wpAny_Call_Name_kw (ld_glob I hg g1 ?_ hdb)
  have h0 : tA (cX X T) W cas σ H (fun vs H1 => ∀ x dx, H1 x = none → H1 dx = none → dx ≠ x → spF (cX X T) F (n + 1) (.ref x :: vs) (upd (upd H1 dx (.own x)) x (.ins A dx [])) (fun v H2 => v = .non ∧ Q (.ref x) H2) (WE W σ)) :=
    ⟨φ, μ, ρ, R, E, (Post.bind h).imp fun us H1 ⟨φ1, μ1, vs, l1, R1, rv, h1⟩ x dx hx hd hne => make_post G.ar g1 R1 rv h1 x dx hx hd hne⟩
  refine PySem.W.callWith_K (h₀ := X.base) I.ok.mod.kin g2.kp (thn (ha.run pos pins s σ H _ I h0) fun us s1 ⟨vs, H1, I1, r, q⟩ => ⟨I1.kIn, ?_⟩) he hpl
  exact run_makeS g2 g5 hr g3 tk I1 r q
end
section
variable {P : Program} {w : World} {K : PySem.W.Frag} {mg : Str → Option Value} {T : Tb} {base : Heap} {c : String} {q : Str} {params : Arguments} {body : List Stmt} {scope : Scope} {A f : Addr} {fd : FuncData} {N ps : List Str} {k : Nat} {cb : Sv}
theorem mk_at (F : FunD K "__init__" q params body scope [] [] f fd) (hmg : mg (PySem.Str.ofString c) = some (.ref A)) (hm : Mk K A f) (S : FnScope N ps scope) (hb : Binds K fd ps [])
    (hbody : ∀ (cdv : Value) (A : Around) (outer : List Env) (s : Shared) (H : Hp) (E : XK), Room k (A.deeper (envOfC q scope s.heap.objs.size f cdv)) →
      PSs (cxOf (L2N.CX P w) P w K mg base N q scope f cdv A outer s H E) body (tS ⟨K, mg, T⟩ (fun cls d _ H => E cls d H) cb)) : MkAt P w K mg T base (k + 1) c ps.length (Py.fnI ps.length N.length cb) := by
  refine ⟨fun as μ h => by unfold Py.fnI; rw [if_neg h], A, f, fd, ps, hmg, hm, hb, rfl, ?_⟩
  refine F.ok S (fun vs H Q E h => h.1) (fun cdv A outer s H vs Q E hr h => ⟨_, hbody cdv A outer s H E hr, t_fn h⟩)
end

/-! ### raise -/
/-- an own error class without __init__ of its own, made with a text -/
structure ErrAt (K : PySem.W.Frag) (mg : Str → Option Value) (c : String) : Prop where
  ex : ∃ A bmB newId initId B, mg (PySem.Str.ofString c) = some (.ref A) ∧ ExcBaseFacts B newId initId bmB ∧ PySem.W.excIn K A bmB newId = true ∧ PySem.W.keepIn K (.ref A) = true ∧ PySem.W.subIn K (.ref A) (.type "BaseException") = some true ∧ PySem.W.typeIn K (.ref A) = some (.type "type")
section
variable {X : Cx} {T : Tb} {W : WX} {c : String} {p p2 p3 pos : Pos} {m : Str} {j : Nat}
theorem ss_raise (hc : X.calm = true) (tk : L2N.Takes X W) (G : ErrAt X.K X.mg c) (hg : Gl X (PySem.Str.ofString c)) (hdb : (PySem.Str.ofString c == ("__debug__" : Str)) = false := by decide) :
    SS X T W (.Raise (some (.Call (.Name (PySem.Str.ofString c) p) [.Constant (.str m) j p2] [] p3)) none pos) (Py.raiseS ⟨c, []⟩) := by
  obtain ⟨A, bmB, newId, initId, B, g1, g2, g3, g4, g5, g6⟩ := G.ex
  exact (L2N.ps_raise hc tk (L2N.pmk_own g2 g3 g1 g4 (raises_own g5 g6) hg hdb)).weak fun D σ H ⟨φ, μ, ρ, R, E, h⟩ => h φ σ H _ _ (Le.refl _ _) R E ⟨⟨A, g1, rfl⟩, .inl ⟨rfl, rfl⟩⟩
end
end PyS

set_option Elab.async false
set_option linter.all false
set_option maxRecDepth 100000
set_option maxHeartbeats 2000000
/-! PyO: a list made from pairs while an exception is handled. -/
namespace PyS
open PySem PySem.Spec PyProof.Rows L2 HotX L2H
section
variable {prog : Program} {w : World} {A : Around} {E : Value → Shared → Prop} {s : Shared}
theorem stop_hot {x1 : Addr} {Q : Option Value → Shared → Prop} {Q0 : Unit → Shared → Prop} : True := trivial
theorem next_list_end_hot {it l x1 : Addr} {i : Nat} {items} {Q : Option Value → Shared → Prop} (hot : HotAt A x1 s.heap) (hit : s.heap.IsListIter it l i) (hl : s.heap.IsList l items) (hx : items[i]? = none) (hne : x1 ≠ it)
    (hQ : ∀ h', Heap.ExtBut it s.heap h' → Q none { s with heap := h' }) : wpAny (model prog w) A (pyNext (.ref it)) Q E s := by
  obtain ⟨o, ho, hc, hd⟩ := id hit
  obtain ⟨ol, hol, _, nl, hdl⟩ := hl
  obtain ⟨hh, o1, vs1, h1, d1, c1⟩ := hot
  unfold pyNext
  refine wpAny_bind (wpAny_attempt (wpAny_callSpecial?_slot (name := Str.ofString "__next__") hit.typeIs slot_listiter_next
    (wpAny_call_entry slot_listiter_next hit.typeIs entry_listiter_next ?_ (args_listiter_next _))))
  show wpAny _ _ (field (.ref it) 0 >>= _) _ _ s
  refine wpAny_bind (wpAny_field ho hd (x := .ref l) rfl ?_)
  show wpAny _ _ (if (Value.ref l == Value.none) = true then _ else _) _ _ s
  rw [if_neg (show ¬ ((Value.ref l == Value.none) = true) from Bool.false_ne_true)]
  show wpAny _ _ (field (.ref it) 1 >>= _) _ _ s
  refine wpAny_bind (wpAny_field ho hd (x := .int i 0) rfl ?_)
  show wpAny _ _ (seqItems? (.ref l) >>= _) _ _ s
  refine wpAny_bind (wpAny_seqItems hol hdl ?_)
  simp only [Int.toNat_natCast, hx]
  refine wpAny_bind (wpAny_rule (wpAny_bind (wpAny_setField ho hd (by simp) ?_)))
  have k0 : ∀ b o', b ≠ it → s.heap.get? b = some o' → (s.heap.update it (Obj.mapFields (·.setIfInBounds 0 .none))).get? b = some o' := fun b o' hb e => (Heap.get?_update_other _ _ (Ne.symm hb)).trans e
  show wpAny _ _ (newExc (.type "StopIteration") [] >>= _) _ _ _
  refine wpAny_bind ?_
  simp only [newExc, newTuple]
  refine wpAny_bind (wpAny_newObj_type ?_ (by size_fits))
  refine wpAny_bind (m := firstArgMember _ _) (wpAny_of_eq (a := Value.none) (by first | rfl | (simp only [firstArgMember]; rfl)) ?_)
  refine wpAny_newObj_type ?_ (by size_fits)
  refine raiseNew_hot ⟨hh, o1, vs1, Heap.get?_push_of_some _ (Heap.get?_push_of_some _ (k0 _ _ hne h1)), d1, c1⟩ (Nat.ne_of_lt (Heap.lt_size (Heap.get?_push_of_some _ (k0 _ _ hne h1)))) (Heap.get?_push_size _ rfl) rfl (by first | (simp; done) | (simp; omega) | (simp only [Array.size_append]; simp; omega)) ?_
  refine wpAny_bind (wpAny_isInstance (T := "StopIteration") (b := true) ⟨_, Heap.get?_update_self _ (Heap.get?_push_size _ rfl) rfl, rfl⟩ isSubtype_stop ?_)
  refine wpAny_pure (hQ _ fun b o' hb e => ?_)
  have e1 := Heap.get?_push_of_some { cls := Value.type "tuple", data := Data.seq #[] } (k0 b o' hb e)
  rw [Heap.get?_update_other _ _ (Nat.ne_of_gt (Heap.lt_size e1))]
  exact Heap.get?_push_of_some _ e1
theorem next_tuple_end_hot {it t x1 : Addr} {i : Nat} {items} {Q : Option Value → Shared → Prop} (hot : HotAt A x1 s.heap) (hit : IsTupIter s.heap it t i) (ht : IsTup s.heap t items) (hx : items[i]? = none) (hne : x1 ≠ it)
    (hQ : ∀ h', Heap.ExtBut it s.heap h' → Q none { s with heap := h' }) : wpAny (model prog w) A (pyNext (.ref it)) Q E s := by
  obtain ⟨o, ho, hc, hd⟩ := id hit
  obtain ⟨ol, hol, _, nl, hdl⟩ := ht
  obtain ⟨hh, o1, vs1, h1, d1, c1⟩ := hot
  unfold pyNext
  refine wpAny_bind (wpAny_attempt (wpAny_callSpecial?_slot (name := Str.ofString "__next__") hit.typeIs slot_tupleiter_next
    (wpAny_call_entry slot_tupleiter_next hit.typeIs entry_tupleiter_next ?_ (args_tupleiter_next _))))
  show wpAny _ _ (field (.ref it) 0 >>= _) _ _ s
  refine wpAny_bind (wpAny_field ho hd (x := .ref t) rfl ?_)
  show wpAny _ _ (if (Value.ref t == Value.none) = true then _ else _) _ _ s
  rw [if_neg (show ¬ ((Value.ref t == Value.none) = true) from Bool.false_ne_true)]
  show wpAny _ _ (field (.ref it) 1 >>= _) _ _ s
  refine wpAny_bind (wpAny_field ho hd (x := .int i 0) rfl ?_)
  show wpAny _ _ (seqItems? (.ref t) >>= _) _ _ s
  refine wpAny_bind (wpAny_seqItems hol hdl ?_)
  simp only [Int.toNat_natCast, hx]
  refine wpAny_bind (wpAny_rule (wpAny_bind (wpAny_setField ho hd (by simp) ?_)))
  have k0 : ∀ b o', b ≠ it → s.heap.get? b = some o' → (s.heap.update it (Obj.mapFields (·.setIfInBounds 0 .none))).get? b = some o' := fun b o' hb e => (Heap.get?_update_other _ _ (Ne.symm hb)).trans e
  show wpAny _ _ (newExc (.type "StopIteration") [] >>= _) _ _ _
  refine wpAny_bind ?_
  simp only [newExc, newTuple]
  refine wpAny_bind (wpAny_newObj_type ?_ (by size_fits))
  refine wpAny_bind (m := firstArgMember _ _) (wpAny_of_eq (a := Value.none) (by first | rfl | (simp only [firstArgMember]; rfl)) ?_)
  refine wpAny_newObj_type ?_ (by size_fits)
  refine raiseNew_hot ⟨hh, o1, vs1, Heap.get?_push_of_some _ (Heap.get?_push_of_some _ (k0 _ _ hne h1)), d1, c1⟩ (Nat.ne_of_lt (Heap.lt_size (Heap.get?_push_of_some _ (k0 _ _ hne h1)))) (Heap.get?_push_size _ rfl) rfl (by first | (simp; done) | (simp; omega) | (simp only [Array.size_append]; simp; omega)) ?_
  refine wpAny_bind (wpAny_isInstance (T := "StopIteration") (b := true) ⟨_, Heap.get?_update_self _ (Heap.get?_push_size _ rfl) rfl, rfl⟩ isSubtype_stop ?_)
  refine wpAny_pure (hQ _ fun b o' hb e => ?_)
  have e1 := Heap.get?_push_of_some { cls := Value.type "tuple", data := Data.seq #[] } (k0 b o' hb e)
  rw [Heap.get?_update_other _ _ (Nat.ne_of_gt (Heap.lt_size e1))]
  exact Heap.get?_push_of_some _ e1
theorem unpackItems_tupleH {t x1 : Addr} {items : Array Value} {Q : List Value → Shared → Prop} (hot : HotAt A x1 s.heap) (ht : IsTup s.heap t items)
    (hQ : ∀ h', Heap.ExtBut s.heap.objs.size s.heap h' → Q items.toList { s with heap := h' }) : wpAny (model prog w) A (unpackItems (.ref t) items.size none) Q E s := by
  have hlt : t ≠ s.heap.objs.size := by obtain ⟨o, ho, _⟩ := ht; exact Nat.ne_of_lt (Heap.lt_size ho)
  obtain ⟨hh, o1, vs1, h1, d1, c1⟩ := hot
  unfold unpackItems
  refine wpAny_bind ?_
  · unfold notIterableAtAll
    refine wpAny_bind (wpAny_specialOf ht.typeIs slot_tuple_iter.lookup ?_)
    refine wpAny_pure ?_
    simp only [Bool.false_eq_true, if_false]
    refine wpAny_bind (wpAny_holding (iter_tuple ht ?_))
    refine wpAny_bind (wpAny_holding (draw_tuple hlt items.size 0 _ _ ⟨_, Heap.get?_push_size _ rfl, rfl, rfl⟩ (ht.push _) (by omega) fun h₁ hit₁ hs₁ => ?_))
    have hall : List.take items.size (List.drop 0 items.toList) = items.toList := by
      rw [List.drop_zero]; exact List.take_of_length_le (by simp)
    rw [hall]
    rw [if_neg (by simp)]
    have ht₁ : IsTup h₁ t items := (ht.push _).extBut hs₁.extBut hlt
    have n1 : x1 ≠ s.heap.objs.size := Nat.ne_of_lt (Heap.lt_size h1)
    refine wpAny_bind (wpAny_holding (next_tuple_end_hot ⟨hh, o1, vs1, hs₁.extBut x1 o1 n1 (Heap.get?_push_of_some _ h1), d1, c1⟩ hit₁ ht₁ (by simp) n1 fun h₂ he₂ => ?_))
    simp only [Option.isSome_none, Bool.false_eq_true, if_false]
    refine wpAny_pure (hQ h₂ fun b o hb e => he₂ b o hb (hs₁.extBut b o hb (Heap.get?_push_of_some _ e)))
theorem assign_Tuple_tupleH {env : Env} {elts : List Expr} {x1} {pos : Pos} {t y1 : Addr} {items : Array Value} {Q : Unit → Shared → Prop} (hot : HotAt A y1 s.heap) (ht : IsTup s.heap t items)
    (hn : (assignEach elts env).length = items.size) (hstar : (assignEach elts env).findIdx? (·.1) = none)
    (h : ∀ h', Heap.ExtBut s.heap.objs.size s.heap h' → wpAny (model prog w) A (assignInOrder ((assignEach elts env).map (·.2)) items.toList) Q E { s with heap := h' }) :
    wpAny (model prog w) A (assign (.Tuple elts x1 pos) env (.ref t)) Q E s := by
  rw [assign_Tuple]
  refine wpAny_bind (wpAny_standAt ?_)
  unfold unpack
  rw [hn, hstar]
  exact wpAny_bind (wpAny_holding (unpackItems_tupleH hot ht h))
end
section
variable {X : Cx} {pos : Pos} {tg : Expr}
theorem pg_tupH {es : List Expr} {k : Nat} {t : TGs} {n : Nat} (hc : HotC X) (h : PGs X es t)
    (hn : (assignEach es X.env).length = n := by rfl) (hst : (assignEach es X.env).findIdx? (·.1) = none := by rfl) : PG X (.Tuple es k pos) (gTup X.K n t) := by
  refine ⟨fun pins s σ H v u Q I r hw => ?_⟩
  obtain ⟨a, xs, e1, hq, hl, hw⟩ := hw
  subst e1
  cases r
  obtain ⟨its, rv, ht, hz⟩ := I.tuple hq
  obtain ⟨x1, hot⟩ := hc.at I
  refine assign_Tuple_tupleH hot ht (by simp [hn, ← hl, rv.length]) hst fun h' hx => ?_
  have I1 : Inv X pins σ H { s with heap := h' } := I.kept (t' := s.toks) fun b o e => hx b o (Nat.ne_of_lt (Heap.lt_size e)) e
  exact h.run pins _ σ H xs _ Q I1 (by simpa using rv) hw
theorem turn_listH {P : Program} {w : World} {K : PySem.W.Frag} {tg : Expr} (a it : Addr) : TurnH P w K tg (Itl K a) [it] it (fun i h => h.IsListIter it a i) where
  mem := (turn_list (P := P) (w := w) (K := K) (tg := tg) a it).mem
  obj := (turn_list (P := P) (w := w) (K := K) (tg := tg) a it).obj
  keep := (turn_list (P := P) (w := w) (K := K) (tg := tg) a it).keep
  item := by
    intro X hP hw hK hc i pins s σ H E I hf st hg
    subst hP hw hK
    obtain ⟨xs, x, hq, hx⟩ := hg
    obtain ⟨its, rv, p, hz⟩ := I.list hq
    obtain ⟨u, hu, ru⟩ := rv.get hx
    obtain ⟨f0, f1, f2, f3, f4, f5⟩ := hf it (by simp)
    refine wpAny_pyNext_list_item st p.isList (x := u) (by simpa using hu) fun h' st' sb => ?_
    have I1 : Inv X pins σ H { s with heap := h' } := I.turned (t' := s.toks) (fun b o hb e => (sb.2 b hb).trans e) f0 f1 f3 f4 f5
    obtain ⟨o, e, c, d⟩ := id st'
    exact ⟨u, rfl, go_of (s := { s with heap := h' }) e c d (by decide) ⟨x, H, I1, ru, ⟨rfl, fun ys hy => by rw [I.list_inj hy hq]; exact hx⟩, st', fun b hb => (hf b hb).1⟩⟩
  done := by
    intro X hP hw hK hc i pins s σ H E I hf st hg
    subst hP hw hK
    obtain ⟨xs, hq, hx⟩ := hg
    obtain ⟨its, rv, p, hz⟩ := I.list hq
    obtain ⟨f0, f1, f2, f3, f4, f5⟩ := hf it (by simp)
    have hl := rv.length
    obtain ⟨q, ⟨hh, v1, e1, c1⟩, hp⟩ := hc
    have P1 := (I.pin q (List.mem_append_left _ hp)).1
    exact next_list_end_hot ⟨hh, q.2, v1, P1, e1, c1⟩ st p.isList (by simp; omega) (f5 q (List.mem_append_left _ hp)) fun h' eb => ⟨rfl, I.turned (t' := s.toks) (fun b o hb e => eb b o hb e) f0 f1 f3 f4 f5⟩
  self := (turn_list (P := P) (w := w) (K := K) (tg := tg) a it).self
theorem pi_listH {l : Expr} {tl : TE} (hl : PE X l tl) : PIH X tg l (iList X.K tl) := by
  refine ⟨fun pins s σ H R I h => ?_⟩
  refine thn (hl.run pins s σ H _ I h) fun v s1 ⟨x, H1, I1, r1, q1⟩ => ?_
  obtain ⟨a, e, ⟨xs, hq⟩, q⟩ := q1
  subst e
  cases r1
  obtain ⟨its, rv, p, hz⟩ := I1.list hq
  refine wpAny_pyIter_list p.isList ?_
  refine ⟨s1.heap.objs.size, [s1.heap.objs.size], _, _, H1, rfl, I1.kept (t' := s1.toks) fun b o e => Heap.get?_push_of_some _ e, turn_listH a _, ⟨_, Heap.get?_push_size _ rfl, rfl, rfl⟩, fun b hb => ?_, q⟩
  have e : b = s1.heap.objs.size := by simpa using hb
  subst e
  exact I1.fpOk (Nat.le_refl _) (I1.hok.fresh (Nat.le_refl _))
/-- the block's context, the handled exception pinned -/
abbrev blkH (X : Cx) (s : Shared) (H : Hp) (scope : Scope) (cenv : Env) (fp : List Addr) (q : Addr × Obj) : Cx := { X.blk s H scope cenv fp with pn := [q] }
theorem blkH_start {pins : List (Addr × Obj)} {σ : L2.St} {H : Hp} {s : Shared} {scope : Scope} {own : List (Str × Nat)} {fp : List Addr} {q : Addr × Obj} (I : Inv X pins σ H s) (ok : BlkOk X.N X.env.scope scope own) (hN : X.N.Nodup) (hfp : ∀ b ∈ fp, FpOk X pins H b ∧ b < s.heap.objs.size) (hq : q ∈ X.pn) :
    Inv (blkH X s H scope (compEnvC scope (cellsFrom (s.heap.objs.size + 1) scope.names (cloFrom X.env.cells scope.names [])) s.heap.objs.size X.env) fp q) [] (L2.wipe σ (own.map (·.2))) H { s with heap := pushCells (s.heap.push { cls := .type "dict", data := .dict #[] }) scope.names } := by
  have J := block_start I ok hN hfp
  have Pq := I.pin q (List.mem_append_left _ hq)
  refine ⟨⟨J.ok.mod, J.ok.kind, J.ok.glob, J.ok.blt, J.ok.above, J.ok.inj, J.ok.has, J.ok.cab, J.ok.hd, J.ok.frames, J.ok.stk, J.ok.exf, J.ok.bs, J.ok.bsz, J.ok.noex, J.ok.exfs, J.ok.funs, J.ok.frf⟩, J.os, J.bare, J.base, J.loc, J.cell, J.free, J.freeC, fun p hp => ?_, J.hok, J.len⟩
  have e : p = q := by simpa using (show p ∈ [q] ++ ([] : List (Addr × Obj)) from hp)
  rw [e]
  refine ⟨pushCells_keeps _ _ _ _ (Heap.get?_push_of_some _ Pq.1), Pq.2.1, ?_, fun z => ?_, Pq.2.2.2.2⟩
  · exact Nat.ne_of_lt (Heap.lt_size Pq.1)
  · exact (List.mem_cons.mp (I.stkSub _ z)).elim Pq.2.2.1 Pq.2.2.2.1
abbrev St := L2.St
theorem lc_coreH {q : Addr × Obj} {pins : List (Addr × Obj)} {s : Shared} {σ : St} {H : Hp} {Q : VK} {elt tg iter : Expr} {ifs : List Expr} {scope : Scope} {own : List (Str × Nat)} {pos pos' : Pos} {wi : TI} {g : TG} {tt : TT} {te : TE} {use : Option (Value → Sem Unit)} {Qf : Value → Shared → Prop}
    (hq : Hot1 X.A q) (hqm : q ∈ X.pn) (hN : X.N.Nodup) (I : Inv X pins σ H s) (hi : PIH X tg iter wi) (ok : BlkOk X.N X.env.scope scope own)
    (hg : ∀ (s : Shared) (H : Hp) (C : Addr) (cl : List (Str × Addr)) (fp : List Addr), PG (blkH X s H scope (compEnvC scope cl C X.env) fp q) tg g) (ht : ∀ (s : Shared) (H : Hp) (C : Addr) (cl : List (Str × Addr)) (fp : List Addr), PTs (blkH X s H scope (compEnvC scope cl C X.env) fp q) ifs tt)
    (he : ∀ (s : Shared) (H : Hp) (C : Addr) (cl : List (Str × Addr)) (fp : List Addr), PE (blkH X s H scope (compEnvC scope cl C X.env) fp q) elt te) (hs : ∀ x, foldedSetIterable iter X.env x = pure x)
    (h : tLc wi g tt te (own.map (·.2)) σ H Q)
    (hRR : ∀ D C s' m H', Inv X pins σ H' s' → Q (.ref D) H' → s'.heap.Ns C m → FpOk X pins H' C → compPost (model X.prog X.w) X.A X.xe use Qf (.ref D) C (.ok .next) s') :
    wpAny (model X.prog X.w) X.A (comprehension (.ListComp elt [⟨tg, iter, ifs, 0⟩] scope pos) scope X.env pos' (newList []) false (eval iter X.env) use) Qf X.xe s := by
  have hfree : ∀ y ∈ scope.names, y.2 = .free → ∃ c, X.env.cells.lookup y.1 = some c := fun y hy e => by
    rcases ok.free y hy e with k | k
    · exact I.ok.has _ (.inl k)
    · exact I.ok.has _ (.inr k)
  refine wpAny_comprehension_free (use := use) rfl hs (closure_ok hfree) ok.kind (fun y hy e => by rw [ok.uniq y hy, e])
    (thn (hi.run pins s σ H _ I h) fun xv s1 hx => thn hx fun itv s2 h2 => ?_)
  obtain ⟨it, fp, tn, J, H2, e, I2, T, st2, f2, qW⟩ := h2
  subst e
  refine wpAny_newObj_type (newEnv_comp ?_) (by show 0 ≤ sizeLine; decide)
  generalize hD : s2.heap.objs.size = D
  have hDn : H2 D = none := I2.hok.fresh (Nat.le_of_eq hD)
  obtain ⟨W, ⟨m0, w0⟩, turn⟩ := qW D hDn
  -- the new list
  generalize hs3 : ({ s2 with heap := s2.heap.push { cls := .type "list", data := .seq ([] : List Value).toArray } } : Shared) = s3
  have I3 : Inv X pins σ (upd H2 D (.lst [])) s3 := by
    rw [← hs3]
    refine I2.laid (t' := s2.toks) (fun b o e => Heap.get?_push_of_some _ e) (Nat.le_of_eq hD) ⟨Nat.zero_le _, [], 0, .nil, ?_⟩
    rw [← hD]
    exact Heap.get?_push_size _ rfl
  have h3 : s3.heap = s2.heap.push { cls := .type "list", data := .seq ([] : List Value).toArray } := by rw [← hs3]
  have sz : ∀ b ∈ fp, b < s2.heap.objs.size := fun b hb => by
    obtain ⟨o, e, _⟩ := T.obj _ _ st2 b hb
    exact Heap.lt_size e
  have f3 : ∀ b ∈ fp, FpOk X pins (upd H2 D (.lst [])) b ∧ b < s3.heap.objs.size := fun b hb => by
    have hlt := sz b hb
    refine ⟨⟨?_, (f2 b hb).2⟩, by rw [h3, Heap.size_push]; exact Nat.lt_succ_of_lt hlt⟩
    rw [upd_ne (by rw [← hD]; exact Nat.ne_of_lt hlt)]
    exact (f2 b hb).1
  have st3 : tn 0 s3.heap := T.keep _ _ _ st2 fun b _ o e => by rw [h3]; exact Heap.get?_push_of_some _ e
  have I4 := blkH_start I3 ok hN f3 hqm
  have pg := hg s3 (upd H2 D (.lst [])) s3.heap.objs.size (cellsFrom (s3.heap.objs.size + 1) scope.names (cloFrom X.env.cells scope.names [])) fp
  have pt := ht s3 (upd H2 D (.lst [])) s3.heap.objs.size (cellsFrom (s3.heap.objs.size + 1) scope.names (cloFrom X.env.cells scope.names [])) fp
  have pe := he s3 (upd H2 D (.lst [])) s3.heap.objs.size (cellsFrom (s3.heap.objs.size + 1) scope.names (cloFrom X.env.cells scope.names [])) fp
  show codeAny _ _ (.compStart (.ListComp elt [⟨tg, iter, ifs, 0⟩] scope pos) 0 (.ref it) (.ref D) (compEnvC scope (cellsFrom (s3.heap.objs.size + 1) scope.names (cloFrom X.env.cells scope.names [])) s3.heap.objs.size X.env)) (compPost (model X.prog X.w) X.A X.xe use Qf (.ref D) s3.heap.objs.size) { s3 with heap := pushCells (s3.heap.push { cls := .type "dict", data := .dict #[] }) scope.names }
  have nfp : ∀ b ∈ fp, (upd H2 D (.lst [])) b = none := fun b hb => (f3 b hb).1.1
  generalize hce : compEnvC scope (cellsFrom (s3.heap.objs.size + 1) scope.names (cloFrom X.env.cells scope.names [])) s3.heap.objs.size X.env = ce at I4 pg pt pe ⊢
  have cL : ce.locals = s3.heap.objs.size := by subst hce; rfl
  generalize hH3 : upd H2 D (.lst []) = H3 at I3 I4 pg pt pe w0 nfp f3
  generalize hs4 : ({ s3 with heap := pushCells (s3.heap.push { cls := .type "dict", data := .dict #[] }) scope.names } : Shared) = s4 at I4 ⊢
  have st4 : tn 0 s4.heap := T.keep _ _ _ st3 fun b _ o e => by rw [← hs4]; exact pushCells_keeps _ _ _ _ (Heap.get?_push_of_some _ e)
  have stat : ∀ {σ' : St} {H' : Hp} {s' : Shared}, Inv (blkH X s3 H3 scope ce fp q) [] σ' H' s' → (∀ b ∈ fp, H' b = none) → ∀ b ∈ fp, FpOk (blkH X s3 H3 scope ce fp q) [] H' b := fun {σ' H' s'} I' hn b hb =>
    ⟨hn b hb, (I'.ok.exf b hb).1, I'.ok.exfs b hb, .inl hb, fun x c e => (I'.ok.exf b hb).2 x c e, fun p hp => by
      have e : p = q := by simpa using (show p ∈ [q] ++ ([] : List (Addr × Obj)) from hp)
      rw [e]
      exact (f3 b hb).1.2.2.2.2.2 q (List.mem_append_left _ hqm)⟩
  have hcB : HotC (blkH X s3 H3 scope ce fp q) := ⟨q, hq, List.mem_cons_self⟩
  have loop : codeAny (model X.prog X.w) X.A (.compLoop (.ListComp elt [⟨tg, iter, ifs, 0⟩] scope pos) 0 (.ref it) (.ref D) ce) (compPost (model X.prog X.w) X.A X.xe use Qf (.ref D) s3.heap.objs.size) s4 := by
    refine compLoop_any (fun n s' => ∃ i H', Inv (blkH X s3 H3 scope ce fp q) [] (wipe σ (own.map (·.2))) H' s' ∧ tn i s'.heap ∧ (∀ b ∈ fp, H' b = none) ∧ W i n H') ?_ m0 ⟨0, H3, I4, st4, nfp, w0⟩
    rintro n s5 ⟨i, H5, I5, st5, n5, w5⟩
    rcases turn i n H5 w5 with ⟨stop, qq⟩ | ⟨go, Nx, hNx, step⟩
    · have td := T.done (blkH X s3 H3 scope ce fp q) rfl rfl rfl hcB i [] s5 _ H5 (fun _ _ => False) I5 (stat I5 n5) st5 stop
      refine thnF td fun r s6 ⟨hr, I6⟩ => ?_
      subst hr
      -- back in the def's context
      have I7 : Inv X pins σ H5 s6 := I3.call' (ch := fp) I6.os I6.base I6.hok I6.bare fun b hb => ⟨(f3 b hb).1.2.2.2.1, (f3 b hb).1.2.1, (f3 b hb).1.2.2.2.2.1, (f3 b hb).1.2.2.2.2.2⟩
      have nC : H5 s3.heap.objs.size = none := by
        have z : H5 ce.locals = none := I6.free
        rw [cL] at z
        exact z
      obtain ⟨m, hn, _⟩ := I6.loc
      have hn : s6.heap.Ns ce.locals m := hn
      rw [cL] at hn
      exact hRR D s3.heap.objs.size s6 m H5 I7 qq hn (I3.fpOk (Nat.le_refl _) nC)
    · have ti := T.item (blkH X s3 H3 scope ce fp q) rfl rfl rfl hcB i [] s5 _ H5 (fun _ _ => False) I5 (stat I5 n5) st5 go
      refine thnF ti fun r s6 ⟨u, hr, h6⟩ => ?_
      subst hr
      refine thnF h6 fun _ s7 ⟨x, H7, I7, r7, y7, st7, n7⟩ => ?_
      have I7' := I7.pinned (stat I7 n7) (T.obj _ _ st7)
      refine thnF (pg.run _ s7 _ H7 x u _ I7' r7 (step x H7 y7)) fun _ s8 ⟨σ8, H8, I8, hw8, q8⟩ => ?_
      refine thnF (pt.run _ s8 σ8 H8 _ I8 q8) fun b s9 ⟨H9, I9, q9⟩ => ?_
      -- the turn's end
      have fin : ∀ {s' : Shared} {H' : Hp}, Inv (blkH X s3 H3 scope ce fp q) ([] ++ pinsAt fp s7.heap) σ8 H' s' → Nx H' → ∃ m, m < n ∧ ∃ i H', Inv (blkH X s3 H3 scope ce fp q) [] (wipe σ (own.map (·.2))) H' s' ∧ tn i s'.heap ∧ (∀ b ∈ fp, H' b = none) ∧ W i m H' := fun {s' H'} I' nx => by
        obtain ⟨m', hm, w'⟩ := hNx H' nx
        have pin' : ∀ b ∈ fp, ∀ o, s7.heap.get? b = some o → s'.heap.get? b = some o ∧ H' b = none := fun b hb o e =>
          let z := I'.pin (b, o) (List.mem_append_right _ (List.mem_append_right _ (mem_pinsAt hb e)))
          ⟨z.1, z.2.1⟩
        have hl : (wipe σ (own.map (·.2))).length = σ8.length := by rw [← hw8, wipe_length]
        refine ⟨m', hm, i + 1, H', (I'.unpinned (pins := [])).weak hl (fun j v e => ?_), T.keep _ _ _ st7 fun b hb o e => (pin' b hb o e).1, fun b hb => ?_, w'⟩
        · rw [← hw8] at e
          exact (wipe_some e).1
        · obtain ⟨o, e, _⟩ := T.obj _ _ st7 b hb
          exact (pin' b hb o e).2
      cases b with
      | false =>
        simp only [Bool.false_eq_true, if_false] at q9 ⊢
        exact fin I9 q9
      | true =>
        simp only [if_true] at q9 ⊢
        refine thnF (pe.run _ s9 σ8 H9 _ I9 q9) fun z s10 ⟨yv, H10, I10, r10, acc, hD10, hz10, nx⟩ => ?_
        exact app_ok (X := blkH X s3 H3 scope ce fp q) I10 hD10 hz10 r10 fun s11 I11 => fin I11 nx
  exact codeAny_compStart_list loop (T.self X.A 0 _ _ _ st4 loop)
end
end PyS

set_option Elab.async false
set_option linter.all false
set_option maxRecDepth 100000
set_option maxHeartbeats 2000000
/-! PyP: where an exception is handled: pairs picked, the class asked; join. -/
namespace Py
def picked : List PV → Option (List PV)
  | [] => some []
  | .tup [x, .bl b] :: r => match picked r with
    | some ys => some (if b then x :: ys else ys)
    | none => none
  | _ :: _ => none
/-- [x for x, b in v if b] -/
def fPick (v : PV) : M PV := fun μ => match lstM μ v with
  | some xs => if xs.length ≤ line then (match picked xs with
    | some ys => .ok (.lst ys) μ
    | none => .bad) else .bad
  | none => .bad
def fPickM (v : PV) : M PV := fun μ => match lstM μ v with
  | some xs => if xs.length ≤ line then (match picked xs with
    | some ys => .ok (.mref μ.length) (μ ++ [.lst ys])
    | none => .bad) else .bad
  | none => .bad
/-- isinstance of the handled exception -/
def fIsX (tbl : List (String × Bool)) (v : PV) : M PV := fun μ => match v with
  | .exn c => match tbl.lookup c with
    | some b => .ok (.bl b) μ
    | none => .bad
  | _ => .bad
def joinP (s : List Nat) : List (List Nat) → List Nat
  | [] => []
  | [p] => p
  | p :: q :: r => p ++ (s ++ joinP s (q :: r))
def strsOf : List PV → Option (List (List Nat))
  | [] => some []
  | .str s :: r => (strsOf r).map (s :: ·)
  | _ :: _ => none
def joinI (a b : Ev) : Ev := fun ρ μ => (a ρ μ).bind fun v μ1 => match v with
  | .str s => (b ρ μ1).bind fun w μ2 => match seqM μ2 w with
    | some xs => match strsOf xs with
      | some ps => if (ps.map (·.length)).sum + ps.length * s.length ≤ line then .ok (.str (joinP s ps)) μ2 else .bad
      | none => .bad
    | none => .bad
  | _ => .bad
end Py
namespace PyS
open PySem PySem.Spec PyProof.Rows L2 L2H
open Py (PV MO Mem Exc Res PEnv Ev Tv Av Ov Iv Tg Tgs Sv Out)
section
variable {X : Cx} {tg iter elt : Expr} {ifs : List Expr} {scope : Scope} {own : List (Str × Nat)} {pos spos : Pos} {wi : TI} {g : TG} {tt : TT} {te : TE} {q : Addr × Obj}
theorem pe_lcH (hq : Hot1 X.A q) (hqm : q ∈ X.pn) (hN : X.N.Nodup) (hi : PIH X tg iter wi) (ok : BlkOk X.N X.env.scope scope own)
    (hg : ∀ (s : Shared) (H : Hp) (C : Addr) (cl : List (Str × Addr)) (fp : List Addr), PG (blkH X s H scope (compEnvC scope cl C X.env) fp q) tg g) (ht : ∀ (s : Shared) (H : Hp) (C : Addr) (cl : List (Str × Addr)) (fp : List Addr), PTs (blkH X s H scope (compEnvC scope cl C X.env) fp q) ifs tt)
    (he : ∀ (s : Shared) (H : Hp) (C : Addr) (cl : List (Str × Addr)) (fp : List Addr), PE (blkH X s H scope (compEnvC scope cl C X.env) fp q) elt te) (hs : ∀ x, foldedSetIterable iter X.env x = pure x := by intro _; rfl) :
    PE X (.ListComp elt [⟨tg, iter, ifs, 0⟩] scope pos) (tLc wi g tt te (own.map (·.2))) := by
  refine ⟨fun pins s σ H Q I h => ?_⟩
  rw [eval_ListComp]
  refine lc_coreH hq hqm hN I hi ok hg ht he hs h fun D C s' m H' I' qq hn f => ⟨m, hn, fun h'' sb => ?_⟩
  exact ⟨.ref D, H', I'.turned (t' := s'.toks) (fun b o hb e => (sb.2 b hb).trans e) f.1 f.2.1 f.2.2.2.1 f.2.2.2.2.1 f.2.2.2.2.2, rfl, qq⟩
theorem ps_setLcH {i : Nat} {y : Str} {py : Pos} (hq : Hot1 X.A q) (hqm : q ∈ X.pn) (hN : X.N.Nodup) (hy : X.N[i]? = some y) (hyl : X.env.scope.names.lookup y = some .local)
    (hsw : swapsWith (.ListComp elt [⟨tg, iter, ifs, 0⟩] scope pos) (some (.Name y py)) spos.line X.env = pure true) (hi : PIH X tg iter wi) (ok : BlkOk X.N X.env.scope scope own)
    (hg : ∀ (s : Shared) (H : Hp) (C : Addr) (cl : List (Str × Addr)) (fp : List Addr), PG (blkH X s H scope (compEnvC scope cl C X.env) fp q) tg g) (ht : ∀ (s : Shared) (H : Hp) (C : Addr) (cl : List (Str × Addr)) (fp : List Addr), PTs (blkH X s H scope (compEnvC scope cl C X.env) fp q) ifs tt)
    (he : ∀ (s : Shared) (H : Hp) (C : Addr) (cl : List (Str × Addr)) (fp : List Addr), PE (blkH X s H scope (compEnvC scope cl C X.env) fp q) elt te) (hs : ∀ x, foldedSetIterable iter X.env x = pure x := by intro _; rfl) :
    PS X (.Assign [.Name y py] (.ListComp elt [⟨tg, iter, ifs, 0⟩] scope pos) spos) (tAsg (tLc wi g tt te (own.map (·.2))) (gName i)) := by
  refine ⟨fun pins s σ H D I h => ?_⟩
  rw [exec_Assign_Name_used _ _ _ _ hsw]
  refine wpAny_bind (wpAny_standAt (wpAny_bind ?_))
  show wpAny _ X.A (do let _ ← comprehension (.ListComp elt [⟨tg, iter, ifs, 0⟩] scope pos) scope X.env (firstIterPos [⟨tg, iter, ifs, 0⟩] pos) (newList []) false (eval iter X.env) (some (assign (.Name y py) X.env))) _ _ s
  have h0 : tLc wi g tt te (own.map (·.2)) σ H (fun x H1 => gName i x σ H1 D.nx) := h
  refine wpAny_bind (thn (lc_coreH (Qf := fun _ s' => SP X pins D .next s') hq hqm hN I hi ok hg ht he hs h0 fun L C s' m H' I' qq hn f => ?_) fun _ s' z => wpAny_pure (wpAny_pure z))
  show wpAny _ _ (assign (.Name y py) X.env (.ref L)) _ _ _
  refine wpAny_assign_Name (store_ok2 (v := V.ref L) I' hN hy (.inl hyl) rfl (fun s2 I2 ⟨a, sb, ha⟩ => ?_) (.inr hyl))
  have na : C ≠ a := ha.elim (fun z => by rw [z]; exact f.2.1) (fun z e => f.2.2.2.2.1 y a z e.symm)
  exact ⟨m, hn.sameBut sb na, fun h3 sb3 => ⟨_, H', I2.turned (t' := s2.toks) (fun b o hb e => (sb3.2 b hb).trans e) f.1 f.2.1 f.2.2.2.1 f.2.2.2.2.1 f.2.2.2.2.2, qq⟩⟩
end

/-! ### pairs picked -/
section
variable {C : Ctx} {W : WX} {c0 : Ev} {iw ig : Nat}
abbrev gPair (K : PySem.W.Frag) (iw ig : Nat) : TG := gTup K 2 (gCons (gName iw) (gCons (gName ig) gNil))
abbrev tVarE (i : Nat) : TE := fun σ H Q => ∃ v, σ[i]? = some (some v) ∧ Q v H
theorem lst_at {φ : Ph} {μ : Mem} {H : Hp} {v : PV} {x : V} {xs : List PV} (R : Rel C φ μ H) (r : RV C φ H v x) (h : Py.lstM μ v = some xs) : ∃ a ys, x = .ref a ∧ H a = some (.lst ys) ∧ RVs C φ H xs ys := by
  unfold Py.lstM at h
  rcases r.deref R with ⟨r', e⟩ | ⟨n, zs, a, ys, e1, e2, e3, e4, e5⟩
  · rw [e] at h
    cases r' with
    | lst h1 h2 h3 h4 => cases h; exact ⟨_, _, rfl, h1, h4⟩
    | mref _ => cases h
    | _ => cases h
  · rw [e3] at h
    cases h
    exact ⟨a, ys, e2, e4, e5⟩
theorem picked_at {xs : List PV} {i : Nat} {rest : List PV} (hi : i < xs.length) (h : Py.picked (xs.drop i) = some rest) :
    ∃ x b r, xs[i]? = some (.tup [x, .bl b]) ∧ Py.picked (xs.drop (i + 1)) = some r ∧ rest = if b then x :: r else r := by
  rw [List.drop_eq_getElem_cons hi] at h
  generalize hz : xs[i] = z at h
  have hx : xs[i]? = some z := List.getElem?_eq_some_iff.mpr ⟨hi, hz⟩
  unfold Py.picked at h
  split at h
  · cases ‹_ :: _ = []›
  · rename_i x b r he
    cases he
    split at h
    · rename_i ys hy
      cases h
      exact ⟨x, b, ys, hx, hy, rfl⟩
    · cases h
  · cases h
theorem t_pick (hne : iw ≠ ig) (mu : Bool) {σ : L2.St} {H : Hp} {Q : VK} (hlw : iw < σ.length) (hlg : ig < σ.length) (h : tE C W (Py.op1 (if mu then Py.fPickM else Py.fPick) c0) σ H Q) :
    L2.tLc (iList C.K (tE C W c0)) (gPair C.K iw ig) (L2.tB (tVarE ig)) (tVarE iw) [iw, ig] σ H Q := by
  obtain ⟨φ, μ, ρ, R, E, h⟩ := h
  refine ⟨φ, μ, ρ, R, E, (Post.bind h).imp ?_⟩
  rintro x H1 ⟨φ1, μ1, v, l1, R1, rv, h1⟩
  have key : ∃ xs ys, Py.lstM μ1 v = some xs ∧ xs.length ≤ Py.line ∧ Py.picked xs = some ys ∧ ∀ D zs, H1 D = none → RVs C φ1 H1 ys zs → Q (.ref D) (upd H1 D (.lst zs)) := by
    have fin : ∀ {r : Res PV} {ys : List PV}, (r = .ok (.lst ys) μ1 ∨ r = .ok (.mref μ1.length) (μ1 ++ [.lst ys])) → Post C (RV C) (fun cls d H => W cls d σ H) φ1 H1 Q r → ∀ D zs, H1 D = none → RVs C φ1 H1 ys zs → Q (.ref D) (upd H1 D (.lst zs)) := by
      rintro r ys (e | e) h2 D zs hD rz
      · subst e; exact post_lst R1 rz h2 hD
      · subst e; exact post_mut R1 rz h2 hD
    cases mu with
    | false =>
      have h1 : Post C (RV C) (fun cls d H => W cls d σ H) φ1 H1 Q (Py.fPick v μ1) := h1
      unfold Py.fPick at h1
      cases q1 : Py.lstM μ1 v with
      | none => rw [q1] at h1; exact False.elim h1
      | some xs =>
        rw [q1] at h1
        dsimp only at h1
        split at h1
        · rename_i hl
          cases q2 : Py.picked xs with
          | none => rw [q2] at h1; exact False.elim h1
          | some ys => rw [q2] at h1; exact ⟨xs, ys, rfl, hl, q2, fin (.inl rfl) h1⟩
        · exact False.elim h1
    | true =>
      have h1 : Post C (RV C) (fun cls d H => W cls d σ H) φ1 H1 Q (Py.fPickM v μ1) := h1
      unfold Py.fPickM at h1
      cases q1 : Py.lstM μ1 v with
      | none => rw [q1] at h1; exact False.elim h1
      | some xs =>
        rw [q1] at h1
        dsimp only at h1
        split at h1
        · rename_i hl
          cases q2 : Py.picked xs with
          | none => rw [q2] at h1; exact False.elim h1
          | some ys => rw [q2] at h1; exact ⟨xs, ys, rfl, hl, q2, fin (.inr rfl) h1⟩
        · exact False.elim h1
  obtain ⟨xs, ys, q1, hl, q2, done⟩ := key
  obtain ⟨a, us, ex, ha, rs⟩ := lst_at R1 rv q1
  subst ex
  refine ⟨a, rfl, ⟨us, SqL.of ha⟩, fun D hD => ?_⟩
  have hDa : a ≠ D := ne_of_none ha hD
  have hlen := rs.length
  refine ⟨fun i m H' => m = xs.length - i ∧ i ≤ xs.length ∧ ∃ acc zs rest, H' = upd H1 D (.lst zs) ∧ zs.length ≤ i ∧ RVs C φ1 H1 acc zs ∧ Py.picked (xs.drop i) = some rest ∧ acc ++ rest = ys,
    ⟨xs.length, by simp, Nat.zero_le _, [], [], ys, rfl, Nat.le_refl _, .nil, by rw [List.drop_zero]; exact q2, rfl⟩, ?_⟩
  rintro i m H' ⟨rfl, hi, acc, zs, rest, rfl, hz, ra, hp, ey⟩
  have sq : SqL C.K (upd H1 D (.lst zs)) a us := SqL.of (by rw [upd_ne hDa]; exact ha)
  by_cases hlt : i < xs.length
  · obtain ⟨xv, b, r, hx, hr, er⟩ := picked_at hlt hp
    obtain ⟨u, hu, ru⟩ := rs.get hx
    cases ru with
    | @tup t _ vs2 hs2 r2 =>
      cases r2 with
      | @cons _ uw _ _ rw1 r3 =>
        cases r3 with
        | cons rb r4 =>
          cases r4
          cases rb
          refine .inr ⟨⟨us, _, sq, hu⟩, fun H'' => ∃ zs', H'' = upd H1 D (.lst zs') ∧ zs'.length ≤ i + 1 ∧ ∃ acc', RVs C φ1 H1 acc' zs' ∧ acc' ++ r = ys, ?_, ?_⟩
          · rintro H'' ⟨zs', e, hz', acc', ra', e'⟩
            exact ⟨xs.length - (i + 1), by omega, rfl, hlt, acc', zs', r, e, hz', ra', hr, e'⟩
          · rintro y H'' ⟨rfl, hy⟩
            have ey2 := hy us sq
            rw [hu] at ey2
            cases ey2
            have tq : SqT C.K (upd H1 D (.lst zs)) t [uw, .bl b] := by
              rcases hs2 with (z | ⟨o, z⟩) | z
              · exact .inl (.inl (by rw [upd_ne (ne_of_none z hD)]; exact z))
              · exact .inl (.inr ⟨o, by rw [upd_ne (ne_of_none z hD)]; exact z⟩)
              · exact .inr z
            refine ⟨t, _, rfl, tq, rfl, uw, _, rfl, .bl b, _, rfl, rfl, ?_⟩
            have hlw' : iw < (L2.wipe σ [iw, ig]).length := by rw [L2.wipe_length]; exact hlw
            have hlg' : ig < (L2.wipe σ [iw, ig]).length := by rw [L2.wipe_length]; exact hlg
            refine ⟨wipe_off (vs := [iw, ig]) (Off.trans (own := fun i => [iw, ig].contains i) (Off.set (by simp)) (Off.set (by simp))), ?_⟩
            have g1 : (((L2.wipe σ [iw, ig]).set iw (some uw)).set ig (some (.bl b)))[ig]? = some (some (.bl b)) := List.getElem?_set_self (by simpa using hlg')
            have g2 : (((L2.wipe σ [iw, ig]).set iw (some uw)).set ig (some (.bl b)))[iw]? = some (some uw) := by
              rw [List.getElem?_set_ne (Ne.symm hne), List.getElem?_set_self (by simpa using hlw')]
            refine ⟨.bl b, g1, b, rfl, ?_⟩
            cases b with
            | false =>
              rw [if_neg Bool.false_ne_true]
              exact ⟨zs, rfl, by omega, acc, ra, by rw [← ey, er]; rfl⟩
            | true =>
              rw [if_pos rfl]
              refine ⟨uw, g2, zs, upd_same, ?_, zs ++ [uw], ?_, ?_, acc ++ [xv], ra.append (.cons rw1 .nil), ?_⟩
              · have : Py.line < sizeLine := by rw [sizeLine_eq]; decide
                omega
              · funext b
                by_cases e : b = D
                · rw [e, upd_same, upd_same]
                · rw [upd_ne e, upd_ne e, upd_ne e]
              · simp; omega
              · rw [← ey, er]; simp
  · have e : i = xs.length := by omega
    subst e
    rw [List.drop_length] at hp
    cases hp
    refine .inl ⟨⟨us, sq, by omega⟩, done D zs hD ?_⟩
    rw [← ey, List.append_nil]
    exact ra
end

section
variable {X : Cx} {T : Tb} {W : WX} {iter : Expr} {scope : Scope} {pos spos p1 p2 p3 p4 p5 py : Pos} {q : Addr × Obj} {c0 : Ev} {w g y : Str} {k i : Nat}
theorem pg_pair {Z : Cx} (iw ig : Nat) (hc : HotC Z) (hN : Z.N.Nodup) (hiw : Z.N[iw]? = some w) (hig : Z.N[ig]? = some g) (hlw : Z.env.scope.names.lookup w = some .local) (hlg : Z.env.scope.names.lookup g = some .local) :
    PG Z (.Tuple [.Name w p2, .Name g p3] k p4) (gPair Z.K iw ig) :=
  pg_tupH hc (pgs_cons (pg_name hN hiw (.inl hlw) (.inr hlw)) (pgs_cons (pg_name hN hig (.inl hlg) (.inr hlg)) pgs_nil))
/-- [w for w, g in iter if g] while an exception is handled -/
theorem se_pick (iw ig : Nat) (hq : Hot1 X.A q) (hqm : q ∈ X.pn) (hN : X.N.Nodup) (hiw : X.N[iw]? = some w) (hig : X.N[ig]? = some g) (hne : iw ≠ ig) (ok : BlkOk X.N X.env.scope scope [(w, iw), (g, ig)])
    (hlw : (relS scope X.env.scope).names.lookup w = some .local) (hlg : (relS scope X.env.scope).names.lookup g = some .local) (he : SE X T W iter c0) (hs : ∀ x, foldedSetIterable iter X.env x = pure x := by intro _; rfl)
    (dw : (w == ("__debug__" : Str)) = false := by decide) (cw : (w == ("__classdict__" : Str)) = false := by decide) (dg : (g == ("__debug__" : Str)) = false := by decide) (cg : (g == ("__classdict__" : Str)) = false := by decide) :
    SE X T W (.ListComp (.Name w p1) [⟨.Tuple [.Name w p2, .Name g p3] k p4, iter, [.Name g p5], 0⟩] scope pos) (Py.op1 Py.fPick c0) := by
  refine ⟨fun pins s σ H Q I h => ?_⟩
  have hl := I.len
  refine (pe_lcH (g := gPair X.K iw ig) hq hqm hN (pi_listH he) ok (fun s H C cl fp => pg_pair (Z := blkH X s H scope (compEnvC scope cl C X.env) fp q) iw ig ⟨q, hq, List.mem_cons_self⟩ hN hiw hig hlw hlg) (fun s H C cl fp => pts_one (pt_val (pe_var hig (.inl hlg) dg cg))) (fun s H C cl fp => pe_var hiw (.inl hlw) dw cw) hs).run pins s σ H Q I
    (t_pick hne false (by rw [hl]; exact (List.getElem?_eq_some_iff.mp hiw).1) (by rw [hl]; exact (List.getElem?_eq_some_iff.mp hig).1) h)
theorem ss_setPick (iw ig : Nat) (hq : Hot1 X.A q) (hqm : q ∈ X.pn) (hN : X.N.Nodup) (hy : X.N[i]? = some y) (hyl : X.env.scope.names.lookup y = some .local) (hiw : X.N[iw]? = some w) (hig : X.N[ig]? = some g) (hne : iw ≠ ig) (ok : BlkOk X.N X.env.scope scope [(w, iw), (g, ig)])
    (hsw : swapsWith (.ListComp (.Name w p1) [⟨.Tuple [.Name w p2, .Name g p3] k p4, iter, [.Name g p5], 0⟩] scope pos) (some (.Name y py)) spos.line X.env = pure true)
    (hlw : (relS scope X.env.scope).names.lookup w = some .local) (hlg : (relS scope X.env.scope).names.lookup g = some .local) (he : SE X T W iter c0) (hs : ∀ x, foldedSetIterable iter X.env x = pure x := by intro _; rfl)
    (dw : (w == ("__debug__" : Str)) = false := by decide) (cw : (w == ("__classdict__" : Str)) = false := by decide) (dg : (g == ("__debug__" : Str)) = false := by decide) (cg : (g == ("__classdict__" : Str)) = false := by decide) :
    SS X T W (.Assign [.Name y py] (.ListComp (.Name w p1) [⟨.Tuple [.Name w p2, .Name g p3] k p4, iter, [.Name g p5], 0⟩] scope pos) spos) (Py.asgS (Py.tgN i) (Py.op1 Py.fPick c0)) := by
  refine ⟨fun pins s σ H D I h => ?_⟩
  have hl := I.len
  refine (ps_setLcH (g := gPair X.K iw ig) hq hqm hN hy hyl hsw (pi_listH he) ok (fun s H C cl fp => pg_pair (Z := blkH X s H scope (compEnvC scope cl C X.env) fp q) iw ig ⟨q, hq, List.mem_cons_self⟩ hN hiw hig hlw hlg) (fun s H C cl fp => pts_one (pt_val (pe_var hig (.inl hlg) dg cg))) (fun s H C cl fp => pe_var hiw (.inl hlw) dw cw) hs).run pins s σ H D I ?_
  obtain ⟨φ, μ, ρ, R, E, h⟩ := t_asg (own := fun _ => true) h
  exact t_pick hne false (by rw [hl]; exact (List.getElem?_eq_some_iff.mp hiw).1) (by rw [hl]; exact (List.getElem?_eq_some_iff.mp hig).1) ⟨φ, μ, ρ, R, E, h.imp fun u H1 q => g_nameS q⟩

/-! ### a global that is an object -/
theorem se_glob {x : String} {A : Addr} (hg : Gl X (PySem.Str.ofString x)) (hm : X.mg (PySem.Str.ofString x) = some (.ref A)) (hd : (PySem.Str.ofString x == ("__debug__" : Str)) = false := by decide) : SE X T W (.Name (PySem.Str.ofString x) pos) (Py.conI (.glob x)) :=
  se_con (pe_glob (v := .ref A) hg hm rfl hd) fun _ _ => .glob hm

/-! ### the class of the handled exception is asked -/
/-- tbl tells of classes of errors whether they are of the class c -/
structure IsAt (K : PySem.W.Frag) (mg : Str → Option Value) (c : String) (tbl : List (String × Bool)) : Prop where
  at_ : ∃ D, mg (PySem.Str.ofString c) = some (.ref D) ∧ ∀ p ∈ tbl, ∃ A, mg (PySem.Str.ofString p.1) = some (.ref A) ∧ PySem.W.kitOne K (.ref A) (.ref D) = some p.2
theorem se_isX {a : Addr} {oe : Obj} {pn : List (Addr × Obj)} {c0 D : String} {A0 : Addr} {tbl : List (String × Bool)} {e : Expr} {ce : Ev} {p p2 : Pos} (G : IsAt X.K X.mg D tbl) (hT : T.xa = some (a, c0)) (hA : X.mg (PySem.Str.ofString c0) = some (.ref A0)) (hC : ExcC X.K A0) (hz : Zc (.ref A0) none oe) (hf : ∃ vs, oe.data = .fields vs)
    (hg : Gl X "isinstance") (hm : X.mg "isinstance" = none) (hgD : Gl X (PySem.Str.ofString D)) (he : SE (X.suite a ((a, oe) :: pn)) T W e ce) (hdD : (PySem.Str.ofString D == ("__debug__" : Str)) = false := by decide) (hs : starEach [e, .Name (PySem.Str.ofString D) p2] X.env = (false, eval e X.env) :: starEach [.Name (PySem.Str.ofString D) p2] X.env := by rfl) :
    SE (X.suite a ((a, oe) :: pn)) T W (.Call (.Name "isinstance" p) [e, .Name (PySem.Str.ofString D) p2] [] pos) (Py.op1 (Py.fIsX tbl) ce) := by
  obtain ⟨AD, hD, G⟩ := G.at_
  have hgD' : Gl (X.suite a ((a, oe) :: pn)) (PySem.Str.ofString D) := hgD
  refine (pe_callB (X := X.suite a ((a, oe) :: pn)) (call_isE hC hz hf) hg hm (by rfl) (pa_cons he (pa_cons (pe_glob (v := .ref AD) hgD' hD rfl hdD) pa_nil) hs) (he := hs)).weak fun σ H Q ⟨φ, μ, ρ, R, E, h⟩ => ⟨φ, μ, ρ, R, E, (Post.bind h).imp ?_⟩
  rintro u H1 ⟨φ1, μ1, v, l1, R1, rv, h1⟩
  unfold Py.fIsX at h1
  cases rv with
  | @exn a' c hx =>
    have hx : T.xa = some (a', c) := hx
    rw [hT] at hx
    cases hx
    dsimp only at h1
    cases q1 : tbl.lookup c0 with
    | none => rw [q1] at h1; exact False.elim h1
    | some b =>
      rw [q1] at h1
      obtain ⟨A, g1, g2⟩ := G _ (mem_lookS q1)
      rw [hA] at g1
      cases g1
      exact ⟨.ref AD, .ref AD, b, rfl, fun u r => r, g2, Post.done h1 R1 (.bl b)⟩
  | _ => exact False.elim h1

/-! ### join -/
theorem join_P (a : List Nat) : ∀ ps : List (List Nat), PySem.Str.join (toS a) (ps.map toS) = toS (Py.joinP a ps)
  | [] => rfl
  | [p] => rfl
  | p :: q :: r => by
    have ih := join_P a (q :: r)
    show toS p ++ toS a ++ PySem.Str.join (toS a) ((q :: r).map toS) = _
    rw [ih, toS_app, toS_app]
    show toS _ = toS (p ++ (a ++ Py.joinP a (q :: r)))
    rw [List.append_assoc]
theorem mem_join {a : List Nat} {c : Nat} : ∀ {ps : List (List Nat)}, c ∈ Py.joinP a ps → c ∈ a ∨ ∃ p ∈ ps, c ∈ p
  | [], h => by cases h
  | [p], h => .inr ⟨p, List.mem_cons_self, h⟩
  | p :: q :: r, h => by
    have h : c ∈ p ++ (a ++ Py.joinP a (q :: r)) := h
    rcases List.mem_append.mp h with h | h
    · exact .inr ⟨p, List.mem_cons_self, h⟩
    · rcases List.mem_append.mp h with h | h
      · exact .inl h
      · rcases mem_join h with h | ⟨z, hz, h⟩
        · exact .inl h
        · exact .inr ⟨z, List.mem_cons_of_mem _ hz, h⟩
theorem strs_at {C : Ctx} {φ : Ph} {H : Hp} : ∀ {xs : List PV} {ys : List V} {ps : List (List Nat)}, RVs C φ H xs ys → Py.strsOf xs = some ps → ys = (ps.map toS).map V.str ∧ ∀ p ∈ ps, ∀ c ∈ p, c < 1114112
  | _, _, _, .nil, e => by cases e; exact ⟨rfl, fun _ h => by cases h⟩
  | _, _, _, .cons (.str s hs) t, e => by
    unfold Py.strsOf at e
    cases q : Py.strsOf _ with
    | none => rw [q] at e; cases e
    | some qs =>
      rw [q] at e
      cases e
      obtain ⟨h1, h2⟩ := strs_at t q
      refine ⟨by rw [h1]; rfl, fun p hp => ?_⟩
      rcases List.mem_cons.mp hp with z | z
      · rw [z]; exact hs
      · exact h2 p z
  | _, _, _, .cons .non t, e => by cases e
  | _, _, _, .cons (.bl _) t, e => by cases e
  | _, _, _, .cons (.int _) t, e => by cases e
  | _, _, _, .cons (.tup _ _) t, e => by cases e
  | _, _, _, .cons (.lst _ _ _ _) t, e => by cases e
  | _, _, _, .cons (.mref _) t, e => by cases e
  | _, _, _, .cons (.glob _) t, e => by cases e
  | _, _, _, .cons (.exn _) t, e => by cases e
  | _, _, _, .cons (.scr _ _) t, e => by cases e
theorem se_join {o e : Expr} {co ce : Ev} {apos : Pos} (ho : SE X T W o co) (he : SE X T W e ce) (hs : starEach [e] X.env = [(false, eval e X.env)] := by rfl) (hbase : attributeBase o "join" X.env (eval o X.env) = eval o X.env := by rfl) (hline : (apos.endLine == pos.line) = true := by rfl) :
    SE X T W (.Call (.Attribute o "join" apos) [e] [] pos) (Py.joinI co ce) :=
  (pe_join ho he hs hbase hline).weak fun σ H Q ⟨φ, μ, ρ, R, E, h⟩ => ⟨φ, μ, ρ, R, E, (Post.bind h).imp fun u H1 ⟨φ1, μ1, v, l1, R1, rv, h1⟩ => by
    cases rv with
    | str s hs =>
      refine ⟨⟨_, rfl⟩, φ1, μ1, ρ, R1, E.mono R l1, (Post.bind h1).imp ?_⟩
      rintro w H2 ⟨φ2, μ2, wv, l2, R2, rw2, h2⟩
      cases q1 : Py.seqM μ2 wv with
      | none => rw [q1] at h2; exact False.elim h2
      | some xs =>
        rw [q1] at h2
        dsimp only at h2
        cases q2 : Py.strsOf xs with
        | none => rw [q2] at h2; exact False.elim h2
        | some ps =>
          rw [q2] at h2
          dsimp only at h2
          split at h2
          · rename_i hlen
            have seq : ∃ p ys, w = .ref p ∧ (SqL X.K H2 p ys ∨ SqT X.K H2 p ys) ∧ RVs (cX X T) φ2 H2 xs ys := by
              unfold Py.seqM at q1
              rcases rw2.deref R2 with ⟨r', e⟩ | ⟨n, zs, a, ys, e1, e2, e3, e4, e5⟩
              · rw [e] at q1
                cases r' with
                | lst h1 h2 h3 h4 => cases q1; exact ⟨_, _, rfl, .inl (SqL.of h1), h4⟩
                | tup h1 h4 => cases q1; exact ⟨_, _, rfl, .inr h1, h4⟩
                | _ => cases q1
              · rw [e3] at q1
                cases q1
                exact ⟨a, ys, e2, .inl (SqL.of e4), e5⟩
            obtain ⟨p, ys, ew, hp, rs⟩ := seq
            obtain ⟨ey, hc⟩ := strs_at rs q2
            subst ew ey
            refine ⟨toS s, p, ps.map toS, rfl, rfl, hp, ?_, ?_⟩
            · have e : (ps.map toS).map (·.length) = ps.map (·.length) := by
                rw [List.map_map]
                rfl
              rw [e, List.length_map]
              have hlen : (ps.map (·.length)).sum + ps.length * s.length ≤ 16000000 := hlen
              have e2 : (toS s).length = s.length := rfl
              rw [e2]
              omega
            · have e : Txt.join (toS s) (ps.map toS) = toS (Py.joinP s ps) := by rw [TL.join_eq, join_P]
              rw [e]
              refine Post.done h2 R2 (.str _ fun c hc' => ?_)
              rcases mem_join hc' with z | ⟨p, hp, z⟩
              · exact hs c z
              · exact hc p hp c z
          · exact False.elim h2
    | _ => exact False.elim h1⟩
end
end PyS

set_option Elab.async false
set_option linter.all false
set_option maxRecDepth 100000
set_option maxHeartbeats 2000000
/-! PyQ: a lambda handed to a def that calls it and tells how that ended. -/
namespace Py
/-- the class of the exception, told by the suite cs: n names, the exception's at i -/
def told (n i : Nat) (cs : Sv) (c : String) : Option (List Nat) := match cs ((List.replicate n none).set i (some (.exn c))) [] with
  | .ret (.str s) _ => some s
  | _ => none
def tellI (n i : Nat) (cs : Sv) (cl : List String) (c : Ev) : Ev := fun ρ μ => match c ρ μ with
  | .ok _ μ1 => leave μ.length (.str []) μ1
  | .exc x μ1 => if x.cls ∈ cl ∧ x.fs.isEmpty = true then (match told n i cs x.cls with
    | some s => leave μ.length (.str s) μ1
    | none => .bad) else .bad
  | .bad => .bad
end Py
namespace PyS
open PySem PySem.Spec PyProof.Rows L2 L2H LamX
open Py (PV MO Mem Exc Res PEnv Ev Tv Av Ov Iv Tg Tgs Sv Out)
/-- the context of the lambda's body; what it lets out is known with its context -/
abbrev lamN (X : Cx) (A : Around) (outer : List Env) (s : Shared) (H : Hp) (E : XK) (scope : Scope) (f c' : Addr) : Cx :=
  { lamCx X A outer s H E scope f c' with
    xe := fun e s' => wpAny (model X.prog X.w) (A.deeper (lamEnv X scope s.heap.objs.size f c')) (leaving (lamEnv X scope s.heap.objs.size f c') e) (fun _ s'' => L2N.CX X.prog X.w outer H s E e s'') (fun e' s'' => L2N.CX X.prog X.w outer H s E e' s'') s' }
section
variable {X : Cx} {pins : List (Addr × Obj)} {σ : L2.St} {H HZ : Hp} {s s1 : Shared}
theorem act_N {Eg : XK} {Ng : List Str} {qg : Str} {sg : Scope} {g f c' : Addr} {cdg pm ctv : Value} {params : Arguments} {body : Expr} {scope : Scope} {k i : Nat} {a : Str} {pn : List (Addr × Obj)} {xe : Value → Shared → Prop} {W : WX} {tb : XK → TE} {p1 p2 : Pos}
    (I : Inv X pins σ H s) (L : LamS X.env.scope scope) (hf : s.heap.get? f = some (PySem.W.kla_obj "<lambda>" (X.env.qual ++ "<lambda>") params body scope (cloFrom X.env.cells scope.names []) pm c' ctv)) (hfn : H f = none) (hfr : f ∉ frs X.stack)
    (hbind : bindArgs (PySem.W.kla_fn "<lambda>" (X.env.qual ++ "<lambda>") params body scope (cloFrom X.env.cells scope.names []) pm (.ref c') ctv) ⟨[], []⟩ = pure [])
    (tk : L2N.Takes ((cxOf C8.CX0 X.prog X.w X.K X.mg X.base Ng qg sg g cdg X.A X.stack s H Eg).tr pn xe) W) (hr : Room (k + 1) (X.A.deeper (envOfC qg sg s.heap.objs.size g cdg)))
    (hbody : ∀ (A : Around) (outer : List Env) (s : Shared) (H : Hp) (E : XK), Room k (A.deeper (lamEnv X scope s.heap.objs.size f c')) → PE (lamN X A outer s H E scope f c') body (tb E))
    (hN : Ng[i]? = some a) (hv : Vis sg a) (hd : (a == ("__debug__" : Str)) = false := by decide) (hcd : (a == ("__classdict__" : Str)) = false := by decide) :
    PE ((cxOf C8.CX0 X.prog X.w X.K X.mg X.base Ng qg sg g cdg X.A X.stack s H Eg).tr pn xe) (.Call (.Name a p1) [] [] p2) (fun σZ HZ Q => σZ[i]? = some (some (.ref f)) ∧ HZ c' = some (CodeO c' (X.env.qual ++ "<lambda>")) ∧ tb (WE W σZ) σ HZ Q) := by
  refine ⟨fun pinsZ sZ σZ HZ Q IZ h => ?_⟩
  generalize hE : WE W σZ = E at h
  obtain ⟨hs, hc, ht⟩ := h
  have hvar := (pe_var (X := (cxOf C8.CX0 X.prog X.w X.K X.mg X.base Ng qg sg g cdg X.A X.stack s H Eg).tr pn xe) (pos := p1) (i := i) hN hv hd hcd).run pinsZ sZ σZ HZ (fun v H1 => v = .ref f ∧ H1 = HZ) IZ ⟨.ref f, hs, rfl, rfl⟩
  refine wpAny_Call_Name_kw (thn hvar fun u s1 ⟨v, H1, I1, r1, ev, eH⟩ => ?_)
  subst ev
  rw [eH] at I1
  obtain rfl : u = Value.ref f := r1
  have of1 := I1.base.keep f _ hf hfn hfr (fun z => nomatch (show f ∈ ([] : List Addr) from z))
  refine PySem.W.callWith_F0 ⟨_, _, _, _, of1⟩ ?_
  have un : Un (frs X.stack) [] H HZ s.heap s1.heap := I1.base
  obtain ⟨⟨oc, vs, t, hoc, hdc, hvc⟩, _, _⟩ := I1.hok c' _ hc
  have rc : codeAny (model X.prog X.w) (X.A.deeper (envOfC qg sg s.heap.objs.size g cdg)) (.call (.ref f) ⟨[], []⟩) (CR (L2N.CX X.prog X.w) (envOfC qg sg s.heap.objs.size g cdg :: X.stack) X.prog X.w HZ s1 Q E) s1 := by
    refine PySem.W.kla_callFunE hr.depth of1 rfl L.co L.gen rfl ⟨c', oc, vs, t, rfl, hoc, hdc, hvc⟩ ?_
    rw [hbind]
    refine wpAny_pure (wpAny_newFunctionEnv (fun y hy => (L.own y hy).2) (fun y hy => absurd hy (by simp)) (fun h1 hns hsb => ⟨I1.nolimit.fresh _ hsb, ?_⟩) L.kind)
    show codeAny _ _ (.expr body (lamEnv X scope s1.heap.objs.size f c')) _ _
    have kp : ∀ b o, s1.heap.get? b = some o → h1.get? b = some o := fun b o e => hsb.extBut b o (Nat.ne_of_lt (Heap.lt_size e)) (Heap.get?_push_of_some _ e)
    have J0 := lam_start2 (A := X.A.deeper (envOfC qg sg s.heap.objs.size g cdg)) (outer := envOfC qg sg s.heap.objs.size g cdg :: X.stack) (E := E) (f := f) (c' := c') (tk := s1.toks + ([] : List (Str × Value)).length) I L I1.env0 hr.hd un hns kp
    have J := J0.wish (lamN X (X.A.deeper (envOfC qg sg s.heap.objs.size g cdg)) (envOfC qg sg s.heap.objs.size g cdg :: X.stack) s1 HZ E scope f c').xe
    refine PySem.W.kla_codeExpr (wpAny_mono ((hbody _ _ s1 HZ E (hr.deeper _)).run [] _ _ HZ Q J ht) (fun v s' hq => ?_) fun e s' hq => hq)
    obtain ⟨w', H', J', rv, q⟩ := hq
    exact ⟨w', H', J'.os, J'.bare, J'.base, J'.hok, rv, q⟩
  have hx := L2N.passAt tk σZ
  rw [hE] at hx
  refine wpAny_call (codeAny_mono rc fun r s' hq => ?_)
  cases r with
  | error e => exact hx pinsZ HZ s1 e s' I1 hq
  | ok fl =>
    cases fl with
    | ret u => exact I1.after hq
    | next => exact False.elim hq
    | brk => exact False.elim hq
    | cont => exact False.elim hq
end
/-- the def that calls what it got -/
def GivesN (X : Cx) (Ng : List Str) (x : Str) (sg : Scope) (g : Addr) (cdg : Value) (bg : List Stmt) (a : Str) (q : Str) (TT : (XK → Hp → VK → Prop) → Hp → VK → Prop) : Prop :=
  ∀ (f c' : Addr) (s : Shared) (H : Hp) (Q : VK) (tl : XK → Hp → VK → Prop),
    (∀ (W : WX) (pn : List (Addr × Obj)) (xe : Value → Shared → Prop) (p1 p2 : Pos), L2N.Takes ((cxOf C8.CX0 X.prog X.w X.K X.mg X.base Ng x sg g cdg X.A X.stack s H C8.E0).tr pn xe) W →
      PE ((cxOf C8.CX0 X.prog X.w X.K X.mg X.base Ng x sg g cdg X.A X.stack s H C8.E0).tr pn xe) (.Call (.Name a p1) [] [] p2) (fun σZ HZ Q => σZ[0]? = some (some (.ref f)) ∧ HZ c' = some (CodeO c' q) ∧ tl (WE W σZ) HZ Q)) →
    H c' = some (CodeO c' q) → TT tl H Q →
    ∃ t, PSs (cxOf C8.CX0 X.prog X.w X.K X.mg X.base Ng x sg g cdg X.A X.stack s H C8.E0).nox bg t ∧ t { nx := fun _ H' => Q .non H', rt := Q } (L2.start Ng [.ref f]) H
section
variable {X : Cx}
theorem lamcall_N {T : List (Addr × Str)} {TT : (XK → Hp → VK → Prop) → Hp → VK → Prop} {x a : Str} {g c P : Addr} {k : Nat} {pg : Arguments} {bg : List Stmt} {sg : Scope} {dV kV doc pm cdv ct oc : Value} {an od : Option Addr} {osl : Array (Option Value)} {Ng : List Str}
    {params : Arguments} {body : Expr} {scope : Scope} {t : XK → TE} {p lpos pos : Pos} (hg : Gl X x) (hm : X.mg x = some (.ref g)) (hk : PySem.W.keepIn X.K (.ref g) = true)
    (lk : X.K.lookup g = some ⟨oc, od, .func (PySem.W.fnOf x x pg bg sg dV kV doc pm an cdv ct), osl⟩) (hcg : PySem.W.codeIn X.K cdv x = true) (hb : L2.Binds X.K (PySem.W.fnOf x x pg bg sg dV kV doc pm an cdv ct) [a] []) (Sg : FnScope Ng [a] sg) (hNg : Ng[0]? = some a) (hva : Vis sg a)
    (hG : GivesN X Ng x sg g cdv bg a (X.env.qual ++ "<lambda>") TT)
    (TB : TabB X.base X.mg c P) (hcode : X.env.code = .ref c) (hmT : (P, X.env.qual ++ "<lambda>") ∈ T) (hu : ∀ p ∈ T, p.1 = P → p.2 = X.env.qual ++ "<lambda>") (hr : Room (k + 2) X.A) (L : LamS X.env.scope scope) (hdef : defaultsOf params X.env = ([], []))
    (hbind : ∀ (q : Str) (cl : List (Str × Addr)) (pm cv ctv : Value), bindArgs (PySem.W.kla_fn "<lambda>" q params body scope cl pm cv ctv) ⟨[], []⟩ = pure [])
    (hbody : ∀ (A : Around) (outer : List Env) (s : Shared) (H : Hp) (E : XK) (f c' : Addr), Room k (A.deeper (lamEnv X scope s.heap.objs.size f c')) → PE (lamN X A outer s H E scope f c') body (t E))
    (hdb : (x == ("__debug__" : Str)) = false := by decide) (hd : (a == ("__debug__" : Str)) = false := by decide) (hcd : (a == ("__classdict__" : Str)) = false := by decide) :
    PE X (.Call (.Name x p) [.Lambda params body scope lpos] [] pos) (tLam T TT t) := by
  refine ⟨fun pins s σ H Q I ⟨hT, h⟩ => ?_⟩
  refine wpAny_Call_Name_kw (ld_glob I hg hm ?_ hdb)
  refine PySem.W.callWith_K (h₀ := X.base) I.ok.mod.kin hk ?_ (by rfl) (by rfl)
  show wpAny _ _ (spliced ((false, eval (.Lambda params body scope lpos) X.env) :: backTo pos (starEach [] X.env))) _ _ s
  refine Calls.spliced_cons (lam_make2 I TB hcode hmT hu hT hdef (L.has I.ok) fun f c' pm' ctv H1 s' I1 eN T1 hf hfn hfr hco => ?_)
  refine Calls.spliced_nil ⟨I1.kIn, ?_⟩
  have rc : codeAny (model X.prog X.w) X.A (.call (.ref g) ⟨[.ref f], []⟩) (CR C8.CX0 X.stack X.prog X.w H1 s' Q C8.E0) s' := by
    refine run_ofS (N := Ng) (ps := [a]) (us := [.ref f]) (vs := [.ref f]) lk hcg Sg hr I1.env0 (hb s' [.ref f] I1.kIn rfl) (.cons rfl .nil) rfl fun hr' => ?_
    obtain ⟨t', ht', hq'⟩ := hG f c' s' H1 Q (fun E H' Q' => t E σ H' Q') (fun W pn xe p1 p2 tk => act_N (i := 0) I1 L hf hfn hfr (hbind _ _ _ _ _) tk hr' (fun A outer s H E hr2 => hbody A outer s H E f c' hr2) hNg hva hd hcd) hco (h H1 eN T1)
    exact ⟨t', ht'.nox, hq'⟩
  refine wpAny_call (codeAny_mono rc fun r s2 hq => ?_)
  cases r with
  | error e => exact (show False from hq).elim
  | ok fl =>
    cases fl with
    | ret u => exact I1.after hq
    | next => exact False.elim hq
    | brk => exact False.elim hq
    | cont => exact False.elim hq
theorem takes_N {X : Cx} : L2N.Takes X (fun _ _ _ _ => False) := fun _ _ x => by
  obtain ⟨_, _, _, _, _, _, _, _, _, _, _, _, _, _, _, _, z⟩ := x
  exact z.elim
end

/-! ### try: a() / except be as e: suite, then return '' -/
/-- an error that the suite tells: the word that comes of it -/
def Wish (mg : Str → Option Value) (tabs : List (Addr × Str)) (n i : Nat) (cs : Sv) (cl : List String) (Q : VK) (cls : Value) (d : Option Addr) (H' : Hp) : Prop :=
  ∃ c A0 s, cls = .ref A0 ∧ d = none ∧ mg (PySem.Str.ofString c) = some (.ref A0) ∧ c ∈ cl ∧ Py.told n i cs c = some s ∧ Tabs tabs H' ∧ ∀ φ'' H'', Le ⟨[], []⟩ φ'' H' H'' → Tabs tabs H'' → (∀ k ∈ s, k < 1114112) → Q (.str (toS s)) H''
def TTell (mg : Str → Option Value) (tabs : List (Addr × Str)) (n i : Nat) (cs : Sv) (cl : List String) : (XK → Hp → VK → Prop) → Hp → VK → Prop := fun tl H Q =>
  ∀ Ech : XK, (∀ cls d H', Wish mg tabs n i cs cl Q cls d H' → Ech cls d H') → tl Ech H (fun _ H' => Q (.str (toS [])) H')
section
variable {X : Cx} {Ng : List Str} {x a e be q : Str} {sg : Scope} {g BE : Addr} {cdg : Value} {j : Nat} {p1 p2 p3 p4 p6 p8 p9 p10 : Pos} {b0 : Stmt} {suite : List Stmt} {tabs : List (Addr × Str)} {i : Nat} {cs : Sv} {cl : List String}
theorem told_ret {n : Nat} {c : String} {s : List Nat} (h : Py.told n i cs c = some s) : ∃ μ, cs ((List.replicate n none).set i (some (.exn c))) [] = .ret (.str s) μ := by
  unfold Py.told at h
  split at h
  · rename_i s' μ e
    cases h
    exact ⟨μ, e⟩
  · cases h
theorem gives_tell (hge : sg.names.lookup be = some .globalImplicit) (hme : X.mg be = some (.ref BE)) (hde : (be == ("__debug__" : Str)) = false) (hN : Ng.Nodup) (hi : Ng[i]? = some e) (hln : sg.names.lookup e = some .local) (h0 : ∀ f : Addr, (L2.start Ng [V.ref f])[0]? = some (some (V.ref f)))
    (hlen : 1 ≤ Ng.length)
    (hcl : ∀ c ∈ cl, ∀ A0, X.mg (PySem.Str.ofString c) = some (.ref A0) → PySem.W.exmOne X.K (.ref A0) (.ref BE) = some true)
    (hsu : ∀ (s : Shared) (H : Hp) (a : Addr) (oe : Obj) (pn : List (Addr × Obj)) (c : String) (A0 : Addr), c ∈ cl → X.mg (PySem.Str.ofString c) = some (.ref A0) → L2N.Zn (.ref A0) none oe → (∃ vs, oe.data = .fields vs) →
      SB (((cxOf C8.CX0 X.prog X.w X.K X.mg X.base Ng x sg g cdg X.A X.stack s H C8.E0).nox).suite a ((a, oe) :: pn)) ⟨tabs, some (a, c)⟩ W0 (b0 :: suite) cs) :
    GivesN X Ng x sg g cdg [.Try [.Expr (.Call (.Name a p1) [] [] p2) p3] [.ExceptHandler (some (.Name be p4)) (some e) (b0 :: suite) p6] [] [] p8, .Return (some (.Constant (.str "") j p9)) p10] a q (TTell X.mg tabs Ng.length i cs cl) := by
  intro f c' s H Q tl act hc h
  have hgl : Gl (cxOf C8.CX0 X.prog X.w X.K X.mg X.base Ng x sg g cdg X.A X.stack s H C8.E0).nox be := hge
  have hsl : (L2.start Ng [V.ref f]).length = Ng.length := by
    unfold L2.start
    rw [List.length_append, List.length_map, List.length_replicate]
    show 1 + (Ng.length - 1) = Ng.length
    omega
  refine ⟨_, pss_cons (L2N.ps_try_as (X := (cxOf C8.CX0 X.prog X.w X.K X.mg X.base Ng x sg g cdg X.A X.stack s H C8.E0).nox) (c := .ref BE) (i := i)
      (tb := fun W D σ H => σ = L2.start Ng [V.ref f] ∧ H c' = some (CodeO c' q) ∧ tl (WE W σ) H (fun _ H' => D.nx σ H'))
      (ts := fun a cls d D σ H => ∃ c A0, cls = .ref A0 ∧ d = none ∧ X.mg (PySem.Str.ofString c) = some (.ref A0) ∧ c ∈ cl ∧ tS (cX X ⟨tabs, some (a, c)⟩) W0 cs D σ H)
      (Wout := fun _ _ _ _ => False) rfl rfl hN hi hln ⟨hgl, hde, .inl hme⟩ takes_N (fun W pn xe tk _ => ?_) (fun a oe cls d pn hz hv => ?_)) (pss_one (ps_ret pe_str)), ?_⟩
  · refine ⟨fun pins s' σ H' D I ⟨h1, h2, h3⟩ => ?_⟩
    subst h1
    have hp := act W pn xe p1 p2 tk
    exact (pss_one (ps_expr (pos := p3) hp)).run pins s' _ H' D I ⟨h0 f, h2, h3⟩
  · refine ⟨fun pins s' σ H' D I ⟨c, A0, e1, e2, e3, e4, e5⟩ => ?_⟩
    subst e1 e2
    exact (hsu s H a oe pn c A0 e4 e3 hz hv).run pins s' σ H' D I e5
  · refine ⟨rfl, hc, h _ fun cls d H' ⟨c, A0, s1, e1, e2, e3, e4, e5, e6, e7⟩ => ?_⟩
    subst e1 e2
    refine ⟨true, hcl c e4 A0 e3, fun _ a ha => ⟨c, A0, rfl, rfl, e3, e4, ⟨[], []⟩, [], (List.replicate Ng.length none).set i (some (.exn c)), ?_, ?_, ?_⟩, fun z => by cases z⟩
    · exact ⟨rfl, List.nodup_nil, fun _ z => (by cases z), fun _ z => (by cases z), fun n a o z => by simp at z, e6⟩
    · refine ⟨by simp [hsl], fun k v hk => ?_⟩
      by_cases hik : i = k
      · subst hik
        have hil : i < Ng.length := (List.getElem?_eq_some_iff.mp hi).1
        rw [List.getElem?_set_self (by simpa using hil)] at hk
        cases hk
        exact ⟨.ref a, List.getElem?_set_self (by rw [hsl]; exact hil), .exn rfl⟩
      · rw [List.getElem?_set_ne hik, List.getElem?_replicate] at hk
        split at hk <;> cases hk
    · obtain ⟨μs, er⟩ := told_ret e5
      rw [er]
      intro φ' H'' u l R' r'
      cases r' with
      | str _ hk => exact e7 φ' H'' l R'.tabs hk
end
/-- all but tables as it was: the memory stands in it, too -/
theorem Le.ext {φ : Ph} {H H1 : Hp} (e : ExtN H H1) : Le φ φ H H1 := ⟨⟨[], by simp, by simp⟩, ⟨[], by simp, by simp⟩, fun a o h _ t => e a o h t, fun a ⟨o, h, t⟩ => ⟨o, e a o h t, t⟩⟩
theorem Rel.ext {C : Ctx} {φ : Ph} {μ : Mem} {H H1 : Hp} (R : Rel C φ μ H) (e : ExtN H H1) (t : Tabs C.T.tabs H1) : Rel C φ μ H1 := by
  refine ⟨R.len, R.nd, fun a ha => (Le.ext (φ := φ) e).there a (R.bt a ha), R.sep, fun n a o h1 h2 => ?_, t⟩
  obtain ⟨u, hu, ro⟩ := R.obj n a o h1 h2
  exact ⟨u, e a u hu ro.nt, ro.mono R (Le.ext e)⟩
theorem Le.extN {φ'' : Ph} {H H1 : Hp} (l : Le ⟨[], []⟩ φ'' H H1) : ExtN H H1 := fun a o h t => l.keep a o h (by simp) t
section
variable {X : Cx} {T : Tb} {W : WX}
/-- x(lambda: body), x tells how it ended -/
theorem se_tell {x a : Str} {g c P : Addr} {k n i : Nat} {cs : Sv} {cl : List String} {cb : Ev} {pg : Arguments} {bg : List Stmt} {sg : Scope} {dV kV doc pm cdv ct oc : Value} {an od : Option Addr} {osl : Array (Option Value)} {Ng : List Str}
    {params : Arguments} {body : Expr} {scope : Scope} {p lpos pos : Pos} (hg : Gl X x) (hm : X.mg x = some (.ref g)) (hk : PySem.W.keepIn X.K (.ref g) = true)
    (lk : X.K.lookup g = some ⟨oc, od, .func (PySem.W.fnOf x x pg bg sg dV kV doc pm an cdv ct), osl⟩) (hcg : PySem.W.codeIn X.K cdv x = true) (hb : L2.Binds X.K (PySem.W.fnOf x x pg bg sg dV kV doc pm an cdv ct) [a] []) (Sg : FnScope Ng [a] sg) (hNg : Ng[0]? = some a) (hva : Vis sg a)
    (hG : GivesN X Ng x sg g cdv bg a (X.env.qual ++ "<lambda>") (TTell X.mg T.tabs n i cs cl))
    (TB : TabB X.base X.mg c P) (hcode : X.env.code = .ref c) (hmT : (P, X.env.qual ++ "<lambda>") ∈ T.tabs) (hu : ∀ p ∈ T.tabs, p.1 = P → p.2 = X.env.qual ++ "<lambda>") (hr : Room (k + 2) X.A) (L : LamS X.env.scope scope)
    (hbody : ∀ (A : Around) (outer : List Env) (s : Shared) (H : Hp) (E : XK) (f c' : Addr), Room k (A.deeper (lamEnv X scope s.heap.objs.size f c')) → SE (lamN X A outer s H E scope f c') T (fun cls d _ H => E cls d H) body cb)
    (hdef : defaultsOf params X.env = ([], []) := by rfl) (hbind : ∀ (q : Str) (cl : List (Str × Addr)) (pm cv ctv : Value), bindArgs (PySem.W.kla_fn "<lambda>" q params body scope cl pm cv ctv) ⟨[], []⟩ = pure [] := by intro _ _ _ _ _; rfl)
    (hdb : (x == ("__debug__" : Str)) = false := by decide) (hd : (a == ("__debug__" : Str)) = false := by decide) (hcd : (a == ("__classdict__" : Str)) = false := by decide) :
    SE X T W (.Call (.Name x p) [.Lambda params body scope lpos] [] pos) (Py.tellI n i cs cl cb) := by
  refine (lamcall_N (T := T.tabs) (t := fun E => tE (cX X T) (fun cls d _ H => E cls d H) cb) hg hm hk lk hcg hb Sg hNg hva hG TB hcode hmT hu hr L hdef hbind hbody hdb hd hcd).weak fun σ H Q ⟨φ, μ, ρ, R, E, h⟩ => ⟨R.tabs, fun H1 eN T1 Ech hE => ?_⟩
  have l1 : Le φ φ H H1 := Le.ext eN
  have R1 := R.ext eN T1
  refine ⟨φ, μ, ρ, R1, E.mono R l1, ?_⟩
  unfold Py.tellI at h
  cases q : cb ρ μ with
  | bad => rw [q] at h; exact False.elim h
  | ok v μ1 =>
    rw [q] at h
    intro φ' H' u l R' r'
    exact leave_ok R.len (l1.trans l) R' (.str [] (by simp)) h
  | exc x μ1 =>
    rw [q] at h
    dsimp only at h
    intro φ' H' cls d l R' rx
    by_cases hc : x.cls ∈ cl ∧ x.fs.isEmpty = true
    · rw [if_pos hc] at h
      cases q2 : Py.told n i cs x.cls with
      | none => rw [q2] at h; exact False.elim h
      | some s =>
        rw [q2] at h
        obtain ⟨A0, g1, g2⟩ := rx.cls
        have hd : d = none := by
          rcases rx.fs with ⟨_, z⟩ | ⟨z, _⟩
          · exact z
          · exact absurd (List.isEmpty_iff.mp hc.2) z
        refine hE cls d H' ⟨x.cls, A0, s, g2, hd, g1, hc.1, q2, R'.tabs, fun φ'' H'' l2 T2 hk => ?_⟩
        have l3 : Le φ' φ' H' H'' := Le.ext l2.extN
        exact leave_ok R.len ((l1.trans l).trans l3) (R'.ext l2.extN T2) (.str s hk) h
    · rw [if_neg hc] at h; exact False.elim h
end
end PyS

set_option Elab.async false
set_option linter.all false
set_option maxRecDepth 100000
set_option maxHeartbeats 2000000
/-! PyT: constants, defs that hand back what may change, the wrappers that the generator uses. -/
namespace Py
/-- as leave, but what is handed back stays as it is -/
def leaveK (m : Nat) (v : PV) (μ : Mem) : Res PV :=
  if μ.length = m then .ok v μ else if below m v && (μ.take m).all (belowM m) then .ok v (μ.take m) else .ok v μ
def fnK (n N : Nat) (body : Sv) : Fn := fun as μ =>
  if as.length = n then match body (as.map some ++ List.replicate (N - n) none) μ with
    | .ret v μ1 => leaveK μ.length v μ1
    | .next _ μ1 => leaveK μ.length .non μ1
    | .exc x _ μ1 => .exc x μ1
    | _ => .bad
  else .bad
/-- list of what the law got -/
def fListS : Fn := one fun v μ => match v with
  | .scr xs => .ok (.lst xs) μ
  | _ => .bad
theorem settle_below {m : Nat} {μ : Mem} {v : PV} (h : below m v = true) : settle m μ v = v := by
  cases v with
  | mref n =>
    have h : n < m := of_decide_eq_true h
    simp only [settle, if_pos h]
  | _ => rfl
end Py
namespace PyS
open PySem PySem.Spec PyProof.Rows L2 L2H LamX
open Py (PV MO Mem Exc Res PEnv Ev Tv Av Ov Iv Tg Tgs Sv Out)
section
variable {X : Cx} {T : Tb} {W : WX} {pos : Pos}
theorem se_strL (s : List Nat) {x : Str} {j} (h : x = toS s) (hx : s.all (fun c => decide (c < 1114112)) = true) : SE X T W (.Constant (.str x) j pos) (Py.conI (.str s)) := by
  subst h
  exact se_con pe_str fun _ _ => .str s fun c hc => of_decide_eq_true (List.all_eq_true.mp hx c hc)
/-- what a name of the module stands for -/
def MgI (mg : Str → Option Value) (x : Str) (i : Int) : Prop := ∃ t, mg x = some (.int i t)
def MgS (mg : Str → Option Value) (x : Str) (s : List Nat) : Prop := ∃ t, mg x = some (.str (toS s) t)
theorem se_gint {x : Str} {i : Int} (h : MgI X.mg x i) (hg : Gl X x) (hd : (x == ("__debug__" : Str)) = false := by decide) : SE X T W (.Name x pos) (Py.conI (.int i)) := by
  obtain ⟨t, h⟩ := h
  exact se_con (pe_glob (v := .int i) hg h ⟨t, rfl⟩ hd) fun _ _ => .int i
theorem se_gstr {x : Str} {s : List Nat} (h : MgS X.mg x s) (hg : Gl X x) (hx : s.all (fun c => decide (c < 1114112)) = true) (hd : (x == ("__debug__" : Str)) = false := by decide) : SE X T W (.Name x pos) (Py.conI (.str s)) := by
  obtain ⟨t, h⟩ := h
  exact se_con (pe_glob (v := .str (toS s)) hg h ⟨t, rfl⟩ hd) fun _ _ => .str s fun c hc => of_decide_eq_true (List.all_eq_true.mp hx c hc)
end
section
variable {C : Ctx} {φ φ' : Ph} {μ μ1 : Mem} {H H' : Hp}
theorem leaveK_ok {m : Nat} {v : PV} {u : V} {E : Value → Option Addr → Hp → Prop} {Q : VK} (hm : φ.m.length = m) (l : Le φ φ' H H') (R : Rel C φ' μ1 H') (r : RV C φ' H' v u) (h : Post C (RV C) E φ H Q (Py.leaveK m v μ1)) : Q u H' := by
  by_cases e : Py.below m v = true
  · refine leave_ok (E := E) (v := v) hm l R r ?_
    unfold Py.leaveK at h
    unfold Py.leave
    rw [Py.settle_below e]
    exact h
  · unfold Py.leaveK at h
    have e : Py.below m v = false := by simpa using e
    rw [e] at h
    split at h
    · exact h φ' H' u l R r
    · exact h φ' H' u l R r
end
theorem t_fnK {C : Ctx} {E : XK} {N : List Str} {n : Nat} {body : Sv} {vs : List V} {H : Hp} {Q : VK} (h : spF C (Py.fnK n N.length body) n vs H Q E) :
    tS C (fun cls d _ H => E cls d H) body { nx := fun _ H' => Q .non H', rt := Q } (L2.start N vs) H := by
  obtain ⟨hl, φ, μ, as, R, r, h⟩ := h
  have ha : as.length = n := by rw [r.length]; exact hl
  refine ⟨φ, μ, _, R, start_env ha r, ?_⟩
  unfold Py.fnK at h
  rw [if_pos ha] at h
  cases q : body (as.map some ++ List.replicate (N.length - n) none) μ with
  | next ρ1 μ1 =>
    rw [q] at h
    exact fun φ' σ' H' l R' _ => leaveK_ok R.len l R' .non h
  | ret v μ1 =>
    rw [q] at h
    exact fun φ' H' u l R' r' => leaveK_ok R.len l R' r' h
  | exc x ρ1 μ1 =>
    rw [q] at h
    exact fun φ' σ' H' cls d l R' _ X => h φ' H' cls d l R' X
  | brk ρ1 μ1 => rw [q] at h; exact False.elim h
  | cont ρ1 μ1 => rw [q] at h; exact False.elim h
  | bad => rw [q] at h; exact False.elim h
section
variable {P : Program} {w : World} {K : PySem.W.Frag} {mg : Str → Option Value} {T : Tb} {base : Heap} {x : Str} {params : Arguments} {body : List Stmt} {scope : Scope} {f : Addr} {fd : FuncData} {N ps : List Str} {k : Nat} {cb : Sv}
theorem fn_atK (F : FunD K x x params body scope [] [] f fd) (hmg : mg x = some (.ref f)) (S : FnScope N ps scope) (hb : Binds K fd ps [])
    (hbody : ∀ (cdv : Value) (A : Around) (outer : List Env) (s : Shared) (H : Hp) (E : XK), Room k (A.deeper (envOfC x scope s.heap.objs.size f cdv)) →
      PSs (cxOf (L2N.CX P w) P w K mg base N x scope f cdv A outer s H E) body (tS ⟨K, mg, T⟩ (fun cls d _ H => E cls d H) cb)) : FnAt P w K mg T base (k + 1) x ps.length (Py.fnK ps.length N.length cb) := by
  refine ⟨fun as μ h => by unfold Py.fnK; rw [if_neg h], f, fd, ps, hmg, F.kp, hb, rfl, ?_⟩
  refine F.ok S (fun vs H Q E h => h.1) (fun cdv A outer s H vs Q E hr h => ⟨_, hbody cdv A outer s H E hr, t_fnK h⟩)
end
section
variable {X : Cx} {T : Tb} {W : WX}
/-- the lambda's table, known to the judgement -/
structure TabAt (mg : Str → Option Value) (base : Heap) (tabs : List (Addr × Str)) (c P : Addr) (q : Str) : Prop where
  tb : TabB base mg c P
  mem : (P, q) ∈ tabs
  uniq : ∀ p ∈ tabs, p.1 = P → p.2 = q
theorem se_tellF {x a : Str} {g c P : Addr} {k n i : Nat} {cs : Sv} {cl : List String} {cb : Ev} {pg : Arguments} {bg : List Stmt} {sg : Scope} {fd : FuncData} {Ng : List Str} {q : Str}
    {params : Arguments} {body : Expr} {scope : Scope} {p lpos pos : Pos} (F : FunD X.K x x pg bg sg [] [] g fd) (hm : X.mg x = some (.ref g)) (Sg : FnScope Ng [a] sg) (hb : L2.Binds X.K fd [a] []) (hNg : Ng[0]? = some a) (hva : Vis sg a)
    (hG : ∀ cdv, GivesN X Ng x sg g cdv bg a q (TTell X.mg T.tabs n i cs cl)) (TA : TabAt X.mg X.base T.tabs c P q) (hq : X.env.qual ++ "<lambda>" = q) (hcode : X.env.code = .ref c) (hr : Room (k + 2) X.A) (hg : Gl X x) (L : LamS X.env.scope scope)
    (hbody : ∀ (A : Around) (outer : List Env) (s : Shared) (H : Hp) (E : XK) (f c' : Addr), Room k (A.deeper (lamEnv X scope s.heap.objs.size f c')) → SE (lamN X A outer s H E scope f c') T (fun cls d _ H => E cls d H) body cb)
    (hdef : defaultsOf params X.env = ([], []) := by rfl) (hbind : ∀ (q : Str) (cl : List (Str × Addr)) (pm cv ctv : Value), bindArgs (PySem.W.kla_fn "<lambda>" q params body scope cl pm cv ctv) ⟨[], []⟩ = pure [] := by intro _ _ _ _ _; rfl)
    (hdb : (x == ("__debug__" : Str)) = false := by decide) (hd : (a == ("__debug__" : Str)) = false := by decide) (hcd : (a == ("__classdict__" : Str)) = false := by decide) :
    SE X T W (.Call (.Name x p) [.Lambda params body scope lpos] [] pos) (Py.tellI n i cs cl cb) := by
  subst hq
  obtain ⟨oc, od, dV, kV, doc, pm, an, cdv, ct, osl, rfl, lk, hcg, _, _⟩ := F.ex
  exact se_tell hg hm F.kp lk hcg hb Sg hNg hva (hG cdv) TA.tb hcode TA.mem TA.uniq hr L hbody hdef hbind hdb hd hcd
/-- in a suite: what the handled exception is -/
theorem hot_of {a : Addr} {oe : Obj} {A0 : Addr} {pn : List (Addr × Obj)} (hz : L2N.Zn (.ref A0) none oe) (hf : ∃ vs, oe.data = .fields vs) : Hot1 (X.suite a ((a, oe) :: pn)).A (a, oe) := by
  obtain ⟨vs, hv⟩ := hf
  exact ⟨rfl, vs, hv, hz.2.2 vs hv⟩
end

section
variable {P : Program} {w : World} {K : PySem.W.Frag} {mg : Str → Option Value} {T : Tb} {base : Heap} {x : Str} {params : Arguments} {body : List Stmt} {scope : Scope} {f : Addr} {fd : FuncData} {N ps : List Str} {k : Nat} {cb : Sv}
/-- the def's code object is c -/
def CodeAt (K : PySem.W.Frag) (f c : Addr) : Prop := ∃ oc od osl fd, K.lookup f = some ⟨oc, od, .func fd, osl⟩ ∧ fd.code = .ref c
/-- a def that makes lambdas -/
theorem fn_atC (F : FunD K x x params body scope [] [] f fd) (hmg : mg x = some (.ref f)) (S : FnScope N ps scope) (hb : Binds K fd ps [])
    (hbody : ∀ (c : Addr) (A : Around) (outer : List Env) (s : Shared) (H : Hp) (E : XK), CodeAt K f c → Room k (A.deeper (envOfC x scope s.heap.objs.size f (.ref c))) →
      PSs (cxOf (L2N.CX P w) P w K mg base N x scope f (.ref c) A outer s H E) body (tS ⟨K, mg, T⟩ (fun cls d _ H => E cls d H) cb)) : FnAt P w K mg T base (k + 1) x ps.length (Py.fnI ps.length N.length cb) := by
  refine ⟨fun as μ h => by unfold Py.fnI; rw [if_neg h], f, fd, ps, hmg, F.kp, hb, rfl, ?_⟩
  obtain ⟨oc, od, dV, kV, doc, pm, an, cdv, ct, osl, rfl, lk, hcd, _, _⟩ := F.ex
  obtain ⟨c, rfl⟩ := He.codeIn_ref hcd
  exact fn_of lk hcd S (fun vs H Q E h => h.1) fun A outer s H vs Q E hr h => ⟨_, hbody c A outer s H E ⟨_, _, _, _, lk, rfl⟩ hr, t_fn h⟩
theorem code_eq {p : He.Defn} {c : Addr} (h : CodeAt K (He.fAd K p) c) : He.codeOf K p = c := by
  obtain ⟨oc, od, osl, fd, lk, e⟩ := h
  exact He.codeOf_eq lk e
theorem le_addL {a b n : Nat} (h : a ≤ b) : a ≤ b + n := Nat.le_trans h (Nat.le_add_right _ _)
theorem one_of {α : Type} {Q : α → Prop} {a : α} (h : Q a) : ∀ q ∈ [a], Q q := fun q hq => by
  rw [List.mem_singleton.mp hq]
  exact h
end

theorem l_listS {C : Ctx} : LNR C (fun xs H Q => ∃ p ys, xs = [.ref p] ∧ (SqL C.K H p ys ∨ SqT C.K H p ys) ∧ ∀ l, H l = none → Q (.ref l) (upd H l (.lst ys))) Py.fListS := by
  refine l_one ?_
  intro φ μ H v x Q E R rv hp
  cases rv with
  | scr h r => exact ⟨_, _, rfl, .inl h.sq, fun l hl => post_lst R r hp hl⟩
  | _ => exact False.elim hp
theorem se_listS {X : Cx} {T : Tb} {W : WX} {e : Expr} {es : List Expr} {cs : Av} {p pos : Pos} (hm : X.mg "list" = none) (hg : Gl X "list") (ha : SA X T W (e :: es) cs) (he : starEach (e :: es) X.env = (false, eval e X.env) :: starEach es X.env := by rfl) (hpl : (backTo pos (starEach es X.env)).any (·.1) = false := by rfl) :
    SE X T W (.Call (.Name "list" p) (e :: es) [] pos) (Py.opN Py.fListS cs) := se_callTy call_list_of l_listS hg hm (by decide +kernel) ha (by decide) (by decide) he hpl

/-! ### the law -/
section
variable {P : Program} {w : World} {K : PySem.W.Frag} {mg : Str → Option Value} {T : Tb} {base : Heap} {x : Str} {params : Arguments} {body : List Stmt} {scope : Scope} {f : Addr} {fd : FuncData} {N ps : List Str} {k : Nat} {cb : Sv}
theorem fn_okC (F : FunD K x x params body scope [] [] f fd) (S : FnScope N ps scope)
    (hbody : ∀ (c : Addr) (A : Around) (outer : List Env) (s : Shared) (H : Hp) (E : XK), CodeAt K f c → Room k (A.deeper (envOfC x scope s.heap.objs.size f (.ref c))) →
      PSs (cxOf (L2N.CX P w) P w K mg base N x scope f (.ref c) A outer s H E) body (tS ⟨K, mg, T⟩ (fun cls d _ H => E cls d H) cb)) : FnOk P w K mg base (L2N.CX P w) (k + 1) f fd ps (spF ⟨K, mg, T⟩ (Py.fnI ps.length N.length cb) ps.length) := by
  obtain ⟨oc, od, dV, kV, doc, pm, an, cdv, ct, osl, rfl, lk, hcd, _, _⟩ := F.ex
  obtain ⟨c, rfl⟩ := He.codeIn_ref hcd
  exact fn_of lk hcd S (fun vs H Q E h => h.1) fun A outer s H vs Q E hr h => ⟨_, hbody c A outer s H E ⟨_, _, _, _, lk, rfl⟩ hr, t_fn h⟩
end
/-- what is asked of the law's function: True at every script -/
def Always (F : Py.Fn) : Prop := ∀ ns : List Int, ns.length ≤ 63 → (∀ z ∈ ns, Builtin.Int.intBits z ≤ 1048576) → ∃ μ, F [.scr (ns.map PV.int)] [] = .ok (.bl true) μ
theorem rvs_ints {C : Ctx} {φ : Ph} {H : Hp} : ∀ ns : List Int, RVs C φ H (ns.map PV.int) (ns.map V.int)
  | [] => .nil
  | i :: ns => .cons (.int i) (rvs_ints ns)
/-- the law's promise, as the end wants it -/
theorem law_sp {C : Ctx} {F : Py.Fn} (h : Always F) {H : Hp} {a : Addr} {ns : List Int} (hl : ns.length ≤ 63) (hb : ∀ z ∈ ns, Builtin.Int.intBits z ≤ 1048576) (hT : Tabs C.T.tabs H) (hS : SqL C.K H a (ns.map V.int)) :
    spF C F 1 [.ref a] H (fun v _ => v = .bl true) fun _ _ _ => False := by
  obtain ⟨μ, e⟩ := h ns hl hb
  refine ⟨rfl, ⟨[], []⟩, [], [.scr (ns.map PV.int)], ⟨rfl, List.nodup_nil, fun _ z => (by cases z), fun _ z => (by cases z), fun n a o z => by simp at z, hT⟩, .cons (.scr ?_ (rvs_ints ns)) .nil, ?_⟩
  · rcases hS with z | z
    · exact .inl ⟨z, by simp, by simp⟩
    · exact .inr z
  · rw [e]
    intro φ' H' u l R r
    cases r
    rfl
/-! ### facts of the head -/
def excCB (K : PySem.W.Frag) (D : Addr) : Bool :=
  decide (PySem.W.findIn K (.ref D) "__getattribute__" = some (some (.builtin "BaseException.__getattribute__"))) && (decide (PySem.W.findIn K (.ref D) "__getattr__" = some none) && (decide (PySem.W.subIn K (.ref D) (.type "BaseException") = some true) &&
  (PySem.W.hasDictIn K D && (decide (PySem.W.findIn K (.ref D) "__class__" = some (some (.builtin "object.__class__"))) && (decide (PySem.W.specialIn K (.builtin "object.__class__") "__get__" = some (some (.builtin "getset_descriptor.__get__"))) &&
  (decide (PySem.W.takesIn K (.builtin "object.__class__") = some true) && decide (PySem.W.mroIn K D (.type "object") = some true)))))))
theorem excCB_ok {K : PySem.W.Frag} {D : Addr} (h : excCB K D = true) : ExcC K D := by
  unfold excCB at h
  simp only [Bool.and_eq_true, decide_eq_true_eq] at h
  obtain ⟨h1, h2, h3, h4, h5, h6, h7, h8⟩ := h
  exact ⟨h1, h2, h3, h4, h5, h6, h7, h8⟩
def kitB (K : PySem.W.Frag) (c d : Str) (b : Bool) : Bool := decide (PySem.W.kitOne K (.ref (He.ga K c)) (.ref (He.ga K d)) = some b)
theorem kitB_ok {K : PySem.W.Frag} {c d : Str} {b : Bool} (h : kitB K c d b = true) : PySem.W.kitOne K (.ref (He.ga K c)) (.ref (He.ga K d)) = some b := of_decide_eq_true h
theorem err_ok {K : PySem.W.Frag} {mg : Str → Option Value} {c : String} (hm : mg (PySem.Str.ofString c) = some (.ref (He.ga K c))) (h : (He.Fa.exc c).ok K = true) : ErrAt K mg c := by
  obtain ⟨h1, h2, h3, h4⟩ := He.exc_ok h
  exact ⟨_, _, _, _, _, hm, PySem.F.excBase_ValueError, h1, h2, h3, h4⟩
theorem clsf_ok {K : PySem.W.Frag} {mg : Str → Option Value} {c f : String} (hm : mg (PySem.Str.ofString c) = some (.ref (He.ga K c))) (h1 : (He.Fa.cls c).ok K = true) (h2 : (He.Fa.noat c f).ok K = true) : ClsF K mg c f := ⟨_, hm, He.cls_ok h1, He.noat_ok h2⟩
theorem cx_none {P : Program} {w : World} {outer : List Env} {H : Hp} {s : Shared} {e : Value} {s' : Shared} (h : L2N.CX P w outer H s (fun _ _ _ => False) e s') : False := by
  unfold L2N.CX at h
  obtain ⟨_, _, _, _, _, _, h⟩ := h
  simp at h
end PyS

set_option Elab.async false
set_option linter.all false
set_option maxRecDepth 100000
set_option maxHeartbeats 0
/-! K66: the program of the law, told by combinators (printed by gen.py). -/
namespace K66
open PySem PySem.Spec PyProof.Rows L2 L2H LamX PyS
open Py hiding picked
def top (i : Nat) : Stmt := PySem.Challenge.pw_benchbound_k66_whole_texts_of_formulas.main.body.getD i (.Pass ⟨0, 0, 0, 0⟩)
def clsB (s : Stmt) : List Stmt := match s with
  | .ClassDef _ _ _ b _ _ _ _ _ _ _ => b
  | _ => []
def mtd (i j : Nat) : Stmt := (clsB (top i)).getD j (.Pass ⟨0, 0, 0, 0⟩)
/-- what the head tells -/
structure Yes (K : PySem.W.Frag) (mg : Str → Option Value) (base : Heap) (T : Tb) : Prop where
  n_abs : mg "abs" = none
  n_bool : mg "bool" = none
  n_enumerate : mg "enumerate" = none
  n_int : mg "int" = none
  n_isinstance : mg "isinstance" = none
  n_len : mg "len" = none
  n_list : mg "list" = none
  n_range : mg "range" = none
  n_str : mg "str" = none
  n_tuple : mg "tuple" = none
  n_zip : mg "zip" = none
  d_law : ∃ fd, FunD K "law" "law" (defArgs (top 27)) (defBody (top 27)) (defScope (top 27)) [] [] (He.fAd K ("law", none)) fd
  g_law : mg "law" = some (.ref (He.ga K "law"))
  d_law_cup : ∃ fd, FunD K "_law_cup" "_law_cup" (defArgs (top 16)) (defBody (top 16)) (defScope (top 16)) [] [] (He.fAd K ("_law_cup", none)) fd
  g_law_cup : mg "_law_cup" = some (.ref (He.ga K "_law_cup"))
  d_law_short : ∃ fd, FunD K "_law_short" "_law_short" (defArgs (top 22)) (defBody (top 22)) (defScope (top 22)) [] [] (He.fAd K ("_law_short", none)) fd
  g_law_short : mg "_law_short" = some (.ref (He.ga K "_law_short"))
  d_law_formula : ∃ fd, FunD K "_law_formula" "_law_formula" (defArgs (top 21)) (defBody (top 21)) (defScope (top 21)) [] [] (He.fAd K ("_law_formula", none)) fd
  g_law_formula : mg "_law_formula" = some (.ref (He.ga K "_law_formula"))
  d_law_roll : ∃ fd, FunD K "_law_roll" "_law_roll" (defArgs (top 17)) (defBody (top 17)) (defScope (top 17)) [] [] (He.fAd K ("_law_roll", none)) fd
  g_law_roll : mg "_law_roll" = some (.ref (He.ga K "_law_roll"))
  d_law_some : ∃ fd, FunD K "_law_some" "_law_some" (defArgs (top 18)) (defBody (top 18)) (defScope (top 18)) [] [] (He.fAd K ("_law_some", none)) fd
  g_law_some : mg "_law_some" = some (.ref (He.ga K "_law_some"))
  d_law_right : ∃ fd, FunD K "_law_right" "_law_right" (defArgs (top 26)) (defBody (top 26)) (defScope (top 26)) [] [] (He.fAd K ("_law_right", none)) fd
  g_law_right : mg "_law_right" = some (.ref (He.ga K "_law_right"))
  d_law_due : ∃ fd, FunD K "_law_due" "_law_due" (defArgs (top 23)) (defBody (top 23)) (defScope (top 23)) [] [] (He.fAd K ("_law_due", none)) fd
  g_law_due : mg "_law_due" = some (.ref (He.ga K "_law_due"))
  d_law_like : ∃ fd, FunD K "_law_like" "_law_like" (defArgs (top 20)) (defBody (top 20)) (defScope (top 20)) [] [] (He.fAd K ("_law_like", none)) fd
  g_law_like : mg "_law_like" = some (.ref (He.ga K "_law_like"))
  d_law_sort : ∃ fd, FunD K "_law_sort" "_law_sort" (defArgs (top 19)) (defBody (top 19)) (defScope (top 19)) [] [] (He.fAd K ("_law_sort", none)) fd
  g_law_sort : mg "_law_sort" = some (.ref (He.ga K "_law_sort"))
  d_is_formula : ∃ fd, FunD K "is_formula" "is_formula" (defArgs (top 13)) (defBody (top 13)) (defScope (top 13)) [] [] (He.fAd K ("is_formula", none)) fd
  g_is_formula : mg "is_formula" = some (.ref (He.ga K "is_formula"))
  d_fits : ∃ fd, FunD K "fits" "fits" (defArgs (top 12)) (defBody (top 12)) (defScope (top 12)) [] [] (He.fAd K ("fits", none)) fd
  g_fits : mg "fits" = some (.ref (He.ga K "fits"))
  d_read : ∃ fd, FunD K "read" "read" (defArgs (top 11)) (defBody (top 11)) (defScope (top 11)) [] [] (He.fAd K ("read", none)) fd
  g_read : mg "read" = some (.ref (He.ga K "read"))
  d_bad_at : ∃ fd, FunD K "bad_at" "bad_at" (defArgs (top 14)) (defBody (top 14)) (defScope (top 14)) [] [] (He.fAd K ("bad_at", none)) fd
  g_bad_at : mg "bad_at" = some (.ref (He.ga K "bad_at"))
  d_law_near : ∃ fd, FunD K "_law_near" "_law_near" (defArgs (top 25)) (defBody (top 25)) (defScope (top 25)) [] [] (He.fAd K ("_law_near", none)) fd
  g_law_near : mg "_law_near" = some (.ref (He.ga K "_law_near"))
  d_law_error : ∃ fd, FunD K "_law_error" "_law_error" (defArgs (top 24)) (defBody (top 24)) (defScope (top 24)) [] [] (He.fAd K ("_law_error", none)) fd
  g_law_error : mg "_law_error" = some (.ref (He.ga K "_law_error"))
  m_FormulaReader_init : ∃ fd, FunD K "__init__" "FormulaReader.__init__" (defArgs (mtd 10 0)) (defBody (mtd 10 0)) (defScope (mtd 10 0)) [] [] (He.fAd K ("FormulaReader", some "__init__")) fd
  m_FormulaReader_take : ∃ fd, FunD K "take" "FormulaReader.take" (defArgs (mtd 10 4)) (defBody (mtd 10 4)) (defScope (mtd 10 4)) [] [] (He.fAd K ("FormulaReader", some "take")) fd
  h_FormulaReader_take : Meth K (He.ga K "FormulaReader") "take" (He.fAd K ("FormulaReader", some "take"))
  m_FormulaReader_take_figure : ∃ fd, FunD K "take_figure" "FormulaReader.take_figure" (defArgs (mtd 10 3)) (defBody (mtd 10 3)) (defScope (mtd 10 3)) [] [] (He.fAd K ("FormulaReader", some "take_figure")) fd
  h_FormulaReader_take_figure : Meth K (He.ga K "FormulaReader") "take_figure" (He.fAd K ("FormulaReader", some "take_figure"))
  m_FormulaReader_close_part : ∃ fd, FunD K "close_part" "FormulaReader.close_part" (defArgs (mtd 10 1)) (defBody (mtd 10 1)) (defScope (mtd 10 1)) [] [] (He.fAd K ("FormulaReader", some "close_part")) fd
  h_FormulaReader_close_part : Meth K (He.ga K "FormulaReader") "close_part" (He.fAd K ("FormulaReader", some "close_part"))
  m_FormulaReader_add : ∃ fd, FunD K "add" "FormulaReader.add" (defArgs (mtd 10 2)) (defBody (mtd 10 2)) (defScope (mtd 10 2)) [] [] (He.fAd K ("FormulaReader", some "add")) fd
  h_FormulaReader_add : Meth K (He.ga K "FormulaReader") "add" (He.fAd K ("FormulaReader", some "add"))
  m_FormulaReader_add_bracket : ∃ fd, FunD K "add_bracket" "FormulaReader.add_bracket" (defArgs (mtd 10 5)) (defBody (mtd 10 5)) (defScope (mtd 10 5)) [] [] (He.fAd K ("FormulaReader", some "add_bracket")) fd
  h_FormulaReader_add_bracket : Meth K (He.ga K "FormulaReader") "add_bracket" (He.fAd K ("FormulaReader", some "add_bracket"))
  m_FormulaReader_is_whole : ∃ fd, FunD K "is_whole" "FormulaReader.is_whole" (defArgs (mtd 10 6)) (defBody (mtd 10 6)) (defScope (mtd 10 6)) [] [] (He.fAd K ("FormulaReader", some "is_whole")) fd
  h_FormulaReader_is_whole : Meth K (He.ga K "FormulaReader") "is_whole" (He.fAd K ("FormulaReader", some "is_whole"))
  g_FormulaReader : mg "FormulaReader" = some (.ref (He.ga K "FormulaReader"))
  s_FormulaReader : Cls K (He.ga K "FormulaReader")
  i_FormulaReader : Mk K (He.ga K "FormulaReader") (He.fAd K ("FormulaReader", some "__init__"))
  a_FormulaReader_figures : ClsF K mg "FormulaReader" "figures"
  a_FormulaReader_has_part : ClsF K mg "FormulaReader" "has_part"
  a_FormulaReader_rows : ClsF K mg "FormulaReader" "rows"
  e_InvalidText : ErrAt K mg "InvalidText"
  q_InvalidText : IsAt K mg "InvalidText" [("InvalidText", true)]
  g_BenchError : mg "BenchError" = some (.ref (He.ga K "BenchError"))
  xc : ∀ c ∈ ["InvalidText"], ∀ A0, mg (PySem.Str.ofString c) = some (.ref A0) → ExcC K A0 ∧ PySem.W.exmOne K (.ref A0) (.ref (He.ga K "BenchError")) = some true
  k_DEPTH : MgI mg "DEPTH" 20
  k_FIGURES : MgS mg "FIGURES" [48, 49, 50, 51, 52, 53, 54, 55, 56, 57]
  k_KINDS : MgS mg "KINDS" [65, 66, 67, 68, 69, 70]
  k_NUMBER : MgI mg "NUMBER" 99
  k_SIGNS : MgI mg "SIGNS" 200
  k_TEXT : MgI mg "TEXT" 20000
  t_law : TabAt mg base T.tabs (He.codeOf K ("law", none)) (He.tabOf K (He.codeOf K ("law", none))) "law.<locals>.<lambda>"
section
variable {P : Program} {w : World} {K : PySem.W.Frag} {mg : Str → Option Value} {base : Heap} {T : Tb}

/-! _law_cup -/
abbrev N_law_cup : List Str := ["script", "cell"]
theorem sc_law_cup : FnScope N_law_cup ["script"] (defScope (top 16)) := ⟨rfl, rfl, rfl, by decide +kernel, rfl, by decide +kernel, by decide +kernel⟩
def cb_law_cup : Py.Sv :=
  (seqS (asgS (tgN 1) (opN fAbs (consI (op2 fIx (op2 fAdd (opN fListS (consI (varI 0) nilI)) (opN fLst (consI (conI (.int 0)) nilI))) (conI (.int 0))) nilI)))
  (retS (opN fMut (consI (ifI (tB (op2 fGe (varI 1) (op2 fPow (conI (.int 10)) (conI (.int 18))))) (op2 fDiv (varI 1) (conI (.int 139))) (conI (.int 0))) (consI (op2 fAdd (op2 fMod (opN fInt (consI (op2 fAdd (op2 fMul (varI 1) (conI (.int 389))) (conI (.int 5717))) nilI)) (conI (.int 1944129511))) (conI (.int 241))) nilI)))))
def f_law_cup : Py.Fn := Py.fnK 1 2 cb_law_cup
theorem ok_law_cup (Y : Yes K mg base T) : FnAt P w K mg T base 1 "_law_cup" 1 f_law_cup := by
  obtain ⟨fd, F⟩ := Y.d_law_cup
  exact fn_atK (k := 0) F Y.g_law_cup sc_law_cup (F.bindsN fun _ _ _ _ _ _ us hl => match us, hl with | [_], _ => rfl) fun cdv A outer s H E hr =>
  (sb_cons (ss_set 1 sc_law_cup.nd rfl (.inl rfl) (se_abs Y.n_abs rfl (sa_cons (se_ix (se_add (se_listS Y.n_list rfl (sa_cons (se_var 0 rfl (.inl rfl)) sa_nil)) (se_lst (sa_cons se_int sa_nil))) se_int) sa_nil)))
  (sb_one (ss_ret (se_mut (sa_cons (se_if (st_ge (se_var 1 rfl (.inl rfl)) (se_pow se_int se_int)) (se_div (se_var 1 rfl (.inl rfl)) se_int) se_int) (sa_cons (se_add (se_mod (se_intC Y.n_int rfl (sa_cons (se_add (se_mul (se_var 1 rfl (.inl rfl)) se_int) se_int) sa_nil)) se_int) se_int) sa_nil))))))

/-! _law_roll -/
abbrev N_law_roll : List Str := ["cup", "many", "found", "deep"]
theorem sc_law_roll : FnScope N_law_roll ["cup", "many"] (defScope (top 17)) := ⟨rfl, rfl, rfl, by decide +kernel, rfl, by decide +kernel, by decide +kernel⟩
def cb_law_roll : Py.Sv :=
  (seqS (ifS (tB (op2 fGt (op2 fIx (varI 0) (conI (.int 0))) (conI (.int 0)))) (seqS (asgS (tgN 2) (op2 fMod (opN fInt (consI (op2 fIx (varI 0) (conI (.int 0))) nilI)) (varI 1)))
  (seqS (asgS (tgIx (varI 0) (conI (.int 0))) (op2 fDiv (op2 fIx (varI 0) (conI (.int 0))) (varI 1)))
  (retS (varI 2)))) passS)
  (seqS (asgS (tgIx (varI 0) (conI (.int 1))) (op2 fMod (opN fInt (consI (op2 fAdd (op2 fMul (op2 fIx (varI 0) (conI (.int 1))) (conI (.int 29629))) (conI (.int 9403))) nilI)) (conI (.int 2147483543))))
  (seqS (asgS (tgN 3) (op2 fMod (opN fInt (consI (op2 fMul (op2 fIx (varI 0) (conI (.int 1))) (op2 fAdd (op2 fIx (varI 0) (conI (.int 1))) (conI (.int 317)))) nilI)) (conI (.int 2147483587))))
  (retS (op2 fMod (opN fInt (consI (op2 fDiv (varI 3) (conI (.int 919))) nilI)) (varI 1))))))
def f_law_roll : Py.Fn := Py.fnI 2 4 cb_law_roll
theorem ok_law_roll (Y : Yes K mg base T) : FnAt P w K mg T base 1 "_law_roll" 2 f_law_roll := by
  obtain ⟨fd, F⟩ := Y.d_law_roll
  exact fn_at (k := 0) F Y.g_law_roll sc_law_roll (F.bindsN fun _ _ _ _ _ _ us hl => match us, hl with | [_, _], _ => rfl) fun cdv A outer s H E hr =>
  (sb_cons (ss_if (st_gt (se_ix (se_var 0 rfl (.inl rfl)) se_int) se_int) (sb_cons (ss_set 2 sc_law_roll.nd rfl (.inl rfl) (se_mod (se_intC Y.n_int rfl (sa_cons (se_ix (se_var 0 rfl (.inl rfl)) se_int) sa_nil)) (se_var 1 rfl (.inl rfl))))
  (sb_cons (ss_asg (se_div (se_ix (se_var 0 rfl (.inl rfl)) se_int) (se_var 1 rfl (.inl rfl))) (sg_ix (se_var 0 rfl (.inl rfl)) se_int))
  (sb_one (ss_ret (se_var 2 rfl (.inl rfl)))))) sb_nil)
  (sb_cons (ss_asg (se_mod (se_intC Y.n_int rfl (sa_cons (se_add (se_mul (se_ix (se_var 0 rfl (.inl rfl)) se_int) se_int) se_int) sa_nil)) se_int) (sg_ix (se_var 0 rfl (.inl rfl)) se_int))
  (sb_cons (ss_set 3 sc_law_roll.nd rfl (.inl rfl) (se_mod (se_intC Y.n_int rfl (sa_cons (se_mul (se_ix (se_var 0 rfl (.inl rfl)) se_int) (se_add (se_ix (se_var 0 rfl (.inl rfl)) se_int) se_int)) sa_nil)) se_int))
  (sb_one (ss_ret (se_mod (se_intC Y.n_int rfl (sa_cons (se_div (se_var 3 rfl (.inl rfl)) se_int) sa_nil)) (se_var 1 rfl (.inl rfl))))))))

/-! _law_some -/
abbrev N_law_some : List Str := ["cup", "things"]
theorem sc_law_some : FnScope N_law_some ["cup", "things"] (defScope (top 18)) := ⟨rfl, rfl, rfl, by decide +kernel, rfl, by decide +kernel, by decide +kernel⟩
def cb_law_some : Py.Sv :=
  (retS (op2 fIx (varI 1) (opN f_law_roll (consI (varI 0) (consI (opN fLen (consI (varI 1) nilI)) nilI)))))
def f_law_some : Py.Fn := Py.fnI 2 2 cb_law_some
theorem ok_law_some (Y : Yes K mg base T) : FnAt P w K mg T base 2 "_law_some" 2 f_law_some := by
  obtain ⟨fd, F⟩ := Y.d_law_some
  exact fn_at (k := 1) F Y.g_law_some sc_law_some (F.bindsN fun _ _ _ _ _ _ us hl => match us, hl with | [_, _], _ => rfl) fun cdv A outer s H E hr =>
  (sb_one (ss_ret (se_ix (se_var 1 rfl (.inl rfl)) (se_call (ok_law_roll Y) (hr.mono (by decide)) (L2N.takes_of rfl rfl rfl rfl) rfl (sa_cons (se_var 0 rfl (.inl rfl)) (sa_cons (se_len Y.n_len rfl (sa_cons (se_var 1 rfl (.inl rfl)) sa_nil)) sa_nil))))))

/-! _law_formula -/
abbrev N_law_formula : List Str := ["cup", "deep", "found", "turn", "part"]
theorem sc_law_formula : FnScope N_law_formula ["cup", "deep"] (defScope (top 21)) := ⟨rfl, rfl, rfl, by decide +kernel, rfl, by decide +kernel, by decide +kernel⟩
def cb_law_formula (self : Py.Fn) : Py.Sv :=
  (seqS (asgS (tgN 2) (conI (.str [])))
  (seqS (forS (it1 (op2 fAdd (conI (.int 1)) (opN f_law_roll (consI (varI 0) (consI (conI (.int 3)) nilI))))) (tgN 3) (seqS (asgS (tgN 4) (ifI (tOr (tB (op2 fEq (varI 1) (conI (.int 0)))) (tB (op2 fGt (opN f_law_roll (consI (varI 0) (consI (conI (.int 3)) nilI))) (conI (.int 0))))) (opN f_law_some (consI (varI 0) (consI (conI (.str [65, 66, 67, 70])) nilI))) (op2 fAdd (op2 fAdd (conI (.str [40])) (opN self (consI (varI 0) (consI (op2 fSub (varI 1) (conI (.int 1))) nilI)))) (conI (.str [41])))))
  (asgS (tgN 2) (op2 fAdd (op2 fAdd (varI 2) (varI 4)) (opN f_law_some (consI (varI 0) (consI (opN fLst (consI (conI (.str [])) (consI (conI (.str [])) (consI (conI (.str [50])) (consI (conI (.str [51])) (consI (opN fStr (consI (op2 fAdd (conI (.int 2)) (opN f_law_roll (consI (varI 0) (consI (conI (.int 98)) nilI)))) nilI)) nilI)))))) nilI)))))))
  (retS (varI 2))))
def f_law_formula : Nat → Py.Fn
  | 0 => fun _ _ => .bad
  | n + 1 => Py.fnI 2 5 (cb_law_formula (f_law_formula n))
theorem ok_law_formula (Y : Yes K mg base T) : ∀ n : Nat, FnAt P w K mg T base (2 + n) "_law_formula" 2 (f_law_formula n)
  | 0 => by
    obtain ⟨fd, F⟩ := Y.d_law_formula
    exact (fn_at0 F Y.g_law_formula sc_law_formula (F.bindsN fun _ _ _ _ _ _ us hl => match us, hl with | [_, _], _ => rfl)).mono (by decide)
  | n + 1 => by
    obtain ⟨fd, F⟩ := Y.d_law_formula
    have self := ok_law_formula Y n
    exact fn_at F Y.g_law_formula sc_law_formula (F.bindsN fun _ _ _ _ _ _ us hl => match us, hl with | [_, _], _ => rfl) fun cdv A outer s H E hr =>
  (sb_cons (ss_set 2 sc_law_formula.nd rfl (.inl rfl) (se_strL [] (by decide +kernel) (by decide +kernel)))
  (sb_cons (ss_for (own := fun _ => true) (L2.passes_of rfl) rfl (si_range1 Y.n_range rfl (se_add se_int (se_call (ok_law_roll Y) (hr.mono (le_addL (by decide))) (L2N.takes_of rfl rfl rfl rfl) rfl (sa_cons (se_var 0 rfl (.inl rfl)) (sa_cons se_int sa_nil))))) (sg_name (own := (fun _ => true)) 3 sc_law_formula.nd rfl (.inl rfl) rfl) (sb_cons (ss_set 4 sc_law_formula.nd rfl (.inl rfl) (se_if (st_w (sw_or (st_eq hr (se_var 1 rfl (.inl rfl)) se_int) (sw_or1 (st_gt (se_call (ok_law_roll Y) (hr.mono (le_addL (by decide))) (L2N.takes_of rfl rfl rfl rfl) rfl (sa_cons (se_var 0 rfl (.inl rfl)) (sa_cons se_int sa_nil))) se_int)))) (se_call (ok_law_some Y) (hr.mono (le_addL (by decide))) (L2N.takes_of rfl rfl rfl rfl) rfl (sa_cons (se_var 0 rfl (.inl rfl)) (sa_cons (se_strL [65, 66, 67, 70] (by decide +kernel) (by decide +kernel)) sa_nil))) (se_add (se_add (se_strL [40] (by decide +kernel) (by decide +kernel)) (se_call self hr (L2N.takes_of rfl rfl rfl rfl) rfl (sa_cons (se_var 0 rfl (.inl rfl)) (sa_cons (se_sub (se_var 1 rfl (.inl rfl)) se_int) sa_nil)))) (se_strL [41] (by decide +kernel) (by decide +kernel)))))
  (sb_one (ss_set 2 sc_law_formula.nd rfl (.inl rfl) (se_add (se_add (se_var 2 rfl (.inl rfl)) (se_var 4 rfl (.inl rfl))) (se_call (ok_law_some Y) (hr.mono (le_addL (by decide))) (L2N.takes_of rfl rfl rfl rfl) rfl (sa_cons (se_var 0 rfl (.inl rfl)) (sa_cons (se_lst (sa_cons (se_strL [] (by decide +kernel) (by decide +kernel)) (sa_cons (se_strL [] (by decide +kernel) (by decide +kernel)) (sa_cons (se_strL [50] (by decide +kernel) (by decide +kernel)) (sa_cons (se_strL [51] (by decide +kernel) (by decide +kernel)) (sa_cons (se_strC Y.n_str rfl (sa_cons (se_add se_int (se_call (ok_law_roll Y) (hr.mono (le_addL (by decide))) (L2N.takes_of rfl rfl rfl rfl) rfl (sa_cons (se_var 0 rfl (.inl rfl)) (sa_cons se_int sa_nil)))) sa_nil)) sa_nil)))))) sa_nil))))))))
  (sb_one (ss_ret (se_var 2 rfl (.inl rfl))))))

/-! _law_short -/
abbrev N_law_short : List Str := ["cup", "deep", "found"]
theorem sc_law_short : FnScope N_law_short ["cup", "deep"] (defScope (top 22)) := ⟨rfl, rfl, rfl, by decide +kernel, rfl, by decide +kernel, by decide +kernel⟩
def cb_law_short : Py.Sv :=
  (seqS (asgS (tgN 2) (opN (f_law_formula 5) (consI (varI 0) (consI (varI 1) nilI))))
  (retS (ifI (tB (op2 fLe (opN fLen (consI (varI 2) nilI)) (conI (.int 200)))) (varI 2) (conI (.str [65, 50, 40, 66, 67, 41, 51])))))
def f_law_short : Py.Fn := Py.fnI 2 3 cb_law_short
theorem ok_law_short (Y : Yes K mg base T) : FnAt P w K mg T base 8 "_law_short" 2 f_law_short := by
  obtain ⟨fd, F⟩ := Y.d_law_short
  exact fn_at (k := 7) F Y.g_law_short sc_law_short (F.bindsN fun _ _ _ _ _ _ us hl => match us, hl with | [_, _], _ => rfl) fun cdv A outer s H E hr =>
  (sb_cons (ss_set 2 sc_law_short.nd rfl (.inl rfl) (se_call (ok_law_formula Y 5) (hr.mono (by decide)) (L2N.takes_of rfl rfl rfl rfl) rfl (sa_cons (se_var 0 rfl (.inl rfl)) (sa_cons (se_var 1 rfl (.inl rfl)) sa_nil))))
  (sb_one (ss_ret (se_if (st_le (se_len Y.n_len rfl (sa_cons (se_var 2 rfl (.inl rfl)) sa_nil)) se_int) (se_var 2 rfl (.inl rfl)) (se_strL [65, 50, 40, 66, 67, 41, 51] (by decide +kernel) (by decide +kernel))))))

/-! _law_due -/
abbrev N_law_due : List Str := ["text", "deep", "figures", "is_behind", "at", "sign"]
theorem sc_law_due : FnScope N_law_due ["text"] (defScope (top 23)) := ⟨rfl, rfl, rfl, by decide +kernel, rfl, by decide +kernel, by decide +kernel⟩
def cb_law_due : Py.Sv :=
  (seqS (asgS (tgT (tgsCons (tgN 1) (tgsCons (tgN 2) (tgsCons (tgN 3) tgsNil)))) (opN fTup (consI (conI (.int 0)) (consI (conI (.str [])) (consI (conI (.bl false)) nilI)))))
  (seqS (forS (enumI (varI 0)) (tgT (tgsCons (tgN 4) (tgsCons (tgN 5) tgsNil))) (ifS (tB (op2 (fIn false) (varI 5) (conI (.str [48, 49, 50, 51, 52, 53, 54, 55, 56, 57])))) (seqS (asgS (tgN 2) (op2 fAdd (varI 2) (varI 5)))
  (ifS (tOr (tNot (tTruth (varI 3))) (tOr (tB (op2 fEq (op2 fIx (varI 2) (conI (.int 0))) (conI (.str [48])))) (tB (op2 fGt (opN fInt (consI (varI 2) nilI)) (conI (.int 99)))))) (retS (varI 4)) passS)) (seqS (ifS (tOr (tB (op2 fEq (varI 2) (conI (.str [49])))) (tOr (tB (op2 (fIn true) (varI 5) (conI (.str [65, 66, 67, 68, 69, 70, 40, 41])))) (tOr (tAnd (tB (op2 fEq (varI 5) (conI (.str [40])))) (tB (op2 fEq (varI 1) (conI (.int 20))))) (tAnd (tB (op2 fEq (varI 5) (conI (.str [41])))) (tOr (tB (op2 fEq (varI 1) (conI (.int 0)))) (tNot (tTruth (varI 3)))))))) (retS (varI 4)) passS)
  (seqS (asgS (tgN 1) (op2 fAdd (varI 1) (ifI (tB (op2 fEq (varI 5) (conI (.str [40])))) (conI (.int 1)) (ifI (tB (op2 fEq (varI 5) (conI (.str [41])))) (op1 fNeg (conI (.int 1))) (conI (.int 0))))))
  (asgS (tgT (tgsCons (tgN 2) (tgsCons (tgN 3) tgsNil))) (opN fTup (consI (conI (.str [])) (consI (op2 fNe (varI 5) (conI (.str [40]))) nilI))))))))
  (retS (ifI (tAnd (tTruth (varI 3)) (tAnd (tB (op2 fEq (varI 1) (conI (.int 0)))) (tB (op2 fNe (varI 2) (conI (.str [49])))))) (conI .non) (opN fLen (consI (varI 0) nilI))))))
def f_law_due : Py.Fn := Py.fnI 1 6 cb_law_due
theorem ok_law_due (Y : Yes K mg base T) : FnAt P w K mg T base 1 "_law_due" 1 f_law_due := by
  obtain ⟨fd, F⟩ := Y.d_law_due
  exact fn_at (k := 0) F Y.g_law_due sc_law_due (F.bindsN fun _ _ _ _ _ _ us hl => match us, hl with | [_], _ => rfl) fun cdv A outer s H E hr =>
  (sb_cons (ss_asg (se_tup (sa_cons se_int (sa_cons (se_strL [] (by decide +kernel) (by decide +kernel)) (sa_cons se_bl sa_nil)))) (sg_tup rfl (sgs_cons (sg_name (own := (fun _ => true)) 1 sc_law_due.nd rfl (.inl rfl) rfl) (sgs_cons (sg_name (own := (fun _ => true)) 2 sc_law_due.nd rfl (.inl rfl) rfl) (sgs_cons (sg_name (own := (fun _ => true)) 3 sc_law_due.nd rfl (.inl rfl) rfl) sgs_nil))) (.cons (.cons (.cons .nil)))))
  (sb_cons (ss_for (own := fun _ => true) (L2.passes_of rfl) rfl (si_enum Y.n_enumerate rfl (se_var 0 rfl (.inl rfl))) (sg_tup rfl (sgs_cons (sg_name (own := (fun _ => true)) 4 sc_law_due.nd rfl (.inl rfl) rfl) (sgs_cons (sg_name (own := (fun _ => true)) 5 sc_law_due.nd rfl (.inl rfl) rfl) sgs_nil)) (.cons (.cons .nil))) (sb_one (ss_if (st_in (se_var 5 rfl (.inl rfl)) (se_strL [48, 49, 50, 51, 52, 53, 54, 55, 56, 57] (by decide +kernel) (by decide +kernel))) (sb_cons (ss_set 2 sc_law_due.nd rfl (.inl rfl) (se_add (se_var 2 rfl (.inl rfl)) (se_var 5 rfl (.inl rfl))))
  (sb_one (ss_if (st_w (sw_or (st_not (st_truth (se_var 3 rfl (.inl rfl)))) (sw_or (st_eq hr (se_ix (se_var 2 rfl (.inl rfl)) se_int) (se_strL [48] (by decide +kernel) (by decide +kernel))) (sw_or1 (st_gt (se_intC Y.n_int rfl (sa_cons (se_var 2 rfl (.inl rfl)) sa_nil)) se_int))))) (sb_one (ss_ret (se_var 4 rfl (.inl rfl)))) sb_nil))) (sb_cons (ss_if (st_w (sw_or (st_eq hr (se_var 2 rfl (.inl rfl)) (se_strL [49] (by decide +kernel) (by decide +kernel))) (sw_or (st_nin (se_var 5 rfl (.inl rfl)) (se_strL [65, 66, 67, 68, 69, 70, 40, 41] (by decide +kernel) (by decide +kernel))) (sw_or (st_w (sw_and (st_eq hr (se_var 5 rfl (.inl rfl)) (se_strL [40] (by decide +kernel) (by decide +kernel))) (sw_and1 (st_eq hr (se_var 1 rfl (.inl rfl)) se_int)))) (sw_or1 (st_w (sw_and (st_eq hr (se_var 5 rfl (.inl rfl)) (se_strL [41] (by decide +kernel) (by decide +kernel))) (sw_and1 (st_w (sw_or (st_eq hr (se_var 1 rfl (.inl rfl)) se_int) (sw_or1 (st_not (st_truth (se_var 3 rfl (.inl rfl))))))))))))))) (sb_one (ss_ret (se_var 4 rfl (.inl rfl)))) sb_nil)
  (sb_cons (ss_set 1 sc_law_due.nd rfl (.inl rfl) (se_add (se_var 1 rfl (.inl rfl)) (se_if (st_eq hr (se_var 5 rfl (.inl rfl)) (se_strL [40] (by decide +kernel) (by decide +kernel))) se_int (se_if (st_eq hr (se_var 5 rfl (.inl rfl)) (se_strL [41] (by decide +kernel) (by decide +kernel))) (se_neg se_int) se_int))))
  (sb_one (ss_par 2 3 rfl sc_law_due.nd rfl rfl (by decide) rfl rfl (sa_cons (se_strL [] (by decide +kernel) (by decide +kernel)) (sa_cons (se_ne hr (se_var 5 rfl (.inl rfl)) (se_strL [40] (by decide +kernel) (by decide +kernel))) sa_nil)) rfl)))))))
  (sb_one (ss_ret (se_if (st_w (sw_and (st_truth (se_var 3 rfl (.inl rfl))) (sw_and (st_eq hr (se_var 1 rfl (.inl rfl)) se_int) (sw_and1 (st_ne hr (se_var 2 rfl (.inl rfl)) (se_strL [49] (by decide +kernel) (by decide +kernel))))))) se_non (se_len Y.n_len rfl (sa_cons (se_var 0 rfl (.inl rfl)) sa_nil)))))))

/-! _law_sort -/
abbrev N_law_sort : List Str := ["value"]
theorem sc_law_sort : FnScope N_law_sort ["value"] (defScope (top 19)) := ⟨rfl, rfl, rfl, by decide +kernel, rfl, by decide +kernel, by decide +kernel⟩
def cb_law_sort : Py.Sv :=
  (seqS (ifS (tOr (tB (op1 fIsN (varI 0))) (tTruth (op1 (fIsI "bool") (varI 0)))) (retS (ifI (tB (op1 fIsN (varI 0))) (conI (.int 0)) (conI (.int 1)))) passS)
  (seqS (ifS (tOr (tTruth (op1 (fIsI "int") (varI 0))) (tTruth (op1 (fIsI "str") (varI 0)))) (retS (ifI (tTruth (op1 (fIsI "int") (varI 0))) (conI (.int 2)) (conI (.int 3)))) passS)
  (retS (ifI (tTruth (op1 (fIsI "tuple") (varI 0))) (conI (.int 4)) (ifI (tTruth (op1 (fIsI "list") (varI 0))) (conI (.int 5)) (conI (.int 6)))))))
def f_law_sort : Py.Fn := Py.fnI 1 1 cb_law_sort
theorem ok_law_sort (Y : Yes K mg base T) : FnAt P w K mg T base 1 "_law_sort" 1 f_law_sort := by
  obtain ⟨fd, F⟩ := Y.d_law_sort
  exact fn_at (k := 0) F Y.g_law_sort sc_law_sort (F.bindsN fun _ _ _ _ _ _ us hl => match us, hl with | [_], _ => rfl) fun cdv A outer s H E hr =>
  (sb_cons (ss_if (st_w (sw_or (st_isN (se_var 0 rfl (.inl rfl))) (sw_or1 (st_truth (se_isi "bool" (by decide) Y.n_isinstance rfl Y.n_bool rfl (by decide +kernel) (se_var 0 rfl (.inl rfl))))))) (sb_one (ss_ret (se_if (st_isN (se_var 0 rfl (.inl rfl))) se_int se_int))) sb_nil)
  (sb_cons (ss_if (st_w (sw_or (st_truth (se_isi "int" (by decide) Y.n_isinstance rfl Y.n_int rfl (by decide +kernel) (se_var 0 rfl (.inl rfl)))) (sw_or1 (st_truth (se_isi "str" (by decide) Y.n_isinstance rfl Y.n_str rfl (by decide +kernel) (se_var 0 rfl (.inl rfl))))))) (sb_one (ss_ret (se_if (st_truth (se_isi "int" (by decide) Y.n_isinstance rfl Y.n_int rfl (by decide +kernel) (se_var 0 rfl (.inl rfl)))) se_int se_int))) sb_nil)
  (sb_one (ss_ret (se_if (st_truth (se_isi "tuple" (by decide) Y.n_isinstance rfl Y.n_tuple rfl (by decide +kernel) (se_var 0 rfl (.inl rfl)))) se_int (se_if (st_truth (se_isi "list" (by decide) Y.n_isinstance rfl Y.n_list rfl (by decide +kernel) (se_var 0 rfl (.inl rfl)))) se_int se_int))))))

/-! _law_like -/
abbrev N_law_like : List Str := ["one", "other", "sort", "first", "second"]
theorem sc_law_like : FnScope N_law_like ["one", "other"] (defScope (top 20)) := ⟨rfl, rfl, rfl, by decide +kernel, rfl, by decide +kernel, by decide +kernel⟩
def cb_law_like (self : Py.Fn) : Py.Sv :=
  (seqS (asgS (tgN 2) (opN f_law_sort (consI (varI 1) nilI)))
  (seqS (ifS (tOr (tB (op2 fNe (opN f_law_sort (consI (varI 0) nilI)) (varI 2))) (tB (op2 fEq (varI 2) (conI (.int 6))))) (retS (conI (.bl false))) passS)
  (seqS (ifS (tB (op2 (fIn false) (varI 2) (opN fTup (consI (conI (.int 4)) (consI (conI (.int 5)) nilI))))) (retS (andV (op2 fEq (opN fLen (consI (varI 0) nilI)) (opN fLen (consI (varI 1) nilI))) (op2 fEq (compI (zipI (varI 0) (varI 1)) [3, 4] (tgT (tgsCons (tgN 3) (tgsCons (tgN 4) tgsNil))) (tNot (tTruth (opN self (consI (varI 3) (consI (varI 4) nilI))))) (conI (.int 1))) (opN fLst nilI)))) passS)
  (retS (op2 fEq (varI 0) (varI 1))))))
def f_law_like : Nat → Py.Fn
  | 0 => fun _ _ => .bad
  | n + 1 => Py.fnI 2 5 (cb_law_like (f_law_like n))
theorem ok_law_like (Y : Yes K mg base T) : ∀ n : Nat, FnAt P w K mg T base (1 + n) "_law_like" 2 (f_law_like n)
  | 0 => by
    obtain ⟨fd, F⟩ := Y.d_law_like
    exact (fn_at0 F Y.g_law_like sc_law_like (F.bindsN fun _ _ _ _ _ _ us hl => match us, hl with | [_, _], _ => rfl)).mono (by decide)
  | n + 1 => by
    obtain ⟨fd, F⟩ := Y.d_law_like
    have self := ok_law_like Y n
    exact fn_at F Y.g_law_like sc_law_like (F.bindsN fun _ _ _ _ _ _ us hl => match us, hl with | [_, _], _ => rfl) fun cdv A outer s H E hr =>
  (sb_cons (ss_set 2 sc_law_like.nd rfl (.inl rfl) (se_call (ok_law_sort Y) (hr.mono (le_addL (by decide))) (L2N.takes_of rfl rfl rfl rfl) rfl (sa_cons (se_var 1 rfl (.inl rfl)) sa_nil)))
  (sb_cons (ss_if (st_w (sw_or (st_ne hr (se_call (ok_law_sort Y) (hr.mono (le_addL (by decide))) (L2N.takes_of rfl rfl rfl rfl) rfl (sa_cons (se_var 0 rfl (.inl rfl)) sa_nil)) (se_var 2 rfl (.inl rfl))) (sw_or1 (st_eq hr (se_var 2 rfl (.inl rfl)) se_int)))) (sb_one (ss_ret se_bl)) sb_nil)
  (sb_cons (ss_if (st_in (se_var 2 rfl (.inl rfl)) (se_tup (sa_cons se_int (sa_cons se_int sa_nil)))) (sb_one (ss_ret (se_and (se_eq hr (se_len Y.n_len rfl (sa_cons (se_var 0 rfl (.inl rfl)) sa_nil)) (se_len Y.n_len rfl (sa_cons (se_var 1 rfl (.inl rfl)) sa_nil))) (se_one (se_eq hr (se_lc (own := [("first", 3), ("second", 4)]) rfl sc_law_like.nd (si_zip Y.n_zip rfl (se_var 0 rfl (.inl rfl)) (se_var 1 rfl (.inl rfl))) (blkOk_by (N := N_law_like) (sc := (defScope (top 20))) (own := [("first", 3), ("second", 4)]) (by decide +kernel)) (fun _ _ _ _ _ => (sg_tup rfl (sgs_cons (sg_name (own := (fun i => (([("first", 3), ("second", 4)] : List (Str × Nat)).map (·.2)).contains i)) 3 sc_law_like.nd rfl (.inl rfl) rfl) (sgs_cons (sg_name (own := (fun i => (([("first", 3), ("second", 4)] : List (Str × Nat)).map (·.2)).contains i)) 4 sc_law_like.nd rfl (.inl rfl) rfl) sgs_nil)) (.cons (.cons .nil)))) (fun _ _ _ _ _ => (spt_one (st_not (st_truth (se_call self hr takes_N rfl (sa_cons (se_var 3 rfl (.inl rfl)) (sa_cons (se_var 4 rfl (.inl rfl)) sa_nil))))))) (fun _ _ _ _ _ => se_int)) (se_lst sa_nil)))))) sb_nil)
  (sb_one (ss_ret (se_eq hr (se_var 0 rfl (.inl rfl)) (se_var 1 rfl (.inl rfl))))))))

/-! FormulaReader_init -/
abbrev N_FormulaReader_init : List Str := ["self"]
theorem sc_FormulaReader_init : FnScope N_FormulaReader_init ["self"] (defScope (mtd 10 0)) := ⟨rfl, rfl, rfl, by decide +kernel, rfl, by decide +kernel, by decide +kernel⟩
def cb_FormulaReader_init : Py.Sv :=
  (asgS (tgT (tgsCons (tgFld ["FormulaReader"] "rows" (varI 0)) (tgsCons (tgFld ["FormulaReader"] "figures" (varI 0)) (tgsCons (tgFld ["FormulaReader"] "has_part" (varI 0)) tgsNil)))) (opN fTup (consI (opN fMut (consI (opN fMut nilI) nilI)) (consI (conI (.str [])) (consI (conI (.bl false)) nilI)))))
def f_FormulaReader_init : Py.Fn := Py.fnI 1 1 cb_FormulaReader_init
theorem ok_FormulaReader_init (Y : Yes K mg base T) : MkAt P w K mg T base 1 "FormulaReader" 1 f_FormulaReader_init := by
  obtain ⟨fd, F⟩ := Y.m_FormulaReader_init
  exact mk_at (k := 0) F Y.g_FormulaReader Y.i_FormulaReader sc_FormulaReader_init (F.bindsN fun _ _ _ _ _ _ us hl => match us, hl with | [_], _ => rfl) fun cdv A outer s H E hr =>
  (sb_one (ss_asg (se_tup (sa_cons (se_mut (sa_cons (se_mut sa_nil) sa_nil)) (sa_cons (se_strL [] (by decide +kernel) (by decide +kernel)) (sa_cons se_bl sa_nil)))) (sg_tup rfl (sgs_cons (sg_fld (one_of Y.a_FormulaReader_rows) (se_var 0 rfl (.inl rfl))) (sgs_cons (sg_fld (one_of Y.a_FormulaReader_figures) (se_var 0 rfl (.inl rfl))) (sgs_cons (sg_fld (one_of Y.a_FormulaReader_has_part) (se_var 0 rfl (.inl rfl))) sgs_nil))) (.cons (.cons (.cons .nil))))))

/-! FormulaReader_take_figure -/
abbrev N_FormulaReader_take_figure : List Str := ["self", "sign", "number"]
theorem sc_FormulaReader_take_figure : FnScope N_FormulaReader_take_figure ["self", "sign"] (defScope (mtd 10 3)) := ⟨rfl, rfl, rfl, by decide +kernel, rfl, by decide +kernel, by decide +kernel⟩
def cb_FormulaReader_take_figure : Py.Sv :=
  (seqS (asgS (tgN 2) (op2 fAdd (op1 (fFld ["FormulaReader"] "figures") (varI 0)) (varI 1)))
  (seqS (ifS (tOr (tNot (tTruth (op1 (fFld ["FormulaReader"] "has_part") (varI 0)))) (tOr (tB (op2 fEq (op2 fIx (varI 2) (conI (.int 0))) (conI (.str [48])))) (tB (op2 fGt (opN fInt (consI (varI 2) nilI)) (conI (.int 99)))))) (retS (conI (.bl false))) passS)
  (seqS (asgS (tgFld ["FormulaReader"] "figures" (varI 0)) (varI 2))
  (retS (conI (.bl true))))))
def f_FormulaReader_take_figure : Py.Fn := Py.fnI 2 3 cb_FormulaReader_take_figure
theorem ok_FormulaReader_take_figure (Y : Yes K mg base T) : MtAt P w K mg T base 1 "FormulaReader" "take_figure" 2 f_FormulaReader_take_figure := by
  obtain ⟨fd, F⟩ := Y.m_FormulaReader_take_figure
  exact mt_at (k := 0) F Y.g_FormulaReader Y.s_FormulaReader Y.h_FormulaReader_take_figure sc_FormulaReader_take_figure (F.bindsN fun _ _ _ _ _ _ us hl => match us, hl with | [_, _], _ => rfl) fun cdv A outer s H E hr =>
  (sb_cons (ss_set 2 sc_FormulaReader_take_figure.nd rfl (.inl rfl) (se_add (se_fld (one_of Y.a_FormulaReader_figures) (se_var 0 rfl (.inl rfl))) (se_var 1 rfl (.inl rfl))))
  (sb_cons (ss_if (st_w (sw_or (st_not (st_truth (se_fld (one_of Y.a_FormulaReader_has_part) (se_var 0 rfl (.inl rfl))))) (sw_or (st_eq hr (se_ix (se_var 2 rfl (.inl rfl)) se_int) (se_strL [48] (by decide +kernel) (by decide +kernel))) (sw_or1 (st_gt (se_intC Y.n_int rfl (sa_cons (se_var 2 rfl (.inl rfl)) sa_nil)) (se_gint Y.k_NUMBER rfl)))))) (sb_one (ss_ret se_bl)) sb_nil)
  (sb_cons (ss_fld (one_of Y.a_FormulaReader_figures) (se_var 0 rfl (.inl rfl)) (se_var 2 rfl (.inl rfl)))
  (sb_one (ss_ret se_bl)))))

/-! FormulaReader_close_part -/
abbrev N_FormulaReader_close_part : List Str := ["self", "part"]
theorem sc_FormulaReader_close_part : FnScope N_FormulaReader_close_part ["self"] (defScope (mtd 10 1)) := ⟨rfl, rfl, rfl, by decide +kernel, rfl, by decide +kernel, by decide +kernel⟩
def cb_FormulaReader_close_part : Py.Sv :=
  (seqS (ifS (tB (op2 fEq (op1 (fFld ["FormulaReader"] "figures") (varI 0)) (conI (.str [49])))) (retS (conI (.bl false))) passS)
  (seqS (ifS (tB (op2 fNe (op1 (fFld ["FormulaReader"] "figures") (varI 0)) (conI (.str [])))) (seqS (asgS (tgN 1) (methL fPop (op2 fIx (op1 (fFld ["FormulaReader"] "rows") (varI 0)) (op1 fNeg (conI (.int 1)))) nilI))
  (exprS (methL fAppend (op2 fIx (op1 (fFld ["FormulaReader"] "rows") (varI 0)) (op1 fNeg (conI (.int 1)))) (consI (opN fTup (consI (op2 fIx (varI 1) (conI (.int 0))) (consI (opN fInt (consI (op1 (fFld ["FormulaReader"] "figures") (varI 0)) nilI)) nilI))) nilI)))) passS)
  (seqS (asgS (tgFld ["FormulaReader"] "figures" (varI 0)) (conI (.str [])))
  (retS (conI (.bl true))))))
def f_FormulaReader_close_part : Py.Fn := Py.fnI 1 2 cb_FormulaReader_close_part
theorem ok_FormulaReader_close_part (Y : Yes K mg base T) : MtAt P w K mg T base 1 "FormulaReader" "close_part" 1 f_FormulaReader_close_part := by
  obtain ⟨fd, F⟩ := Y.m_FormulaReader_close_part
  exact mt_at (k := 0) F Y.g_FormulaReader Y.s_FormulaReader Y.h_FormulaReader_close_part sc_FormulaReader_close_part (F.bindsN fun _ _ _ _ _ _ us hl => match us, hl with | [_], _ => rfl) fun cdv A outer s H E hr =>
  (sb_cons (ss_if (st_eq hr (se_fld (one_of Y.a_FormulaReader_figures) (se_var 0 rfl (.inl rfl))) (se_strL [49] (by decide +kernel) (by decide +kernel))) (sb_one (ss_ret se_bl)) sb_nil)
  (sb_cons (ss_if (st_ne hr (se_fld (one_of Y.a_FormulaReader_figures) (se_var 0 rfl (.inl rfl))) (se_strL [] (by decide +kernel) (by decide +kernel))) (sb_cons (ss_set 1 sc_FormulaReader_close_part.nd rfl (.inl rfl) (se_pop0 (se_ix (se_fld (one_of Y.a_FormulaReader_rows) (se_var 0 rfl (.inl rfl))) (se_neg se_int))))
  (sb_one (ss_expr (se_append (se_ix (se_fld (one_of Y.a_FormulaReader_rows) (se_var 0 rfl (.inl rfl))) (se_neg se_int)) (sa_cons (se_tup (sa_cons (se_ix (se_var 1 rfl (.inl rfl)) se_int) (sa_cons (se_intC Y.n_int rfl (sa_cons (se_fld (one_of Y.a_FormulaReader_figures) (se_var 0 rfl (.inl rfl))) sa_nil)) sa_nil))) sa_nil))))) sb_nil)
  (sb_cons (ss_fld (one_of Y.a_FormulaReader_figures) (se_var 0 rfl (.inl rfl)) (se_strL [] (by decide +kernel) (by decide +kernel)))
  (sb_one (ss_ret se_bl)))))

/-! FormulaReader_add -/
abbrev N_FormulaReader_add : List Str := ["self", "part"]
theorem sc_FormulaReader_add : FnScope N_FormulaReader_add ["self", "part"] (defScope (mtd 10 2)) := ⟨rfl, rfl, rfl, by decide +kernel, rfl, by decide +kernel, by decide +kernel⟩
def cb_FormulaReader_add : Py.Sv :=
  (seqS (exprS (methL fAppend (op2 fIx (op1 (fFld ["FormulaReader"] "rows") (varI 0)) (op1 fNeg (conI (.int 1)))) (consI (opN fTup (consI (varI 1) (consI (conI (.int 1)) nilI))) nilI)))
  (asgS (tgFld ["FormulaReader"] "has_part" (varI 0)) (conI (.bl true))))
def f_FormulaReader_add : Py.Fn := Py.fnI 2 2 cb_FormulaReader_add
theorem ok_FormulaReader_add (Y : Yes K mg base T) : MtAt P w K mg T base 1 "FormulaReader" "add" 2 f_FormulaReader_add := by
  obtain ⟨fd, F⟩ := Y.m_FormulaReader_add
  exact mt_at (k := 0) F Y.g_FormulaReader Y.s_FormulaReader Y.h_FormulaReader_add sc_FormulaReader_add (F.bindsN fun _ _ _ _ _ _ us hl => match us, hl with | [_, _], _ => rfl) fun cdv A outer s H E hr =>
  (sb_cons (ss_expr (se_append (se_ix (se_fld (one_of Y.a_FormulaReader_rows) (se_var 0 rfl (.inl rfl))) (se_neg se_int)) (sa_cons (se_tup (sa_cons (se_var 1 rfl (.inl rfl)) (sa_cons se_int sa_nil))) sa_nil)))
  (sb_one (ss_fld (one_of Y.a_FormulaReader_has_part) (se_var 0 rfl (.inl rfl)) se_bl)))

/-! FormulaReader_add_bracket -/
abbrev N_FormulaReader_add_bracket : List Str := ["self", "parts"]
theorem sc_FormulaReader_add_bracket : FnScope N_FormulaReader_add_bracket ["self"] (defScope (mtd 10 5)) := ⟨rfl, rfl, rfl, by decide +kernel, rfl, by decide +kernel, by decide +kernel⟩
def cb_FormulaReader_add_bracket : Py.Sv :=
  (seqS (asgS (tgN 1) (opN fTuple (consI (methL fPop (op1 (fFld ["FormulaReader"] "rows") (varI 0)) nilI) nilI)))
  (exprS (mcallI [("FormulaReader", f_FormulaReader_add)] "add" (varI 0) (consI (varI 1) nilI))))
def f_FormulaReader_add_bracket : Py.Fn := Py.fnI 1 2 cb_FormulaReader_add_bracket
theorem ok_FormulaReader_add_bracket (Y : Yes K mg base T) : MtAt P w K mg T base 2 "FormulaReader" "add_bracket" 1 f_FormulaReader_add_bracket := by
  obtain ⟨fd, F⟩ := Y.m_FormulaReader_add_bracket
  exact mt_at (k := 1) F Y.g_FormulaReader Y.s_FormulaReader Y.h_FormulaReader_add_bracket sc_FormulaReader_add_bracket (F.bindsN fun _ _ _ _ _ _ us hl => match us, hl with | [_], _ => rfl) fun cdv A outer s H E hr =>
  (sb_cons (ss_set 1 sc_FormulaReader_add_bracket.nd rfl (.inl rfl) (se_tuple Y.n_tuple rfl (sa_cons (se_pop0 (se_fld (one_of Y.a_FormulaReader_rows) (se_var 0 rfl (.inl rfl)))) sa_nil)))
  (sb_one (ss_expr (se_meth (tbl := [("FormulaReader", f_FormulaReader_add)]) (n := 0) (se_var 0 rfl (.inl rfl)) (one_of (ok_FormulaReader_add Y)) (hr.mono (by decide)) (L2N.takes_of rfl rfl rfl rfl) (sa_cons (se_var 1 rfl (.inl rfl)) sa_nil)))))

/-! FormulaReader_take -/
abbrev N_FormulaReader_take : List Str := ["self", "sign"]
theorem sc_FormulaReader_take : FnScope N_FormulaReader_take ["self", "sign"] (defScope (mtd 10 4)) := ⟨rfl, rfl, rfl, by decide +kernel, rfl, by decide +kernel, by decide +kernel⟩
def cb_FormulaReader_take : Py.Sv :=
  (seqS (ifS (tB (op2 (fIn false) (varI 1) (conI (.str [48, 49, 50, 51, 52, 53, 54, 55, 56, 57])))) (retS (mcallI [("FormulaReader", f_FormulaReader_take_figure)] "take_figure" (varI 0) (consI (varI 1) nilI))) passS)
  (seqS (ifS (tNot (tTruth (mcallI [("FormulaReader", f_FormulaReader_close_part)] "close_part" (varI 0) nilI))) (retS (conI (.bl false))) passS)
  (seqS (ifS (tB (op2 (fIn false) (varI 1) (conI (.str [65, 66, 67, 68, 69, 70])))) (seqS (exprS (mcallI [("FormulaReader", f_FormulaReader_add)] "add" (varI 0) (consI (varI 1) nilI)))
  (retS (conI (.bl true)))) passS)
  (seqS (ifS (tAnd (tB (op2 fEq (varI 1) (conI (.str [40])))) (tB (op2 fLe (opN fLen (consI (op1 (fFld ["FormulaReader"] "rows") (varI 0)) nilI)) (conI (.int 20))))) (seqS (exprS (methL fAppend (op1 (fFld ["FormulaReader"] "rows") (varI 0)) (consI (opN fMut nilI) nilI)))
  (seqS (asgS (tgFld ["FormulaReader"] "has_part" (varI 0)) (conI (.bl false)))
  (retS (conI (.bl true))))) passS)
  (seqS (ifS (tOr (tB (op2 fNe (varI 1) (conI (.str [41])))) (tOr (tB (op2 fEq (opN fLen (consI (op1 (fFld ["FormulaReader"] "rows") (varI 0)) nilI)) (conI (.int 1)))) (tNot (tTruth (op1 (fFld ["FormulaReader"] "has_part") (varI 0)))))) (retS (conI (.bl false))) passS)
  (seqS (exprS (mcallI [("FormulaReader", f_FormulaReader_add_bracket)] "add_bracket" (varI 0) nilI))
  (retS (conI (.bl true)))))))))
def f_FormulaReader_take : Py.Fn := Py.fnI 2 2 cb_FormulaReader_take
theorem ok_FormulaReader_take (Y : Yes K mg base T) : MtAt P w K mg T base 3 "FormulaReader" "take" 2 f_FormulaReader_take := by
  obtain ⟨fd, F⟩ := Y.m_FormulaReader_take
  exact mt_at (k := 2) F Y.g_FormulaReader Y.s_FormulaReader Y.h_FormulaReader_take sc_FormulaReader_take (F.bindsN fun _ _ _ _ _ _ us hl => match us, hl with | [_, _], _ => rfl) fun cdv A outer s H E hr =>
  (sb_cons (ss_if (st_in (se_var 1 rfl (.inl rfl)) (se_gstr Y.k_FIGURES rfl (by decide +kernel))) (sb_one (ss_ret (se_meth (tbl := [("FormulaReader", f_FormulaReader_take_figure)]) (n := 0) (se_var 0 rfl (.inl rfl)) (one_of (ok_FormulaReader_take_figure Y)) (hr.mono (by decide)) (L2N.takes_of rfl rfl rfl rfl) (sa_cons (se_var 1 rfl (.inl rfl)) sa_nil)))) sb_nil)
  (sb_cons (ss_if (st_not (st_truth (se_meth0 (tbl := [("FormulaReader", f_FormulaReader_close_part)]) (se_var 0 rfl (.inl rfl)) (one_of (ok_FormulaReader_close_part Y)) (hr.mono (by decide)) (L2N.takes_of rfl rfl rfl rfl)))) (sb_one (ss_ret se_bl)) sb_nil)
  (sb_cons (ss_if (st_in (se_var 1 rfl (.inl rfl)) (se_gstr Y.k_KINDS rfl (by decide +kernel))) (sb_cons (ss_expr (se_meth (tbl := [("FormulaReader", f_FormulaReader_add)]) (n := 0) (se_var 0 rfl (.inl rfl)) (one_of (ok_FormulaReader_add Y)) (hr.mono (by decide)) (L2N.takes_of rfl rfl rfl rfl) (sa_cons (se_var 1 rfl (.inl rfl)) sa_nil)))
  (sb_one (ss_ret se_bl))) sb_nil)
  (sb_cons (ss_if (st_w (sw_and (st_eq hr (se_var 1 rfl (.inl rfl)) (se_strL [40] (by decide +kernel) (by decide +kernel))) (sw_and1 (st_le (se_len Y.n_len rfl (sa_cons (se_fld (one_of Y.a_FormulaReader_rows) (se_var 0 rfl (.inl rfl))) sa_nil)) (se_gint Y.k_DEPTH rfl))))) (sb_cons (ss_expr (se_append (se_fld (one_of Y.a_FormulaReader_rows) (se_var 0 rfl (.inl rfl))) (sa_cons (se_mut sa_nil) sa_nil)))
  (sb_cons (ss_fld (one_of Y.a_FormulaReader_has_part) (se_var 0 rfl (.inl rfl)) se_bl)
  (sb_one (ss_ret se_bl)))) sb_nil)
  (sb_cons (ss_if (st_w (sw_or (st_ne hr (se_var 1 rfl (.inl rfl)) (se_strL [41] (by decide +kernel) (by decide +kernel))) (sw_or (st_eq hr (se_len Y.n_len rfl (sa_cons (se_fld (one_of Y.a_FormulaReader_rows) (se_var 0 rfl (.inl rfl))) sa_nil)) se_int) (sw_or1 (st_not (st_truth (se_fld (one_of Y.a_FormulaReader_has_part) (se_var 0 rfl (.inl rfl))))))))) (sb_one (ss_ret se_bl)) sb_nil)
  (sb_cons (ss_expr (se_meth0 (tbl := [("FormulaReader", f_FormulaReader_add_bracket)]) (se_var 0 rfl (.inl rfl)) (one_of (ok_FormulaReader_add_bracket Y)) (hr.mono (by decide)) (L2N.takes_of rfl rfl rfl rfl)))
  (sb_one (ss_ret se_bl))))))))

/-! FormulaReader_is_whole -/
abbrev N_FormulaReader_is_whole : List Str := ["self"]
theorem sc_FormulaReader_is_whole : FnScope N_FormulaReader_is_whole ["self"] (defScope (mtd 10 6)) := ⟨rfl, rfl, rfl, by decide +kernel, rfl, by decide +kernel, by decide +kernel⟩
def cb_FormulaReader_is_whole : Py.Sv :=
  (retS (andV (op1 (fFld ["FormulaReader"] "has_part") (varI 0)) (andV (op2 fEq (opN fLen (consI (op1 (fFld ["FormulaReader"] "rows") (varI 0)) nilI)) (conI (.int 1))) (op2 fNe (op1 (fFld ["FormulaReader"] "figures") (varI 0)) (conI (.str [49]))))))
def f_FormulaReader_is_whole : Py.Fn := Py.fnI 1 1 cb_FormulaReader_is_whole
theorem ok_FormulaReader_is_whole (Y : Yes K mg base T) : MtAt P w K mg T base 1 "FormulaReader" "is_whole" 1 f_FormulaReader_is_whole := by
  obtain ⟨fd, F⟩ := Y.m_FormulaReader_is_whole
  exact mt_at (k := 0) F Y.g_FormulaReader Y.s_FormulaReader Y.h_FormulaReader_is_whole sc_FormulaReader_is_whole (F.bindsN fun _ _ _ _ _ _ us hl => match us, hl with | [_], _ => rfl) fun cdv A outer s H E hr =>
  (sb_one (ss_ret (se_and (se_fld (one_of Y.a_FormulaReader_has_part) (se_var 0 rfl (.inl rfl))) (se_and (se_eq hr (se_len Y.n_len rfl (sa_cons (se_fld (one_of Y.a_FormulaReader_rows) (se_var 0 rfl (.inl rfl))) sa_nil)) se_int) (se_one (se_ne hr (se_fld (one_of Y.a_FormulaReader_figures) (se_var 0 rfl (.inl rfl))) (se_strL [49] (by decide +kernel) (by decide +kernel))))))))

/-! read -/
abbrev N_read : List Str := ["text", "reader", "at", "sign"]
theorem sc_read : FnScope N_read ["text"] (defScope (top 11)) := ⟨rfl, rfl, rfl, by decide +kernel, rfl, by decide +kernel, by decide +kernel⟩
def cb_read : Py.Sv :=
  (seqS (asgS (tgN 1) (opN (fMake "FormulaReader" f_FormulaReader_init) nilI))
  (seqS (forS (enumI (varI 0)) (tgT (tgsCons (tgN 2) (tgsCons (tgN 3) tgsNil))) (ifS (tNot (tTruth (mcallI [("FormulaReader", f_FormulaReader_take)] "take" (varI 1) (consI (varI 3) nilI)))) (retS (opN fTup (consI (varI 2) (consI (opN fTup nilI) nilI)))) passS))
  (seqS (ifS (tNot (tTruth (mcallI [("FormulaReader", f_FormulaReader_is_whole)] "is_whole" (varI 1) nilI))) (retS (opN fTup (consI (opN fLen (consI (varI 0) nilI)) (consI (opN fTup nilI) nilI)))) passS)
  (seqS (exprS (mcallI [("FormulaReader", f_FormulaReader_close_part)] "close_part" (varI 1) nilI))
  (retS (opN fTup (consI (conI .non) (consI (opN fTuple (consI (op2 fIx (op1 (fFld ["FormulaReader"] "rows") (varI 1)) (conI (.int 0))) nilI)) nilI))))))))
def f_read : Py.Fn := Py.fnI 1 4 cb_read
theorem ok_read (Y : Yes K mg base T) : FnAt P w K mg T base 4 "read" 1 f_read := by
  obtain ⟨fd, F⟩ := Y.d_read
  exact fn_at (k := 3) F Y.g_read sc_read (F.bindsN fun _ _ _ _ _ _ us hl => match us, hl with | [_], _ => rfl) fun cdv A outer s H E hr =>
  (sb_cons (ss_set 1 sc_read.nd rfl (.inl rfl) (se_make0 (c := "FormulaReader") (ok_FormulaReader_init Y) (hr.mono (by decide)) (L2N.takes_of rfl rfl rfl rfl) rfl))
  (sb_cons (ss_for (own := fun _ => true) (L2.passes_of rfl) rfl (si_enum Y.n_enumerate rfl (se_var 0 rfl (.inl rfl))) (sg_tup rfl (sgs_cons (sg_name (own := (fun _ => true)) 2 sc_read.nd rfl (.inl rfl) rfl) (sgs_cons (sg_name (own := (fun _ => true)) 3 sc_read.nd rfl (.inl rfl) rfl) sgs_nil)) (.cons (.cons .nil))) (sb_one (ss_if (st_not (st_truth (se_meth (tbl := [("FormulaReader", f_FormulaReader_take)]) (n := 0) (se_var 1 rfl (.inl rfl)) (one_of (ok_FormulaReader_take Y)) (hr.mono (by decide)) (L2N.takes_of rfl rfl rfl rfl) (sa_cons (se_var 3 rfl (.inl rfl)) sa_nil)))) (sb_one (ss_ret (se_tup (sa_cons (se_var 2 rfl (.inl rfl)) (sa_cons (se_tup sa_nil) sa_nil))))) sb_nil)))
  (sb_cons (ss_if (st_not (st_truth (se_meth0 (tbl := [("FormulaReader", f_FormulaReader_is_whole)]) (se_var 1 rfl (.inl rfl)) (one_of (ok_FormulaReader_is_whole Y)) (hr.mono (by decide)) (L2N.takes_of rfl rfl rfl rfl)))) (sb_one (ss_ret (se_tup (sa_cons (se_len Y.n_len rfl (sa_cons (se_var 0 rfl (.inl rfl)) sa_nil)) (sa_cons (se_tup sa_nil) sa_nil))))) sb_nil)
  (sb_cons (ss_expr (se_meth0 (tbl := [("FormulaReader", f_FormulaReader_close_part)]) (se_var 1 rfl (.inl rfl)) (one_of (ok_FormulaReader_close_part Y)) (hr.mono (by decide)) (L2N.takes_of rfl rfl rfl rfl)))
  (sb_one (ss_ret (se_tup (sa_cons se_non (sa_cons (se_tuple Y.n_tuple rfl (sa_cons (se_ix (se_fld (one_of Y.a_FormulaReader_rows) (se_var 1 rfl (.inl rfl))) se_int) sa_nil)) sa_nil)))))))))

/-! fits -/
abbrev N_fits : List Str := ["value"]
theorem sc_fits : FnScope N_fits ["value"] (defScope (top 12)) := ⟨rfl, rfl, rfl, by decide +kernel, rfl, by decide +kernel, by decide +kernel⟩
def cb_fits : Py.Sv :=
  (retS (andV (op1 (fIsI "str") (varI 0)) (andV (op2 fLe (opN fLen (consI (varI 0) nilI)) (conI (.int 200))) (op1 fIsN (op2 fIx (opN f_read (consI (varI 0) nilI)) (conI (.int 0)))))))
def f_fits : Py.Fn := Py.fnI 1 1 cb_fits
theorem ok_fits (Y : Yes K mg base T) : FnAt P w K mg T base 5 "fits" 1 f_fits := by
  obtain ⟨fd, F⟩ := Y.d_fits
  exact fn_at (k := 4) F Y.g_fits sc_fits (F.bindsN fun _ _ _ _ _ _ us hl => match us, hl with | [_], _ => rfl) fun cdv A outer s H E hr =>
  (sb_one (ss_ret (se_and (se_isi "str" (by decide) Y.n_isinstance rfl Y.n_str rfl (by decide +kernel) (se_var 0 rfl (.inl rfl))) (se_and (se_le (se_len Y.n_len rfl (sa_cons (se_var 0 rfl (.inl rfl)) sa_nil)) (se_gint Y.k_SIGNS rfl)) (se_one (se_isN (se_ix (se_call (ok_read Y) (hr.mono (by decide)) (L2N.takes_of rfl rfl rfl rfl) rfl (sa_cons (se_var 0 rfl (.inl rfl)) sa_nil)) se_int)))))))

/-! is_formula -/
abbrev N_is_formula : List Str := ["value"]
theorem sc_is_formula : FnScope N_is_formula ["value"] (defScope (top 13)) := ⟨rfl, rfl, rfl, by decide +kernel, rfl, by decide +kernel, by decide +kernel⟩
def cb_is_formula : Py.Sv :=
  (retS (opN f_fits (consI (varI 0) nilI)))
def f_is_formula : Py.Fn := Py.fnI 1 1 cb_is_formula
theorem ok_is_formula (Y : Yes K mg base T) : FnAt P w K mg T base 6 "is_formula" 1 f_is_formula := by
  obtain ⟨fd, F⟩ := Y.d_is_formula
  exact fn_at (k := 5) F Y.g_is_formula sc_is_formula (F.bindsN fun _ _ _ _ _ _ us hl => match us, hl with | [_], _ => rfl) fun cdv A outer s H E hr =>
  (sb_one (ss_ret (se_call (ok_fits Y) (hr.mono (by decide)) (L2N.takes_of rfl rfl rfl rfl) rfl (sa_cons (se_var 0 rfl (.inl rfl)) sa_nil))))

/-! bad_at -/
abbrev N_bad_at : List Str := ["text"]
theorem sc_bad_at : FnScope N_bad_at ["text"] (defScope (top 14)) := ⟨rfl, rfl, rfl, by decide +kernel, rfl, by decide +kernel, by decide +kernel⟩
def cb_bad_at : Py.Sv :=
  (seqS (ifS (tOr (tNot (tTruth (op1 (fIsI "str") (varI 0)))) (tB (op2 fGt (opN fLen (consI (varI 0) nilI)) (conI (.int 20000))))) (raiseS ⟨"InvalidText", []⟩) passS)
  (retS (op2 fIx (opN f_read (consI (varI 0) nilI)) (conI (.int 0)))))
def f_bad_at : Py.Fn := Py.fnI 1 1 cb_bad_at
theorem ok_bad_at (Y : Yes K mg base T) : FnAt P w K mg T base 5 "bad_at" 1 f_bad_at := by
  obtain ⟨fd, F⟩ := Y.d_bad_at
  exact fn_at (k := 4) F Y.g_bad_at sc_bad_at (F.bindsN fun _ _ _ _ _ _ us hl => match us, hl with | [_], _ => rfl) fun cdv A outer s H E hr =>
  (sb_cons (ss_if (st_w (sw_or (st_not (st_truth (se_isi "str" (by decide) Y.n_isinstance rfl Y.n_str rfl (by decide +kernel) (se_var 0 rfl (.inl rfl))))) (sw_or1 (st_gt (se_len Y.n_len rfl (sa_cons (se_var 0 rfl (.inl rfl)) sa_nil)) (se_gint Y.k_TEXT rfl))))) (sb_one (ss_raise (c := "InvalidText") rfl (L2N.takes_of rfl rfl rfl rfl) Y.e_InvalidText rfl)) sb_nil)
  (sb_one (ss_ret (se_ix (se_call (ok_read Y) (hr.mono (by decide)) (L2N.takes_of rfl rfl rfl rfl) rfl (sa_cons (se_var 0 rfl (.inl rfl)) sa_nil)) se_int))))

/-! _law_right -/
abbrev N_law_right : List Str := ["text", "due"]
theorem sc_law_right : FnScope N_law_right ["text"] (defScope (top 26)) := ⟨rfl, rfl, rfl, by decide +kernel, rfl, by decide +kernel, by decide +kernel⟩
def cb_law_right : Py.Sv :=
  (seqS (asgS (tgN 1) (opN f_law_due (consI (varI 0) nilI)))
  (retS (opN (f_law_like 4) (consI (opN fLst (consI (opN f_bad_at (consI (varI 0) nilI)) (consI (opN f_is_formula (consI (varI 0) nilI)) nilI))) (consI (opN fLst (consI (varI 1) (consI (andV (op1 fIsN (varI 1)) (op2 fLe (opN fLen (consI (varI 0) nilI)) (conI (.int 200)))) nilI))) nilI)))))
def f_law_right : Py.Fn := Py.fnI 1 2 cb_law_right
theorem ok_law_right (Y : Yes K mg base T) : FnAt P w K mg T base 7 "_law_right" 1 f_law_right := by
  obtain ⟨fd, F⟩ := Y.d_law_right
  exact fn_at (k := 6) F Y.g_law_right sc_law_right (F.bindsN fun _ _ _ _ _ _ us hl => match us, hl with | [_], _ => rfl) fun cdv A outer s H E hr =>
  (sb_cons (ss_set 1 sc_law_right.nd rfl (.inl rfl) (se_call (ok_law_due Y) (hr.mono (by decide)) (L2N.takes_of rfl rfl rfl rfl) rfl (sa_cons (se_var 0 rfl (.inl rfl)) sa_nil)))
  (sb_one (ss_ret (se_call (ok_law_like Y 4) (hr.mono (by decide)) (L2N.takes_of rfl rfl rfl rfl) rfl (sa_cons (se_lst (sa_cons (se_call (ok_bad_at Y) (hr.mono (by decide)) (L2N.takes_of rfl rfl rfl rfl) rfl (sa_cons (se_var 0 rfl (.inl rfl)) sa_nil)) (sa_cons (se_call (ok_is_formula Y) (hr.mono (by decide)) (L2N.takes_of rfl rfl rfl rfl) rfl (sa_cons (se_var 0 rfl (.inl rfl)) sa_nil)) sa_nil))) (sa_cons (se_lst (sa_cons (se_var 1 rfl (.inl rfl)) (sa_cons (se_and (se_isN (se_var 1 rfl (.inl rfl))) (se_one (se_le (se_len Y.n_len rfl (sa_cons (se_var 0 rfl (.inl rfl)) sa_nil)) se_int))) sa_nil))) sa_nil))))))

/-! _law_near -/
abbrev N_law_near : List Str := ["cup", "text", "at", "sign"]
theorem sc_law_near : FnScope N_law_near ["cup", "text"] (defScope (top 25)) := ⟨rfl, rfl, rfl, by decide +kernel, rfl, by decide +kernel, by decide +kernel⟩
def cb_law_near : Py.Sv :=
  (seqS (asgS (tgT (tgsCons (tgN 2) (tgsCons (tgN 3) tgsNil))) (opN fTup (consI (opN f_law_roll (consI (varI 0) (consI (op2 fAdd (opN fLen (consI (varI 1) nilI)) (conI (.int 1))) nilI))) (consI (opN f_law_some (consI (varI 0) (consI (conI (.str [65, 66, 70, 40, 41, 48, 49, 50, 57, 71, 97, 32, 10])) nilI))) nilI))))
  (retS (opN f_law_some (consI (varI 0) (consI (opN fLst (consI (sliceI (varI 1) noPart (part (varI 2))) (consI (op2 fAdd (op2 fAdd (sliceI (varI 1) noPart (part (varI 2))) (varI 3)) (sliceI (varI 1) (part (varI 2)) noPart)) (consI (op2 fAdd (sliceI (varI 1) noPart (part (varI 2))) (sliceI (varI 1) (part (op2 fAdd (varI 2) (conI (.int 1)))) noPart)) (consI (op2 fAdd (op2 fAdd (sliceI (varI 1) noPart (part (varI 2))) (varI 3)) (sliceI (varI 1) (part (op2 fAdd (varI 2) (conI (.int 1)))) noPart)) nilI))))) nilI)))))
def f_law_near : Py.Fn := Py.fnI 2 4 cb_law_near
theorem ok_law_near (Y : Yes K mg base T) : FnAt P w K mg T base 3 "_law_near" 2 f_law_near := by
  obtain ⟨fd, F⟩ := Y.d_law_near
  exact fn_at (k := 2) F Y.g_law_near sc_law_near (F.bindsN fun _ _ _ _ _ _ us hl => match us, hl with | [_, _], _ => rfl) fun cdv A outer s H E hr =>
  (sb_cons (ss_par 2 3 rfl sc_law_near.nd rfl rfl (by decide) rfl rfl (sa_cons (se_call (ok_law_roll Y) (hr.mono (by decide)) (L2N.takes_of rfl rfl rfl rfl) rfl (sa_cons (se_var 0 rfl (.inl rfl)) (sa_cons (se_add (se_len Y.n_len rfl (sa_cons (se_var 1 rfl (.inl rfl)) sa_nil)) se_int) sa_nil))) (sa_cons (se_call (ok_law_some Y) (hr.mono (by decide)) (L2N.takes_of rfl rfl rfl rfl) rfl (sa_cons (se_var 0 rfl (.inl rfl)) (sa_cons (se_strL [65, 66, 70, 40, 41, 48, 49, 50, 57, 71, 97, 32, 10] (by decide +kernel) (by decide +kernel)) sa_nil))) sa_nil)) rfl)
  (sb_one (ss_ret (se_call (ok_law_some Y) (hr.mono (by decide)) (L2N.takes_of rfl rfl rfl rfl) rfl (sa_cons (se_var 0 rfl (.inl rfl)) (sa_cons (se_lst (sa_cons (se_sl (se_var 1 rfl (.inl rfl)) so_none (so_some (se_var 2 rfl (.inl rfl)))) (sa_cons (se_add (se_add (se_sl (se_var 1 rfl (.inl rfl)) so_none (so_some (se_var 2 rfl (.inl rfl)))) (se_var 3 rfl (.inl rfl))) (se_sl (se_var 1 rfl (.inl rfl)) (so_some (se_var 2 rfl (.inl rfl))) so_none)) (sa_cons (se_add (se_sl (se_var 1 rfl (.inl rfl)) so_none (so_some (se_var 2 rfl (.inl rfl)))) (se_sl (se_var 1 rfl (.inl rfl)) (so_some (se_add (se_var 2 rfl (.inl rfl)) se_int)) so_none)) (sa_cons (se_add (se_add (se_sl (se_var 1 rfl (.inl rfl)) so_none (so_some (se_var 2 rfl (.inl rfl)))) (se_var 3 rfl (.inl rfl))) (se_sl (se_var 1 rfl (.inl rfl)) (so_some (se_add (se_var 2 rfl (.inl rfl)) se_int)) so_none)) sa_nil))))) sa_nil))))))

/-! _law_error -/
abbrev N_law_error : List Str := ["call", "e", "some", "word", "good"]
theorem sc_law_error : FnScope N_law_error ["call"] (defScope (top 24)) := ⟨rfl, rfl, rfl, by decide +kernel, rfl, by decide +kernel, by decide +kernel⟩
def cs_law_error : Py.Sv :=
  (seqS (asgS (tgN 2) (opN fLst (consI (opN fTup (consI (conI (.str [116, 101, 120, 116])) (consI (op1 (fIsX [("InvalidText", true)]) (varI 1)) nilI))) nilI)))
  (retS (op2 fAdd (joinI (conI (.str [32])) (op1 fPick (varI 2))) (conI (.str [32, 101, 114, 114, 111, 114])))))
theorem bd_law_error (Y : Yes K mg base T) : Binds K Y.d_law_error.choose ["call"] [] := Y.d_law_error.choose_spec.bindsN fun _ _ _ _ _ _ us hl => match us, hl with | [_], _ => rfl
theorem gives_law_error {X : Cx} {g : Addr} {cdv : Value} {q : Str} (Y : Yes X.K X.mg base T) : GivesN X N_law_error "_law_error" (defScope (top 24)) g cdv (defBody (top 24)) "call" q (TTell X.mg T.tabs 5 1 cs_law_error ["InvalidText"]) :=
  gives_tell (e := "e") (be := "BenchError") rfl Y.g_BenchError (by decide) sc_law_error.nd rfl rfl (fun _ => rfl) (by decide) (fun c hc A0 hA => (Y.xc c hc A0 hA).2) fun s H a oe pn c A0 hc hA hz hv => by
  have hC := (Y.xc c hc A0 hA).1
  have hot := hot_of (a := a) (X := (cxOf C8.CX0 X.prog X.w X.K X.mg X.base N_law_error "_law_error" (defScope (top 24)) g cdv X.A X.stack s H C8.E0).nox) (pn := pn) hz hv
  exact (sb_cons (ss_set 2 sc_law_error.nd rfl (.inl rfl) (se_lst (sa_cons (se_tup (sa_cons (se_strL [116, 101, 120, 116] (by decide +kernel) (by decide +kernel)) (sa_cons (se_isX Y.q_InvalidText rfl hA hC hz.zc hv rfl Y.n_isinstance rfl (se_var 1 rfl (.inl rfl))) sa_nil))) sa_nil)))
  (sb_one (ss_ret (se_add (se_join (se_strL [32] (by decide +kernel) (by decide +kernel)) (se_pick 3 4 hot List.mem_cons_self sc_law_error.nd rfl rfl (by decide) (blkOk_by (N := N_law_error) (sc := (defScope (top 24))) (own := [("word", 3), ("good", 4)]) (by decide +kernel)) rfl rfl (se_var 2 rfl (.inl rfl)))) (se_strL [32, 101, 114, 114, 111, 114] (by decide +kernel) (by decide +kernel))))))

/-! law -/
abbrev N_law : List Str := ["script", "cup", "turn", "text", "again", "rows", "due", "deep", "words", "odd"]
theorem sc_law : FnScope N_law ["script"] (defScope (top 27)) := ⟨rfl, rfl, rfl, by decide +kernel, rfl, by decide +kernel, by decide +kernel⟩
def cb_law : Py.Sv :=
  (seqS (asgS (tgN 1) (opN f_law_cup (consI (varI 0) nilI)))
  (seqS (forS (it1 (conI (.int 6))) (tgN 2) (seqS (asgS (tgN 3) (opN f_law_short (consI (varI 1) (consI (opN f_law_roll (consI (varI 1) (consI (conI (.int 4)) nilI))) nilI))))
  (forS (it1 (conI (.int 6))) (tgN 4) (seqS (ifS (tNot (tTruth (opN f_law_right (consI (varI 3) nilI)))) (retS (conI (.bl false))) passS)
  (asgS (tgN 3) (opN f_law_near (consI (varI 1) (consI (varI 3) nilI))))))))
  (seqS (asgS (tgN 5) (opN fLst (consI (opN fTup (consI (conI (.str [65, 50, 40, 66, 41])) (consI (conI .non) nilI))) (consI (opN fTup (consI (conI (.str [65, 50, 40, 66])) (consI (conI (.int 4)) nilI))) (consI (opN fTup (consI (conI (.str [65, 49])) (consI (conI (.int 2)) nilI))) (consI (opN fTup (consI (conI (.str [65, 48, 49])) (consI (conI (.int 1)) nilI))) (consI (opN fTup (consI (conI (.str [40, 41])) (consI (conI (.int 1)) nilI))) (consI (opN fTup (consI (conI (.str [])) (consI (conI (.int 0)) nilI))) (consI (opN fTup (consI (conI (.str [65, 49, 48, 48])) (consI (conI (.int 3)) nilI))) (consI (opN fTup (consI (conI (.str [65, 66, 41])) (consI (conI (.int 2)) nilI))) (consI (opN fTup (consI (conI (.str [65, 71])) (consI (conI (.int 1)) nilI))) (consI (opN fTup (consI (conI (.str [65, 49, 66])) (consI (conI (.int 2)) nilI))) (consI (opN fTup (consI (conI (.str [50, 65])) (consI (conI (.int 0)) nilI))) (consI (opN fTup (consI (conI (.str [40, 50, 65, 41])) (consI (conI (.int 1)) nilI))) nilI))))))))))))))
  (seqS (asgS (tgN 5) (op2 fAdd (varI 5) (opN fLst (consI (opN fTup (consI (conI (.str [65, 41, 50])) (consI (conI (.int 1)) nilI))) (consI (opN fTup (consI (conI (.str [40, 40, 65, 41, 50, 41, 57, 57])) (consI (conI .non) nilI))) (consI (opN fTup (consI (conI (.str [65, 32, 50])) (consI (conI (.int 1)) nilI))) (consI (opN fTup (consI (conI (.str [40, 65, 41, 41])) (consI (conI (.int 3)) nilI))) (consI (opN fTup (consI (conI (.str [65, 49, 50, 66, 51])) (consI (conI .non) nilI))) (consI (opN fTup (consI (conI (.str [65, 50, 10])) (consI (conI (.int 2)) nilI))) (consI (opN fTup (consI (conI (.str [40])) (consI (conI (.int 1)) nilI))) (consI (opN fTup (consI (conI (.str [65, 48])) (consI (conI (.int 1)) nilI))) (consI (opN fTup (consI (conI (.str [40, 65, 41, 40])) (consI (conI (.int 4)) nilI))) nilI))))))))))))
  (seqS (forS (itI (varI 5)) (tgT (tgsCons (tgN 3) (tgsCons (tgN 6) tgsNil))) (ifS (tOr (tB (op2 fNe (opN f_law_due (consI (varI 3) nilI)) (varI 6))) (tNot (tTruth (opN f_law_right (consI (varI 3) nilI))))) (retS (conI (.bl false))) passS))
  (seqS (asgS (tgN 7) (op2 fAdd (op2 fAdd (op2 fMul (conI (.str [40])) (conI (.int 20))) (conI (.str [65]))) (op2 fMul (conI (.str [41, 50])) (conI (.int 20)))))
  (seqS (forS (itI (opN fTup (consI (varI 7) (consI (op2 fAdd (op2 fAdd (conI (.str [40])) (varI 7)) (conI (.str [41]))) (consI (op2 fMul (conI (.str [40])) (conI (.int 21))) (consI (op2 fMul (conI (.str [65])) (conI (.int 200))) (consI (op2 fMul (conI (.str [65])) (conI (.int 201))) (consI (op2 fMul (conI (.str [65, 66])) (conI (.int 100))) (consI (op2 fMul (conI (.str [40, 65, 41, 57, 57])) (conI (.int 40))) (consI (op2 fAdd (op2 fMul (conI (.str [70, 57])) (conI (.int 100))) (conI (.str [66]))) nilI)))))))))) (tgN 3) (ifS (tNot (tTruth (opN f_law_right (consI (varI 3) nilI)))) (retS (conI (.bl false))) passS))
  (seqS (ifS (tB (op2 fNe (compI (itI (opN fTup (consI (conI .non) (consI (conI (.int 5)) (consI (opN fLst (consI (conI (.str [65])) nilI)) (consI (opN fTup (consI (conI (.str [65])) nilI)) (consI (conI (.bl true)) nilI))))))) [9] (tgN 9) (tB (op2 (fIsB true) (opN f_is_formula (consI (varI 9) nilI)) (conI (.bl false)))) (varI 9)) (opN fLst nilI))) (retS (conI (.bl false))) passS)
  (seqS (asgS (tgN 8) (compI (itI (opN fTup (consI (conI .non) (consI (conI (.int 5)) (consI (opN fLst (consI (conI (.str [65])) nilI)) (consI (conI (.bl true)) (consI (op2 fMul (conI (.str [65])) (conI (.int 20001))) nilI))))))) [9] (tgN 9) tYes (tellI 5 1 cs_law_error ["InvalidText"] (opN f_bad_at (consI (varI 9) nilI)))))
  (retS (andV (op2 fEq (varI 8) (op2 fMul (opN fLst (consI (conI (.str [116, 101, 120, 116, 32, 101, 114, 114, 111, 114])) nilI)) (conI (.int 5)))) (andV (op1 fIsN (opN f_bad_at (consI (op2 fMul (conI (.str [65])) (conI (.int 20000))) nilI))) (op2 fEq (opN f_bad_at (consI (op2 fAdd (op2 fMul (conI (.str [65])) (conI (.int 19999))) (conI (.str [40]))) nilI)) (conI (.int 20000)))))))))))))))
def f_law : Py.Fn := Py.fnI 1 10 cb_law
theorem ok_law (Y : Yes K mg base T) {fd : FuncData} (F : FunD K "law" "law" (defArgs (top 27)) (defBody (top 27)) (defScope (top 27)) [] [] (He.fAd K ("law", none)) fd) : FnOk P w K mg base (L2N.CX P w) 9 (He.fAd K ("law", none)) fd ["script"] (spF ⟨K, mg, T⟩ f_law 1) := by
  refine fn_okC (k := 8) F sc_law fun c A outer s H E hco hr => ?_
  have TA := Y.t_law
  rw [code_eq hco] at TA
  exact
  (sb_cons (ss_set 1 sc_law.nd rfl (.inl rfl) (se_call (ok_law_cup Y) (hr.mono (by decide)) (L2N.takes_of rfl rfl rfl rfl) rfl (sa_cons (se_var 0 rfl (.inl rfl)) sa_nil)))
  (sb_cons (ss_for (own := fun _ => true) (L2.passes_of rfl) rfl (si_range1 Y.n_range rfl se_int) (sg_name (own := (fun _ => true)) 2 sc_law.nd rfl (.inl rfl) rfl) (sb_cons (ss_set 3 sc_law.nd rfl (.inl rfl) (se_call (ok_law_short Y) (hr.mono (by decide)) (L2N.takes_of rfl rfl rfl rfl) rfl (sa_cons (se_var 1 rfl (.inl rfl)) (sa_cons (se_call (ok_law_roll Y) (hr.mono (by decide)) (L2N.takes_of rfl rfl rfl rfl) rfl (sa_cons (se_var 1 rfl (.inl rfl)) (sa_cons se_int sa_nil))) sa_nil))))
  (sb_one (ss_for (own := fun _ => true) (L2.passes_of rfl) rfl (si_range1 Y.n_range rfl se_int) (sg_name (own := (fun _ => true)) 4 sc_law.nd rfl (.inl rfl) rfl) (sb_cons (ss_if (st_not (st_truth (se_call (ok_law_right Y) (hr.mono (by decide)) (L2N.takes_of rfl rfl rfl rfl) rfl (sa_cons (se_var 3 rfl (.inl rfl)) sa_nil)))) (sb_one (ss_ret se_bl)) sb_nil)
  (sb_one (ss_set 3 sc_law.nd rfl (.inl rfl) (se_call (ok_law_near Y) (hr.mono (by decide)) (L2N.takes_of rfl rfl rfl rfl) rfl (sa_cons (se_var 1 rfl (.inl rfl)) (sa_cons (se_var 3 rfl (.inl rfl)) sa_nil))))))))))
  (sb_cons (ss_set 5 sc_law.nd rfl (.inl rfl) (se_lst (sa_cons (se_tup (sa_cons (se_strL [65, 50, 40, 66, 41] (by decide +kernel) (by decide +kernel)) (sa_cons se_non sa_nil))) (sa_cons (se_tup (sa_cons (se_strL [65, 50, 40, 66] (by decide +kernel) (by decide +kernel)) (sa_cons se_int sa_nil))) (sa_cons (se_tup (sa_cons (se_strL [65, 49] (by decide +kernel) (by decide +kernel)) (sa_cons se_int sa_nil))) (sa_cons (se_tup (sa_cons (se_strL [65, 48, 49] (by decide +kernel) (by decide +kernel)) (sa_cons se_int sa_nil))) (sa_cons (se_tup (sa_cons (se_strL [40, 41] (by decide +kernel) (by decide +kernel)) (sa_cons se_int sa_nil))) (sa_cons (se_tup (sa_cons (se_strL [] (by decide +kernel) (by decide +kernel)) (sa_cons se_int sa_nil))) (sa_cons (se_tup (sa_cons (se_strL [65, 49, 48, 48] (by decide +kernel) (by decide +kernel)) (sa_cons se_int sa_nil))) (sa_cons (se_tup (sa_cons (se_strL [65, 66, 41] (by decide +kernel) (by decide +kernel)) (sa_cons se_int sa_nil))) (sa_cons (se_tup (sa_cons (se_strL [65, 71] (by decide +kernel) (by decide +kernel)) (sa_cons se_int sa_nil))) (sa_cons (se_tup (sa_cons (se_strL [65, 49, 66] (by decide +kernel) (by decide +kernel)) (sa_cons se_int sa_nil))) (sa_cons (se_tup (sa_cons (se_strL [50, 65] (by decide +kernel) (by decide +kernel)) (sa_cons se_int sa_nil))) (sa_cons (se_tup (sa_cons (se_strL [40, 50, 65, 41] (by decide +kernel) (by decide +kernel)) (sa_cons se_int sa_nil))) sa_nil))))))))))))))
  (sb_cons (ss_set 5 sc_law.nd rfl (.inl rfl) (se_add (se_var 5 rfl (.inl rfl)) (se_lst (sa_cons (se_tup (sa_cons (se_strL [65, 41, 50] (by decide +kernel) (by decide +kernel)) (sa_cons se_int sa_nil))) (sa_cons (se_tup (sa_cons (se_strL [40, 40, 65, 41, 50, 41, 57, 57] (by decide +kernel) (by decide +kernel)) (sa_cons se_non sa_nil))) (sa_cons (se_tup (sa_cons (se_strL [65, 32, 50] (by decide +kernel) (by decide +kernel)) (sa_cons se_int sa_nil))) (sa_cons (se_tup (sa_cons (se_strL [40, 65, 41, 41] (by decide +kernel) (by decide +kernel)) (sa_cons se_int sa_nil))) (sa_cons (se_tup (sa_cons (se_strL [65, 49, 50, 66, 51] (by decide +kernel) (by decide +kernel)) (sa_cons se_non sa_nil))) (sa_cons (se_tup (sa_cons (se_strL [65, 50, 10] (by decide +kernel) (by decide +kernel)) (sa_cons se_int sa_nil))) (sa_cons (se_tup (sa_cons (se_strL [40] (by decide +kernel) (by decide +kernel)) (sa_cons se_int sa_nil))) (sa_cons (se_tup (sa_cons (se_strL [65, 48] (by decide +kernel) (by decide +kernel)) (sa_cons se_int sa_nil))) (sa_cons (se_tup (sa_cons (se_strL [40, 65, 41, 40] (by decide +kernel) (by decide +kernel)) (sa_cons se_int sa_nil))) sa_nil))))))))))))
  (sb_cons (ss_for (own := fun _ => true) (L2.passes_of rfl) rfl (si_it (se_var 5 rfl (.inl rfl))) (sg_tup rfl (sgs_cons (sg_name (own := (fun _ => true)) 3 sc_law.nd rfl (.inl rfl) rfl) (sgs_cons (sg_name (own := (fun _ => true)) 6 sc_law.nd rfl (.inl rfl) rfl) sgs_nil)) (.cons (.cons .nil))) (sb_one (ss_if (st_w (sw_or (st_ne hr (se_call (ok_law_due Y) (hr.mono (by decide)) (L2N.takes_of rfl rfl rfl rfl) rfl (sa_cons (se_var 3 rfl (.inl rfl)) sa_nil)) (se_var 6 rfl (.inl rfl))) (sw_or1 (st_not (st_truth (se_call (ok_law_right Y) (hr.mono (by decide)) (L2N.takes_of rfl rfl rfl rfl) rfl (sa_cons (se_var 3 rfl (.inl rfl)) sa_nil))))))) (sb_one (ss_ret se_bl)) sb_nil)))
  (sb_cons (ss_set 7 sc_law.nd rfl (.inl rfl) (se_add (se_add (se_mul (se_strL [40] (by decide +kernel) (by decide +kernel)) se_int) (se_strL [65] (by decide +kernel) (by decide +kernel))) (se_mul (se_strL [41, 50] (by decide +kernel) (by decide +kernel)) se_int)))
  (sb_cons (ss_for (own := fun _ => true) (L2.passes_of rfl) rfl (si_it (se_tup (sa_cons (se_var 7 rfl (.inl rfl)) (sa_cons (se_add (se_add (se_strL [40] (by decide +kernel) (by decide +kernel)) (se_var 7 rfl (.inl rfl))) (se_strL [41] (by decide +kernel) (by decide +kernel))) (sa_cons (se_mul (se_strL [40] (by decide +kernel) (by decide +kernel)) se_int) (sa_cons (se_mul (se_strL [65] (by decide +kernel) (by decide +kernel)) se_int) (sa_cons (se_mul (se_strL [65] (by decide +kernel) (by decide +kernel)) se_int) (sa_cons (se_mul (se_strL [65, 66] (by decide +kernel) (by decide +kernel)) se_int) (sa_cons (se_mul (se_strL [40, 65, 41, 57, 57] (by decide +kernel) (by decide +kernel)) se_int) (sa_cons (se_add (se_mul (se_strL [70, 57] (by decide +kernel) (by decide +kernel)) se_int) (se_strL [66] (by decide +kernel) (by decide +kernel))) sa_nil)))))))))) (sg_name (own := (fun _ => true)) 3 sc_law.nd rfl (.inl rfl) rfl) (sb_one (ss_if (st_not (st_truth (se_call (ok_law_right Y) (hr.mono (by decide)) (L2N.takes_of rfl rfl rfl rfl) rfl (sa_cons (se_var 3 rfl (.inl rfl)) sa_nil)))) (sb_one (ss_ret se_bl)) sb_nil)))
  (sb_cons (ss_if (st_ne hr (se_lc (own := [("odd", 9)]) rfl sc_law.nd (si_it (se_tup (sa_cons se_non (sa_cons se_int (sa_cons (se_lst (sa_cons (se_strL [65] (by decide +kernel) (by decide +kernel)) sa_nil)) (sa_cons (se_tup (sa_cons (se_strL [65] (by decide +kernel) (by decide +kernel)) sa_nil)) (sa_cons se_bl sa_nil))))))) (blkOk_by (N := N_law) (sc := (defScope (top 27))) (own := [("odd", 9)]) (by decide +kernel)) (fun _ _ _ _ _ => (sg_name (own := (fun i => (([("odd", 9)] : List (Str × Nat)).map (·.2)).contains i)) 9 sc_law.nd rfl (.inl rfl) rfl)) (fun _ _ _ _ _ => (spt_one (st_notB (se_call (ok_is_formula Y) (hr.mono (by decide)) takes_N rfl (sa_cons (se_var 9 rfl (.inl rfl)) sa_nil)) se_bl))) (fun _ _ _ _ _ => (se_var 9 rfl (.inl rfl)))) (se_lst sa_nil)) (sb_one (ss_ret se_bl)) sb_nil)
  (sb_cons (ss_setLc (own := [("odd", 9)]) 8 rfl sc_law.nd rfl rfl (sw_true rfl rfl rfl (by decide +kernel)) (si_it (se_tup (sa_cons se_non (sa_cons se_int (sa_cons (se_lst (sa_cons (se_strL [65] (by decide +kernel) (by decide +kernel)) sa_nil)) (sa_cons se_bl (sa_cons (se_mul (se_strL [65] (by decide +kernel) (by decide +kernel)) se_int) sa_nil))))))) (blkOk_by (N := N_law) (sc := (defScope (top 27))) (own := [("odd", 9)]) (by decide +kernel)) (fun _ _ _ _ _ => (sg_name (own := (fun i => (([("odd", 9)] : List (Str × Nat)).map (·.2)).contains i)) 9 sc_law.nd rfl (.inr rfl) rfl)) (fun _ _ _ _ _ => spt_nil) (fun _ _ _ _ _ => (se_tellF (k := 5) (cl := ["InvalidText"]) (Ng := N_law_error) Y.d_law_error.choose_spec Y.g_law_error sc_law_error (bd_law_error Y) rfl (.inl rfl) (fun cdv => gives_law_error Y) TA rfl rfl (hr.mono (by decide)) rfl (lamS_by (sc := (relS ⟨.function, [(PySem.Str.ofString ".0", .local), (PySem.Str.ofString "odd", .cell), (PySem.Str.ofString "_law_error", .globalImplicit)], false, false, []⟩ (defScope (top 27)))) (scope := ⟨.function, [(PySem.Str.ofString "odd", .free), (PySem.Str.ofString "bad_at", .globalImplicit)], false, false, []⟩) (by decide +kernel)) (fun A2 outer2 s2 H2 E2 f2 c2 hr2 => (se_call (ok_bad_at Y) (hr2.mono (by decide)) (L2N.takes_of rfl rfl rfl rfl) rfl (sa_cons (se_var 9 rfl (.inr (.inr rfl))) sa_nil))))))
  (sb_one (ss_ret (se_and (se_eq hr (se_var 8 rfl (.inl rfl)) (se_mul (se_lst (sa_cons (se_strL [116, 101, 120, 116, 32, 101, 114, 114, 111, 114] (by decide +kernel) (by decide +kernel)) sa_nil)) se_int)) (se_and (se_isN (se_call (ok_bad_at Y) (hr.mono (by decide)) (L2N.takes_of rfl rfl rfl rfl) rfl (sa_cons (se_mul (se_strL [65] (by decide +kernel) (by decide +kernel)) se_int) sa_nil))) (se_one (se_eq hr (se_call (ok_bad_at Y) (hr.mono (by decide)) (L2N.takes_of rfl rfl rfl rfl) rfl (sa_cons (se_add (se_mul (se_strL [65] (by decide +kernel) (by decide +kernel)) se_int) (se_strL [40] (by decide +kernel) (by decide +kernel))) sa_nil)) se_int)))))))))))))))
end
end K66

set_option Elab.async false
set_option linter.all false
set_option maxRecDepth 100000
set_option maxHeartbeats 0
namespace K66
open PySem PySem.Spec PyProof.Rows L2 L2H LamX PyS
def Dd_law : He.DefD := ⟨("law", none), "law", "law", defArgs (top 27), defBody (top 27), defScope (top 27), [], []⟩
def Dd_law_cup : He.DefD := ⟨("_law_cup", none), "_law_cup", "_law_cup", defArgs (top 16), defBody (top 16), defScope (top 16), [], []⟩
def Dd_law_short : He.DefD := ⟨("_law_short", none), "_law_short", "_law_short", defArgs (top 22), defBody (top 22), defScope (top 22), [], []⟩
def Dd_law_formula : He.DefD := ⟨("_law_formula", none), "_law_formula", "_law_formula", defArgs (top 21), defBody (top 21), defScope (top 21), [], []⟩
def Dd_law_roll : He.DefD := ⟨("_law_roll", none), "_law_roll", "_law_roll", defArgs (top 17), defBody (top 17), defScope (top 17), [], []⟩
def Dd_law_some : He.DefD := ⟨("_law_some", none), "_law_some", "_law_some", defArgs (top 18), defBody (top 18), defScope (top 18), [], []⟩
def Dd_law_right : He.DefD := ⟨("_law_right", none), "_law_right", "_law_right", defArgs (top 26), defBody (top 26), defScope (top 26), [], []⟩
def Dd_law_due : He.DefD := ⟨("_law_due", none), "_law_due", "_law_due", defArgs (top 23), defBody (top 23), defScope (top 23), [], []⟩
def Dd_law_like : He.DefD := ⟨("_law_like", none), "_law_like", "_law_like", defArgs (top 20), defBody (top 20), defScope (top 20), [], []⟩
def Dd_law_sort : He.DefD := ⟨("_law_sort", none), "_law_sort", "_law_sort", defArgs (top 19), defBody (top 19), defScope (top 19), [], []⟩
def Dd_is_formula : He.DefD := ⟨("is_formula", none), "is_formula", "is_formula", defArgs (top 13), defBody (top 13), defScope (top 13), [], []⟩
def Dd_fits : He.DefD := ⟨("fits", none), "fits", "fits", defArgs (top 12), defBody (top 12), defScope (top 12), [], []⟩
def Dd_read : He.DefD := ⟨("read", none), "read", "read", defArgs (top 11), defBody (top 11), defScope (top 11), [], []⟩
def Dd_bad_at : He.DefD := ⟨("bad_at", none), "bad_at", "bad_at", defArgs (top 14), defBody (top 14), defScope (top 14), [], []⟩
def Dd_law_near : He.DefD := ⟨("_law_near", none), "_law_near", "_law_near", defArgs (top 25), defBody (top 25), defScope (top 25), [], []⟩
def Dd_law_error : He.DefD := ⟨("_law_error", none), "_law_error", "_law_error", defArgs (top 24), defBody (top 24), defScope (top 24), [], []⟩
def Dm_FormulaReader_init : He.DefD := ⟨("FormulaReader", some "__init__"), "__init__", "FormulaReader.__init__", defArgs (mtd 10 0), defBody (mtd 10 0), defScope (mtd 10 0), [], []⟩
def Dm_FormulaReader_take : He.DefD := ⟨("FormulaReader", some "take"), "take", "FormulaReader.take", defArgs (mtd 10 4), defBody (mtd 10 4), defScope (mtd 10 4), [], []⟩
def Dm_FormulaReader_take_figure : He.DefD := ⟨("FormulaReader", some "take_figure"), "take_figure", "FormulaReader.take_figure", defArgs (mtd 10 3), defBody (mtd 10 3), defScope (mtd 10 3), [], []⟩
def Dm_FormulaReader_close_part : He.DefD := ⟨("FormulaReader", some "close_part"), "close_part", "FormulaReader.close_part", defArgs (mtd 10 1), defBody (mtd 10 1), defScope (mtd 10 1), [], []⟩
def Dm_FormulaReader_add : He.DefD := ⟨("FormulaReader", some "add"), "add", "FormulaReader.add", defArgs (mtd 10 2), defBody (mtd 10 2), defScope (mtd 10 2), [], []⟩
def Dm_FormulaReader_add_bracket : He.DefD := ⟨("FormulaReader", some "add_bracket"), "add_bracket", "FormulaReader.add_bracket", defArgs (mtd 10 5), defBody (mtd 10 5), defScope (mtd 10 5), [], []⟩
def Dm_FormulaReader_is_whole : He.DefD := ⟨("FormulaReader", some "is_whole"), "is_whole", "FormulaReader.is_whole", defArgs (mtd 10 6), defBody (mtd 10 6), defScope (mtd 10 6), [], []⟩
def dls : List He.DefD := [Dd_law, Dd_law_cup, Dd_law_short, Dd_law_formula, Dd_law_roll, Dd_law_some, Dd_law_right, Dd_law_due, Dd_law_like, Dd_law_sort, Dd_is_formula, Dd_fits, Dd_read, Dd_bad_at, Dd_law_near, Dd_law_error, Dm_FormulaReader_init, Dm_FormulaReader_take, Dm_FormulaReader_take_figure, Dm_FormulaReader_close_part, Dm_FormulaReader_add, Dm_FormulaReader_add_bracket, Dm_FormulaReader_is_whole]
def fas : List He.Fa := [.free "abs", .free "bool", .free "enumerate", .free "int", .free "isinstance", .free "len", .free "list", .free "range", .free "str", .free "tuple", .free "zip", .glo "law", .glo "_law_cup", .glo "_law_short", .glo "_law_formula", .glo "_law_roll", .glo "_law_some", .glo "_law_right", .glo "_law_due", .glo "_law_like", .glo "_law_sort", .glo "is_formula", .glo "fits", .glo "read", .glo "bad_at", .glo "_law_near", .glo "_law_error", .meth "FormulaReader" "take", .meth "FormulaReader" "take_figure", .meth "FormulaReader" "close_part", .meth "FormulaReader" "add", .meth "FormulaReader" "add_bracket", .meth "FormulaReader" "is_whole", .glo "FormulaReader", .cls "FormulaReader", .mkr "FormulaReader", .noat "FormulaReader" "figures", .noat "FormulaReader" "has_part", .noat "FormulaReader" "rows", .glo "InvalidText", .exc "InvalidText", .glo "BenchError", .exm "InvalidText" "BenchError" true, .int "DEPTH" 20, .str "FIGURES" "0123456789", .str "KINDS" "ABCDEF", .int "NUMBER" 99, .int "SIGNS" 200, .int "TEXT" 20000]
def tfs : List He.Defn := [("law", none)]
def exs : List (PySem.W.Frag → Bool) := [fun K => kitB K "InvalidText" "InvalidText" true, fun K => excCB K (He.ga K "InvalidText")]
def exB (K : PySem.W.Frag) : Bool := exs.all fun b => b K
def loose : List PySem.Str := (["BenchError", "InvalidText", "KINDS", "FIGURES", "SIGNS", "DEPTH", "NUMBER", "TEXT", "FormulaReader", "read", "fits", "is_formula", "bad_at", "_law_cup", "_law_roll", "_law_some", "_law_sort", "_law_like", "_law_formula", "_law_short", "_law_due", "_law_error", "_law_near", "_law_right"] : List PySem.Str)
abbrev R : PySem.W.OpenRow := PySem.W.OpenLaw.row PySem.Challenge.rw_benchbound_k66_whole_texts_of_formulas
abbrev hk : PySem.W.Hook := He.hookX 4 fas dls [] tfs exB
def ob (s : PySem.W.SharedT) : He.AlX := He.obsX 4 fas dls [] tfs exB (HandSHeadRun.getT s)
theorem ob_eq (s : PySem.W.SharedT) : ob s = hk.obs s.abs := He.obsX_eq (HandSHeadRun.getT_eq s)
theorem run (w : World) : HandSHeadRun.RunEq R (PySem.W.view R.prog [27]) hk ob 4000 loose w := by
  intro os
  kernel_rfl
section
variable {w : World} {K : PySem.W.Frag} {mg : Str → Option Value} {h base : Heap}
def qn (p : He.Defn) : Str := p.1 ++ (".<locals>.<lambda>" : Str)
def tabsOf (K : PySem.W.Frag) : List (Addr × Str) := tfs.map fun p => (He.tabOf K (He.codeOf K p), qn p)
theorem qn_law : qn ("law", none) = "law.<locals>.<lambda>" := by decide +kernel
theorem yes (X : K.In h) (G : h.Ns mainGlobals mg) (c : He.SaysX fas dls [] tfs exB w h K) (TB : ∀ p ∈ tfs, TabB base mg (He.codeOf K p) (He.tabOf K (He.codeOf K p))) : Yes K mg base ⟨tabsOf K, none⟩ := by
  have D := c.t.d
  have exq : ∀ (i : Nat) {b : PySem.W.Frag → Bool}, exs[i]? = some b → b K = true := fun i b e => List.all_eq_true.mp c.more b (List.mem_of_getElem? e)
  exact {
    n_abs := He.free_ok X G (D.fact 0 (f := .free "abs") rfl)
    n_bool := He.free_ok X G (D.fact 1 (f := .free "bool") rfl)
    n_enumerate := He.free_ok X G (D.fact 2 (f := .free "enumerate") rfl)
    n_int := He.free_ok X G (D.fact 3 (f := .free "int") rfl)
    n_isinstance := He.free_ok X G (D.fact 4 (f := .free "isinstance") rfl)
    n_len := He.free_ok X G (D.fact 5 (f := .free "len") rfl)
    n_list := He.free_ok X G (D.fact 6 (f := .free "list") rfl)
    n_range := He.free_ok X G (D.fact 7 (f := .free "range") rfl)
    n_str := He.free_ok X G (D.fact 8 (f := .free "str") rfl)
    n_tuple := He.free_ok X G (D.fact 9 (f := .free "tuple") rfl)
    n_zip := He.free_ok X G (D.fact 10 (f := .free "zip") rfl)
    d_law := D.def_ 0 (d := Dd_law) rfl
    g_law := He.glo_ok X G (D.fact 11 (f := .glo "law") rfl)
    d_law_cup := D.def_ 1 (d := Dd_law_cup) rfl
    g_law_cup := He.glo_ok X G (D.fact 12 (f := .glo "_law_cup") rfl)
    d_law_short := D.def_ 2 (d := Dd_law_short) rfl
    g_law_short := He.glo_ok X G (D.fact 13 (f := .glo "_law_short") rfl)
    d_law_formula := D.def_ 3 (d := Dd_law_formula) rfl
    g_law_formula := He.glo_ok X G (D.fact 14 (f := .glo "_law_formula") rfl)
    d_law_roll := D.def_ 4 (d := Dd_law_roll) rfl
    g_law_roll := He.glo_ok X G (D.fact 15 (f := .glo "_law_roll") rfl)
    d_law_some := D.def_ 5 (d := Dd_law_some) rfl
    g_law_some := He.glo_ok X G (D.fact 16 (f := .glo "_law_some") rfl)
    d_law_right := D.def_ 6 (d := Dd_law_right) rfl
    g_law_right := He.glo_ok X G (D.fact 17 (f := .glo "_law_right") rfl)
    d_law_due := D.def_ 7 (d := Dd_law_due) rfl
    g_law_due := He.glo_ok X G (D.fact 18 (f := .glo "_law_due") rfl)
    d_law_like := D.def_ 8 (d := Dd_law_like) rfl
    g_law_like := He.glo_ok X G (D.fact 19 (f := .glo "_law_like") rfl)
    d_law_sort := D.def_ 9 (d := Dd_law_sort) rfl
    g_law_sort := He.glo_ok X G (D.fact 20 (f := .glo "_law_sort") rfl)
    d_is_formula := D.def_ 10 (d := Dd_is_formula) rfl
    g_is_formula := He.glo_ok X G (D.fact 21 (f := .glo "is_formula") rfl)
    d_fits := D.def_ 11 (d := Dd_fits) rfl
    g_fits := He.glo_ok X G (D.fact 22 (f := .glo "fits") rfl)
    d_read := D.def_ 12 (d := Dd_read) rfl
    g_read := He.glo_ok X G (D.fact 23 (f := .glo "read") rfl)
    d_bad_at := D.def_ 13 (d := Dd_bad_at) rfl
    g_bad_at := He.glo_ok X G (D.fact 24 (f := .glo "bad_at") rfl)
    d_law_near := D.def_ 14 (d := Dd_law_near) rfl
    g_law_near := He.glo_ok X G (D.fact 25 (f := .glo "_law_near") rfl)
    d_law_error := D.def_ 15 (d := Dd_law_error) rfl
    g_law_error := He.glo_ok X G (D.fact 26 (f := .glo "_law_error") rfl)
    m_FormulaReader_init := D.def_ 16 (d := Dm_FormulaReader_init) rfl
    m_FormulaReader_take := D.def_ 17 (d := Dm_FormulaReader_take) rfl
    h_FormulaReader_take := He.meth_ok (D.fact 27 (f := .meth "FormulaReader" "take") rfl)
    m_FormulaReader_take_figure := D.def_ 18 (d := Dm_FormulaReader_take_figure) rfl
    h_FormulaReader_take_figure := He.meth_ok (D.fact 28 (f := .meth "FormulaReader" "take_figure") rfl)
    m_FormulaReader_close_part := D.def_ 19 (d := Dm_FormulaReader_close_part) rfl
    h_FormulaReader_close_part := He.meth_ok (D.fact 29 (f := .meth "FormulaReader" "close_part") rfl)
    m_FormulaReader_add := D.def_ 20 (d := Dm_FormulaReader_add) rfl
    h_FormulaReader_add := He.meth_ok (D.fact 30 (f := .meth "FormulaReader" "add") rfl)
    m_FormulaReader_add_bracket := D.def_ 21 (d := Dm_FormulaReader_add_bracket) rfl
    h_FormulaReader_add_bracket := He.meth_ok (D.fact 31 (f := .meth "FormulaReader" "add_bracket") rfl)
    m_FormulaReader_is_whole := D.def_ 22 (d := Dm_FormulaReader_is_whole) rfl
    h_FormulaReader_is_whole := He.meth_ok (D.fact 32 (f := .meth "FormulaReader" "is_whole") rfl)
    g_FormulaReader := He.glo_ok X G (D.fact 33 (f := .glo "FormulaReader") rfl)
    s_FormulaReader := He.cls_ok (D.fact 34 (f := .cls "FormulaReader") rfl)
    i_FormulaReader := He.mkr_ok (D.fact 35 (f := .mkr "FormulaReader") rfl)
    a_FormulaReader_figures := clsf_ok (He.glo_ok X G (D.fact 33 (f := .glo "FormulaReader") rfl)) (D.fact 34 (f := .cls "FormulaReader") rfl) (D.fact 36 (f := .noat "FormulaReader" "figures") rfl)
    a_FormulaReader_has_part := clsf_ok (He.glo_ok X G (D.fact 33 (f := .glo "FormulaReader") rfl)) (D.fact 34 (f := .cls "FormulaReader") rfl) (D.fact 37 (f := .noat "FormulaReader" "has_part") rfl)
    a_FormulaReader_rows := clsf_ok (He.glo_ok X G (D.fact 33 (f := .glo "FormulaReader") rfl)) (D.fact 34 (f := .cls "FormulaReader") rfl) (D.fact 38 (f := .noat "FormulaReader" "rows") rfl)
    e_InvalidText := err_ok (He.glo_ok X G (D.fact 39 (f := .glo "InvalidText") rfl)) (D.fact 40 (f := .exc "InvalidText") rfl)
    q_InvalidText := ⟨_, He.glo_ok X G (D.fact 39 (f := .glo "InvalidText") rfl), fun p hp => by
      rcases List.mem_cons.mp hp with e | hp
      · subst e; exact ⟨_, He.glo_ok X G (D.fact 39 (f := .glo "InvalidText") rfl), kitB_ok (exq 0 (b := fun K => kitB K "InvalidText" "InvalidText" true) rfl)⟩
      cases hp⟩
    g_BenchError := He.glo_ok X G (D.fact 41 (f := .glo "BenchError") rfl)
    xc := fun c hc A0 hA => by
      rcases List.mem_cons.mp hc with e | hc
      · subst e
        rw [He.glo_ok X G (D.fact 39 (f := .glo "InvalidText") rfl)] at hA
        cases hA
        exact ⟨excCB_ok (exq 1 (b := fun K => excCB K (He.ga K "InvalidText")) rfl), He.exm_ok (D.fact 42 (f := .exm "InvalidText" "BenchError" true) rfl)⟩
      cases hc
    k_DEPTH := He.int_ok X G (D.fact 43 (f := .int "DEPTH" 20) rfl)
    k_FIGURES := He.str_ok X G (D.fact 44 (f := .str "FIGURES" "0123456789") rfl)
    k_KINDS := He.str_ok X G (D.fact 45 (f := .str "KINDS" "ABCDEF") rfl)
    k_NUMBER := He.int_ok X G (D.fact 46 (f := .int "NUMBER" 99) rfl)
    k_SIGNS := He.int_ok X G (D.fact 47 (f := .int "SIGNS" 200) rfl)
    k_TEXT := He.int_ok X G (D.fact 48 (f := .int "TEXT" 20000) rfl)
    t_law := ⟨TB ("law", none) (by decide), List.mem_map.mpr ⟨("law", none), by decide, by rw [qn_law]⟩, fun p hp _ => by
      rw [List.mem_singleton.mp hp]
      exact qn_law⟩
  }
end
theorem holds_of (H : Always f_law) : PySem.Challenge.rw_benchbound_k66_whole_texts_of_formulas.Holds := by
  w_on; o_law
  refine HandSHeadRun.head_any (r := PySem.W.OpenLaw.row PySem.Challenge.rw_benchbound_k66_whole_texts_of_formulas) (q := PySem.W.view (PySem.W.OpenLaw.row PySem.Challenge.rw_benchbound_k66_whole_texts_of_formulas).prog [27]) (H := hk) (ob := ob) (M := 4000) (loose := loose) (d := HandSHeadRun.topDef (PySem.W.OpenLaw.row PySem.Challenge.rw_benchbound_k66_whole_texts_of_formulas).prog 27) (kwd := []) ob_eq
    (by kernel_rfl) (fun s => by kernel_rfl) run (by kernel_rfl) (by kernel_rfl) (by kernel_rfl) (by rfl) (by first | assumption | decide +kernel) (by decide +kernel) ⟨rfl, rfl, rfl, rfl, rfl, by decide +kernel⟩ ?hw ?hc
  case hw => w_witness2
  case hc =>
    refine LamX.walk_ofTsE (l := PySem.Challenge.rw_benchbound_k66_whole_texts_of_formulas) (n := 63) (k := 9) (x := "script") (CX := fun w => L2N.CX PySem.Challenge.rw_benchbound_k66_whole_texts_of_formulas.prog w) rfl (by decide) (by kernel_rfl) ⟨rfl, by decide, by decide⟩ ?F ?hCX
    case hCX =>
      intro w H s e s' z
      exact cx_none z
    case F =>
      intro w mg fa h Y G hmg0
      obtain ⟨K, KX, c⟩ := Y
      have hmg : mg ("law" : PySem.Str) = some (.ref fa) := by
        have e : (HandSHeadRun.topDef (PySem.W.OpenLaw.row PySem.Challenge.rw_benchbound_k66_whole_texts_of_formulas).prog 27).name = ("law" : PySem.Str) := by kernel_rfl
        rw [← e]
        exact hmg0
      obtain ⟨fd, F⟩ := c.t.d.def_ 0 (d := Dd_law) rfl
      have e := hmg.symm.trans (He.glo_ok KX G (c.t.d.fact 11 (f := .glo "law") rfl))
      cases e
      have b := FunD.bindsA (ps := ["script"]) F fun _ _ _ _ _ _ us hl => match us, hl with | [_], _ => rfl
      refine ⟨K, KX, fd, tfs.map (He.cT K), spF ⟨K, mg, ⟨tabsOf K, none⟩⟩ f_law 1, fun p hp => ?_, fun p hp => ?_, fun p hp => ?_, fun s v => b s [v] rfl, fun H0 a ns hl hb hT hS => law_sp H hl hb (fun p hp => ?_) hS, fun base KB GB TB => ok_law (yes KX G c fun p hp => TB _ (List.mem_map.mpr ⟨p, hp, rfl⟩)) F⟩
      · obtain ⟨q, hq, rfl⟩ := List.mem_map.mp hp
        exact c.empty q hq
      · obtain ⟨q, hq, rfl⟩ := List.mem_map.mp hp
        exact c.out q hq
      · obtain ⟨q, hq, rfl⟩ := List.mem_map.mp hp
        exact PySem.W.codeHd_of_K KX (c.hd q hq)
      · obtain ⟨q, hq, rfl⟩ := List.mem_map.mp hp
        exact TabS.nil (hT _ (List.mem_map.mpr ⟨q, hq, rfl⟩))

end K66

set_option Elab.async false
set_option linter.all false
set_option maxRecDepth 100000
set_option maxHeartbeats 1000000
/-! PyV: how combinators are reckoned; the helpers that all laws share. -/
namespace Py
section
variable {α β : Type} {a b c : Ev} {ta tb : Tv} {sa sb : Sv} {ρ : PEnv} {μ : Mem} {v w : PV} {i j : Int} {x y : List Nat} {xs ys : List PV} {k : α → Mem → Res β} {q : Bool}
@[simp] theorem bind_ok (a : α) : (Res.ok a μ).bind k = k a μ := rfl
@[simp] theorem bind_exc (e : Exc) : (Res.exc e μ : Res α).bind k = .exc e μ := rfl
@[simp] theorem bind_bad : (Res.bad : Res α).bind k = .bad := rfl
@[simp] theorem lift_ok (a : α) (k : α → Mem → Out) : liftS (.ok a μ) ρ k = k a μ := rfl
@[simp] theorem lift_exc (e : Exc) (k : α → Mem → Out) : liftS (.exc e μ) ρ k = .exc e ρ μ := rfl
@[simp] theorem seqS_ : seqS sa sb ρ μ = match sa ρ μ with
  | .next ρ1 μ1 => sb ρ1 μ1
  | o => o := rfl
@[simp] theorem passS_ : passS ρ μ = .next ρ μ := rfl
@[simp] theorem exprS_ : exprS a ρ μ = liftS (a ρ μ) ρ fun _ μ1 => .next ρ μ1 := rfl
@[simp] theorem retS_ : retS a ρ μ = liftS (a ρ μ) ρ fun v μ1 => .ret v μ1 := rfl
@[simp] theorem retN_ : retN ρ μ = .ret .non μ := rfl
@[simp] theorem brkS_ : brkS ρ μ = .brk ρ μ := rfl
@[simp] theorem contS_ : contS ρ μ = .cont ρ μ := rfl
@[simp] theorem raiseS_ (e : Exc) : raiseS e ρ μ = .exc e ρ μ := rfl
@[simp] theorem asgS_ (t : Tg) : asgS t a ρ μ = liftS (a ρ μ) ρ fun v μ1 => match t v ρ μ1 with
  | .ok ρ2 μ2 => .next ρ2 μ2
  | _ => .bad := rfl
@[simp] theorem ifS_ : ifS ta sa sb ρ μ = liftS (ta ρ μ) ρ fun c μ1 => if c then sa ρ μ1 else sb ρ μ1 := rfl
@[simp] theorem varI_ (i : Nat) : varI i ρ μ = match ρ[i]? with
  | some (some v) => .ok v μ
  | _ => .bad := rfl
@[simp] theorem conI_ : conI v ρ μ = .ok v μ := rfl
@[simp] theorem op1_ (f : PV → M PV) : op1 f a ρ μ = (a ρ μ).bind f := rfl
@[simp] theorem op2_ (f : PV → PV → M PV) : op2 f a b ρ μ = (a ρ μ).bind fun v μ1 => (b ρ μ1).bind fun w μ2 => f v w μ2 := rfl
@[simp] theorem nilI_ : nilI ρ μ = .ok [] μ := rfl
@[simp] theorem consI_ (r : Av) : consI a r ρ μ = (a ρ μ).bind fun v μ1 => (r ρ μ1).bind fun vs μ2 => .ok (v :: vs) μ2 := rfl
@[simp] theorem opN_ (f : Fn) (as : Av) : opN f as ρ μ = (as ρ μ).bind f := rfl
@[simp] theorem tB_ : tB a ρ μ = (a ρ μ).bind fun v μ1 => match v with
  | .bl b => .ok b μ1
  | _ => .bad := rfl
@[simp] theorem tTruth_ : tTruth a ρ μ = (a ρ μ).bind fun v μ1 => match truth μ1 v with
  | some b => .ok b μ1
  | none => .bad := rfl
@[simp] theorem tAnd_ : tAnd ta tb ρ μ = (ta ρ μ).bind fun c μ1 => if c then tb ρ μ1 else .ok false μ1 := rfl
@[simp] theorem tOr_ : tOr ta tb ρ μ = (ta ρ μ).bind fun c μ1 => if c then .ok true μ1 else tb ρ μ1 := rfl
@[simp] theorem tNot_ : tNot ta ρ μ = (ta ρ μ).bind fun c μ1 => .ok (!c) μ1 := rfl
@[simp] theorem tYes_ : tYes ρ μ = .ok true μ := rfl
@[simp] theorem andV_ : andV a b ρ μ = (a ρ μ).bind fun v μ1 => match v with
  | .bl c => if c then b ρ μ1 else .ok (.bl false) μ1
  | _ => .bad := rfl
@[simp] theorem orV_ : orV a b ρ μ = (a ρ μ).bind fun v μ1 => match v with
  | .bl c => if c then .ok (.bl true) μ1 else b ρ μ1
  | _ => .bad := rfl
@[simp] theorem notV_ : notV a ρ μ = (a ρ μ).bind fun v μ1 => match v with
  | .bl c => .ok (.bl (!c)) μ1
  | _ => .bad := rfl
@[simp] theorem ifI_ : ifI ta a b ρ μ = (ta ρ μ).bind fun c μ1 => if c then a ρ μ1 else b ρ μ1 := rfl
@[simp] theorem chainI_ (f g : PV → PV → M PV) : chainI f g a b c ρ μ = (a ρ μ).bind fun x μ1 => (b ρ μ1).bind fun y μ2 => (f x y μ2).bind fun z μ3 => match z with
  | .bl k => if k then (c ρ μ3).bind fun w μ4 => g y w μ4 else .ok (.bl false) μ3
  | _ => .bad := rfl
@[simp] theorem tgN_ (i : Nat) : tgN i v ρ μ = .ok (ρ.set i (some v)) μ := rfl
@[simp] theorem tgsNil_ : tgsNil [] ρ μ = .ok ρ μ := rfl
@[simp] theorem tgsCons_ (t : Tg) (u : Tgs) : tgsCons t u (v :: xs) ρ μ = (t v ρ μ).bind fun ρ1 μ1 => u xs ρ1 μ1 := rfl
@[simp] theorem tgT_ (u : Tgs) : tgT u (.tup xs) ρ μ = u xs ρ μ := rfl
@[simp] theorem tgIx_ : tgIx a b v ρ μ = (a ρ μ).bind fun x μ1 => (b ρ μ1).bind fun i μ2 => match x, i with
  | .mref n, .int k => match μ2[n]? with
    | some (.lst xs) => match ixN xs.length k with
      | some j => .ok ρ (mset μ2 n (.lst (xs.set j v)))
      | none => .bad
    | _ => .bad
  | _, _ => .bad := rfl
@[simp] theorem mset_ (n : Nat) (o : MO) : mset μ n o = μ.set n o := rfl
@[simp] theorem fTup_ : fTup xs μ = if xs.length ≤ 16000000 then .ok (.tup xs) μ else .bad := rfl
@[simp] theorem fLst_ : fLst xs μ = if xs.length ≤ 16000000 then .ok (.lst xs) μ else .bad := rfl
@[simp] theorem fMut_ : fMut xs μ = if xs.length ≤ 16000000 then .ok (.mref μ.length) (μ ++ [.lst xs]) else .bad := rfl
@[simp] theorem fAdd_i : fAdd (.int i) (.int j) μ = .ok (.int (i + j)) μ := rfl
@[simp] theorem fAdd_s : fAdd (.str x) (.str y) μ = if x.length + y.length ≤ 16000000 then .ok (.str (x ++ y)) μ else .bad := rfl
@[simp] theorem fAdd_l : fAdd (.lst xs) (.lst ys) μ = if xs.length + ys.length ≤ 16000000 then .ok (.lst (xs ++ ys)) μ else .bad := rfl
@[simp] theorem fAdd_t : fAdd (.tup xs) (.tup ys) μ = if xs.length + ys.length ≤ 16000000 then .ok (.tup (xs ++ ys)) μ else .bad := rfl
@[simp] theorem fSub_i : fSub (.int i) (.int j) μ = .ok (.int (i - j)) μ := rfl
@[simp] theorem fMul_i : fMul (.int i) (.int j) μ = if small i || small j || (wide i && wide j) then .ok (.int (i * j)) μ else .bad := rfl
@[simp] theorem fMul_s : fMul (.str x) (.int i) μ = if 0 ≤ i ∧ i ≤ 16000000 ∧ x.length * i.toNat ≤ 16000000 then .ok (.str (List.replicate i.toNat x).flatten) μ else .bad := rfl
@[simp] theorem fMul_l : fMul (.lst xs) (.int i) μ = if -16000000 ≤ i ∧ i ≤ 16000000 ∧ xs.length * i.toNat ≤ 16000000 then .ok (.lst (List.replicate i.toNat xs).flatten) μ else .bad := rfl
@[simp] theorem fDiv_i : fDiv (.int i) (.int j) μ = if decide (0 < j) && wide j then .ok (.int (i / j)) μ else .bad := rfl
@[simp] theorem fMod_i : fMod (.int i) (.int j) μ = if 0 < j then .ok (.int (i % j)) μ else .bad := rfl
@[simp] theorem fPow_i : fPow (.int i) (.int j) μ = if 0 ≤ j ∧ j ≤ 1000 ∧ small i then .ok (.int (i ^ j.toNat)) μ else .bad := rfl
@[simp] theorem fNeg_i : fNeg (.int i) μ = .ok (.int (-i)) μ := rfl
@[simp] theorem fLt_i : fLt (.int i) (.int j) μ = .ok (.bl (decide (i < j))) μ := rfl
@[simp] theorem fLe_i : fLe (.int i) (.int j) μ = .ok (.bl (decide (i ≤ j))) μ := rfl
@[simp] theorem fGt_i : fGt (.int i) (.int j) μ = .ok (.bl (decide (j < i))) μ := rfl
@[simp] theorem fGe_i : fGe (.int i) (.int j) μ = .ok (.bl (decide (j ≤ i))) μ := rfl
@[simp] theorem fIsN_ : fIsN v μ = .ok (.bl (isNon v)) μ := rfl
@[simp] theorem fNotN_ : fNotN v μ = .ok (.bl (!isNon v)) μ := rfl
@[simp] theorem isNon_n : isNon .non = true := rfl
@[simp] theorem isNon_i : isNon (.int i) = false := rfl
@[simp] theorem isNon_b : isNon (.bl q) = false := rfl
@[simp] theorem isNon_s : isNon (.str x) = false := rfl
@[simp] theorem isNon_t : isNon (.tup xs) = false := rfl
@[simp] theorem isNon_l : isNon (.lst xs) = false := rfl
@[simp] theorem deref_m (n : Nat) : deref μ (.mref n) = match μ[n]? with
  | some (.lst xs) => .lst xs
  | _ => .mref n := rfl
@[simp] theorem deref_n : deref μ .non = .non := rfl
@[simp] theorem deref_i : deref μ (.int i) = .int i := rfl
@[simp] theorem deref_b : deref μ (.bl q) = .bl q := rfl
@[simp] theorem deref_s : deref μ (.str x) = .str x := rfl
@[simp] theorem deref_t : deref μ (.tup xs) = .tup xs := rfl
@[simp] theorem deref_l : deref μ (.lst xs) = .lst xs := rfl
@[simp] theorem fIx_ : fIx v w μ = match deref μ v with
  | .lst xs => ixL xs w μ
  | .tup xs => ixL xs w μ
  | .str s => ixS s w μ
  | _ => .bad := rfl
@[simp] theorem ixL_ : ixL xs (.int i) μ = match atI xs i with
  | some x => .ok x μ
  | none => .bad := rfl
@[simp] theorem ixS_ : ixS x (.int i) μ = if x.length ≤ 16000000 then (match atI x i with
  | some c => .ok (.str [c]) μ
  | none => .bad) else .bad := rfl
@[simp] theorem fLen_ : fLen [v] μ = match deref μ v with
  | .lst xs => .ok (.int xs.length) μ
  | .tup xs => .ok (.int xs.length) μ
  | .str s => if s.length ≤ 16000000 then .ok (.int s.length) μ else .bad
  | _ => .bad := rfl
@[simp] theorem fInt_i : fInt [.int i] μ = .ok (.int i) μ := rfl
@[simp] theorem fInt_s : fInt [.str x] μ = if decide (x.length ≤ 600) && !x.isEmpty && x.all isDigit then .ok (.int (dval x)) μ else .bad := rfl
@[simp] theorem fAbs_i : fAbs [.int i] μ = .ok (.int (if i < 0 then -i else i)) μ := rfl
@[simp] theorem fListS_ : fListS [.scr xs] μ = .ok (.lst xs) μ := rfl
@[simp] theorem fStr_i : fStr [.int i] μ = if 0 ≤ i ∧ i < 1000000000000000000000000000000 then .ok (.str (digsF 40 i.toNat)) μ else .bad := rfl
@[simp] theorem fTuple_ : fTuple [v] μ = match seqM μ v with
  | some xs => .ok (.tup xs) μ
  | none => .bad := rfl
@[simp] theorem truth_i : truth μ (.int i) = some (i != 0) := rfl
@[simp] theorem truth_b : truth μ (.bl q) = some q := rfl
@[simp] theorem truth_n : truth μ .non = some false := rfl
@[simp] theorem truth_s : truth μ (.str x) = if x.length ≤ 16000000 then some (!x.isEmpty) else none := rfl
@[simp] theorem isLst_m (n : Nat) : isLst μ (.mref n) = match deref μ (.mref n) with
  | .lst _ => true
  | _ => false := rfl
@[simp] theorem methL_ (f : PV → List PV → M PV) (as : Av) : methL f a as ρ μ = (a ρ μ).bind fun x μ1 => if isLst μ1 x then (as ρ μ1).bind fun vs μ2 => f x vs μ2 else .bad := rfl
@[simp] theorem fnI_ (n N : Nat) (body : Sv) (as : List PV) : fnI n N body as μ = if as.length = n then match body (as.map some ++ List.replicate (N - n) none) μ with
    | .ret v μ1 => leave μ.length v μ1
    | .next _ μ1 => leave μ.length .non μ1
    | .exc x _ μ1 => .exc x μ1
    | _ => .bad
  else .bad := rfl
@[simp] theorem fnK_ (n N : Nat) (body : Sv) (as : List PV) : fnK n N body as μ = if as.length = n then match body (as.map some ++ List.replicate (N - n) none) μ with
    | .ret v μ1 => leaveK μ.length v μ1
    | .next _ μ1 => leaveK μ.length .non μ1
    | .exc x _ μ1 => .exc x μ1
    | _ => .bad
  else .bad := rfl
@[simp] theorem leave_here : leave μ.length v μ = .ok v μ := by
  unfold leave
  rw [if_pos rfl]
@[simp] theorem leaveK_here : leaveK μ.length v μ = .ok v μ := by
  unfold leaveK
  rw [if_pos rfl]
@[simp] theorem leave_set (n : Nat) (o : MO) : leave μ.length v (μ.set n o) = .ok v (μ.set n o) := by
  unfold leave
  rw [if_pos (by simp)]
@[simp] theorem leave_set2 (n m : Nat) (o o' : MO) : leave μ.length v ((μ.set n o).set m o') = .ok v ((μ.set n o).set m o') := by
  unfold leave
  rw [if_pos (by simp)]
@[simp] theorem forS_ (it : Iv) (t : Tg) : forS it t sa ρ μ = liftS (it ρ μ) ρ fun xs μ1 => forL t sa xs ρ μ1 := rfl
@[simp] theorem forL_nil (t : Tg) : forL t sa [] ρ μ = .next ρ μ := rfl
@[simp] theorem forL_cons (t : Tg) (x : PV) : forL t sa (x :: xs) ρ μ = match t x ρ μ with
    | .ok ρ1 μ1 => match sa ρ1 μ1 with
      | .next ρ2 μ2 => forL t sa xs ρ2 μ2
      | .cont ρ2 μ2 => forL t sa xs ρ2 μ2
      | .brk ρ2 μ2 => .next ρ2 μ2
      | o => o
    | _ => .bad := rfl
@[simp] theorem itI_ : itI a ρ μ = (a ρ μ).bind fun v μ1 => match v with
  | .lst xs => .ok xs μ1
  | .tup xs => .ok xs μ1
  | .str s => .ok (s.map fun c => .str [c]) μ1
  | _ => .bad := rfl
@[simp] theorem it1_ : it1 a ρ μ = (a ρ μ).bind fun v μ1 => match v with
  | .int j => if -1000000000 ≤ j ∧ j ≤ 1000000000 then .ok (rangeL 0 j) μ1 else .bad
  | _ => .bad := rfl
@[simp] theorem enumI_ : enumI a ρ μ = (a ρ μ).bind fun v μ1 => match walked v with
  | some xs => .ok (enumL 0 xs) μ1
  | none => .bad := rfl
@[simp] theorem walked_s : walked (.str x) = some (x.map fun c => .str [c]) := rfl
@[simp] theorem walked_l : walked (.lst xs) = some xs := rfl
@[simp] theorem atI_zero {α : Type} (x : α) (xs : List α) : atI (x :: xs) 0 = some x := by
  simp [atI, ixN]
@[simp] theorem atI_one {α : Type} (x y : α) (xs : List α) : atI (x :: y :: xs) 1 = some y := by
  have : (1 : Int) < (xs.length : Int) + 1 + 1 := by omega
  simp [atI, ixN, this]
@[simp] theorem ixN_zero (n : Nat) : ixN (n + 1) 0 = some 0 := by simp [ixN]
@[simp] theorem ixN_one (n : Nat) : ixN (n + 2) 1 = some 1 := by
  have : (1 : Int) < (n : Int) + 2 := by omega
  simp [ixN, this]
end
/-- the cup: two numbers -/
def CupAt (μ : Mem) (n : Nat) (a b : Int) : Prop := μ[n]? = some (.lst [.int a, .int b]) ∧ 0 ≤ a ∧ 0 ≤ b ∧ b < 4294967296
def rollF : Fn := fnI 2 4
  (seqS (ifS (tB (op2 fGt (op2 fIx (varI 0) (conI (.int 0))) (conI (.int 0)))) (seqS (asgS (tgN 2) (op2 fMod (opN fInt (consI (op2 fIx (varI 0) (conI (.int 0))) nilI)) (varI 1)))
  (seqS (asgS (tgIx (varI 0) (conI (.int 0))) (op2 fDiv (op2 fIx (varI 0) (conI (.int 0))) (varI 1)))
  (retS (varI 2)))) passS)
  (seqS (asgS (tgIx (varI 0) (conI (.int 1))) (op2 fMod (opN fInt (consI (op2 fAdd (op2 fMul (op2 fIx (varI 0) (conI (.int 1))) (conI (.int 29629))) (conI (.int 9403))) nilI)) (conI (.int 2147483543))))
  (seqS (asgS (tgN 3) (op2 fMod (opN fInt (consI (op2 fMul (op2 fIx (varI 0) (conI (.int 1))) (op2 fAdd (op2 fIx (varI 0) (conI (.int 1))) (conI (.int 317)))) nilI)) (conI (.int 2147483587))))
  (retS (op2 fMod (opN fInt (consI (op2 fDiv (varI 3) (conI (.int 919))) nilI)) (varI 1))))))
theorem wide_small {j : Int} (h : 0 ≤ j) (h2 : j < 4294967296) : wide j = true := by
  unfold wide
  refine decide_eq_true ?_
  have : j.natAbs < 4294967296 := by omega
  exact Nat.lt_trans this (by unfold wideN; decide +kernel)
theorem small_of {j : Int} (h : -18446744073709551616 < j) (h2 : j < 18446744073709551616) : small j = true := decide_eq_true ⟨h, h2⟩
theorem roll_ok {μ : Mem} {n : Nat} {a b m : Int} (h : CupAt μ n a b) (h0 : 0 < m) (h1 : m < 2147483648) : ∃ r a' b', rollF [.mref n, .int m] μ = .ok (.int r) (μ.set n (.lst [.int a', .int b'])) ∧ 0 ≤ r ∧ r < m ∧ CupAt (μ.set n (.lst [.int a', .int b'])) n a' b' := by
  obtain ⟨h, ha, hb, hb2⟩ := h
  have hn : n < μ.length := (List.getElem?_eq_some_iff.mp h).1
  have hw := wide_small (Int.le_of_lt h0) (by omega : m < 4294967296)
  have hs : ∀ o : MO, (μ.set n o)[n]? = some o := fun o => List.getElem?_set_self hn
  by_cases hc : 0 < a
  · refine ⟨a % m, a / m, b, ?_, Int.emod_nonneg _ (by omega), Int.emod_lt_of_pos _ h0, ?_⟩
    · simp [rollF, h, hc, h0, hw]
    · exact ⟨by simp [hn], Int.ediv_nonneg ha (by omega), hb, hb2⟩
  · have e1 : small 29629 = true := by decide
    have w1 : wide 919 = true := wide_small (by decide) (by decide)
    have e2 : small ((b * 29629 + 9403) % 2147483543) = true := small_of (by omega) (by omega)
    refine ⟨((b * 29629 + 9403) % 2147483543 * ((b * 29629 + 9403) % 2147483543 + 317) % 2147483587 / 919) % m, a, (b * 29629 + 9403) % 2147483543, ?_, Int.emod_nonneg _ (by omega), Int.emod_lt_of_pos _ h0, ?_⟩
    · simp [rollF, h, hs, hc, h0, hw, e1, e2, w1]
    · exact ⟨by simp [hn], ha, by omega, by omega⟩
def cupF : Fn := fnK 1 2
  (seqS (asgS (tgN 1) (opN fAbs (consI (op2 fIx (op2 fAdd (opN fListS (consI (varI 0) nilI)) (opN fLst (consI (conI (.int 0)) nilI))) (conI (.int 0))) nilI)))
  (retS (opN fMut (consI (ifI (tB (op2 fGe (varI 1) (op2 fPow (conI (.int 10)) (conI (.int 18))))) (op2 fDiv (varI 1) (conI (.int 139))) (conI (.int 0))) (consI (op2 fAdd (op2 fMod (opN fInt (consI (op2 fAdd (op2 fMul (varI 1) (conI (.int 389))) (conI (.int 5717))) nilI)) (conI (.int 1944129511))) (conI (.int 241))) nilI)))))
theorem leaveK_new {μ : Mem} {o : MO} : leaveK μ.length (.mref μ.length) (μ ++ [o]) = .ok (.mref μ.length) (μ ++ [o]) := by
  unfold leaveK
  have : below μ.length (.mref μ.length) = false := by simp [below]
  rw [this]
  simp
theorem cup_ok (ns : List Int) (hl : ns.length ≤ 63) : ∃ a b, cupF [.scr (ns.map PV.int)] [] = .ok (.mref 0) [.lst [.int a, .int b]] ∧ CupAt [.lst [.int a, .int b]] 0 a b := by
  have key : ∀ (c : Int) (r : List PV), r.length ≤ 64 → ∃ a b, cupF [.scr (ns.map PV.int)] [] = (match (ns.map PV.int ++ [.int 0] : List PV) with
      | .int c :: _ => .ok (.mref 0) [.lst [.int a, .int b]]
      | _ => .bad) ∧ 0 ≤ a ∧ 0 ≤ b ∧ b < 4294967296 := by
    intro c r _
    have e0 : ∃ c r, (ns.map PV.int ++ [.int 0] : List PV) = .int c :: r := by
      cases ns with
      | nil => exact ⟨0, [], rfl⟩
      | cons i t => exact ⟨i, t.map PV.int ++ [.int 0], rfl⟩
    obtain ⟨c, r, e0⟩ := e0
    rw [e0]
    have e1 : small 389 = true := by decide
    have w1 : wide 139 = true := wide_small (by decide) (by decide)
    have e2 : small 10 = true := by decide
    have hc : 0 ≤ (if c < 0 then -c else c) := by split <;> omega
    have hlen : ns.length + 1 ≤ 16000000 := by omega
    have lk : ∀ x, leaveK 0 (.mref 0) [x] = .ok (.mref 0) [x] := fun x => leaveK_new (μ := [])
    generalize hd : (if c < 0 then -c else c) = d at hc
    refine ⟨if 10 ^ 18 ≤ d then d / 139 else 0, (d * 389 + 5717) % 1944129511 + 241, ?_, ?_, by omega, by omega⟩
    · by_cases h18 : (1000000000000000000 : Int) ≤ d
      · simp [cupF, e0, hlen, hd, e1, w1, e2, h18, lk]
      · simp [cupF, e0, hlen, hd, e1, w1, e2, h18, lk]
    · split
      · exact Int.ediv_nonneg hc (by decide)
      · omega
  obtain ⟨a, b, h, ha, hb, hb2⟩ := key 0 [] (by simp)
  refine ⟨a, b, ?_, rfl, ha, hb, hb2⟩
  rw [h]
  cases ns <;> rfl
end Py

set_option Elab.async false
set_option linter.all false
set_option maxRecDepth 100000
set_option maxHeartbeats 1000000
/-! M66: the plain law of k66, first part: what the text's reading is, and that the law's own reckoning is that. -/
namespace K66
open Py
structure Sta where
  deep : Nat
  figs : List Nat
  beh : Bool
def isDig (c : Nat) : Bool := [48, 49, 50, 51, 52, 53, 54, 55, 56, 57].contains c
def isSign (c : Nat) : Bool := [65, 66, 67, 68, 69, 70, 40, 41].contains c
def isKind (c : Nat) : Bool := [65, 66, 67, 68, 69, 70].contains c
def stepS (σ : Sta) (c : Nat) : Option Sta :=
  if isDig c then
    if !σ.beh || (σ.figs ++ [c]).head? == some 48 || decide (99 < dval (σ.figs ++ [c])) then none else some { σ with figs := σ.figs ++ [c] }
  else if σ.figs == [49] || !isSign c || (c == 40 && σ.deep == 20) || (c == 41 && (σ.deep == 0 || !σ.beh)) then none
  else some ⟨if c = 40 then σ.deep + 1 else if c = 41 then σ.deep - 1 else σ.deep, [], c != 40⟩
def go : Sta → List Nat → Nat → Nat ⊕ Sta
  | σ, [], _ => .inr σ
  | σ, c :: s, k => match stepS σ c with
    | none => .inl k
    | some σ' => go σ' s (k + 1)
def whole (σ : Sta) : Bool := σ.beh && σ.deep == 0 && σ.figs != [49]
def due (s : List Nat) : Option Nat := match go ⟨0, [], false⟩ s 0 with
  | .inl k => some k
  | .inr σ => if whole σ then none else some s.length
def dueV : Option Nat → PV
  | none => .non
  | some k => .int k
def InvS (σ : Sta) : Prop := σ.figs.length ≤ 2 ∧ σ.figs.all isDigit = true ∧ (σ.figs ≠ [] → σ.beh = true) ∧ σ.deep ≤ 20
theorem dig_of {c : Nat} (h : isDig c = true) : isDigit c = true ∧ 48 ≤ c ∧ c ≤ 57 := by
  have this : c = 48 ∨ c = 49 ∨ c = 50 ∨ c = 51 ∨ c = 52 ∨ c = 53 ∨ c = 54 ∨ c = 55 ∨ c = 56 ∨ c = 57 := by simpa [isDig] using h
  unfold isDigit
  rcases this with h | h | h | h | h | h | h | h | h | h <;> subst h <;> decide
theorem dig_le {c : Nat} (h : isDigit c = true) : 48 ≤ c ∧ c ≤ 57 := by
  unfold isDigit at h
  simpa using h
theorem inv_step {σ σ' : Sta} {c : Nat} (I : InvS σ) (h : stepS σ c = some σ') : InvS σ' := by
  obtain ⟨h1, h2, h3, h4⟩ := I
  unfold stepS at h
  split at h
  · rename_i hd
    split at h
    · cases h
    · rename_i hn
      cases h
      obtain ⟨d1, d2, d3⟩ := dig_of hd
      simp only [Bool.or_eq_true, not_or, Bool.not_eq_true] at hn
      obtain ⟨⟨n1, n2⟩, n3⟩ := hn
      have hb : σ.beh = true := by simpa using n1
      refine ⟨?_, by simp [h2, d1], fun _ => hb, h4⟩
      have n3 : ¬ 99 < dval (σ.figs ++ [c]) := by simpa using n3
      match hf : σ.figs, h1, h2, n2, n3 with
      | [], _, _, _, _ => simp
      | [a], _, _, _, _ => simp
      | [a, b], _, h2, n2, n3 =>
        simp only [List.all_cons, List.all_nil, Bool.and_true, Bool.and_eq_true] at h2
        have a1 := dig_le h2.1
        have a2 := dig_le h2.2
        simp [dval] at n2 n3
        omega
      | _ :: _ :: _ :: _, h1, _, _, _ => simp at h1
  · split at h
    · cases h
    · rename_i hn
      cases h
      refine ⟨by simp, by simp, fun z => absurd rfl z, ?_⟩
      simp only [Bool.or_eq_true, not_or, Bool.not_eq_true] at hn
      obtain ⟨⟨⟨_, _⟩, n3⟩, n4⟩ := hn
      show (if c = 40 then σ.deep + 1 else if c = 41 then σ.deep - 1 else σ.deep) ≤ 20
      split
      · rename_i e
        have : ¬ σ.deep = 20 := by simpa [e] using n3
        omega
      · split <;> omega

/-! ### values compared -/
@[simp] theorem isData_i {i : Int} : isData (.int i) = true := by simp [isData, pdepth]
@[simp] theorem isData_s {s : List Nat} : isData (.str s) = true := by simp [isData, pdepth]
@[simp] theorem isData_b {q : Bool} : isData (.bl q) = true := by simp [isData, pdepth]
@[simp] theorem isData_n : isData .non = true := by simp [isData, pdepth]
@[simp] theorem peq_i {i j : Int} : peq (.int i) (.int j) = (i == j) := by simp [peq]
@[simp] theorem peq_s {i j : List Nat} : peq (.str i) (.str j) = (i == j) := by simp [peq]
@[simp] theorem peq_b {i j : Bool} : peq (.bl i) (.bl j) = (i == j) := by simp [peq]
@[simp] theorem peq_n : peq .non .non = true := by simp [peq]
@[simp] theorem fEq_ {v w : PV} {μ : Mem} : fEq v w μ = if isData (deref μ v) && isData (deref μ w) then .ok (.bl (peq (deref μ v) (deref μ w))) μ else .bad := rfl
@[simp] theorem fNe_ {v w : PV} {μ : Mem} : fNe v w μ = if isData (deref μ v) && isData (deref μ w) then .ok (.bl (!peq (deref μ v) (deref μ w))) μ else .bad := rfl
@[simp] theorem fIn_d {c : Nat} {μ : Mem} : fIn false (.str [c]) (.str [48, 49, 50, 51, 52, 53, 54, 55, 56, 57]) μ = .ok (.bl (isDig c)) μ := rfl
@[simp] theorem fIn_k {c : Nat} {μ : Mem} : fIn false (.str [c]) (.str [65, 66, 67, 68, 69, 70]) μ = .ok (.bl (isKind c)) μ := rfl
@[simp] theorem fIn_n {c : Nat} {μ : Mem} : fIn true (.str [c]) (.str [65, 66, 67, 68, 69, 70, 40, 41]) μ = .ok (.bl (!isSign c)) μ := rfl

/-! ### the law's own reckoning -/
abbrev tgD : Tg := tgT (tgsCons (tgN 4) (tgsCons (tgN 5) tgsNil))
def bodyD : Sv := (ifS (tB (op2 (fIn false) (varI 5) (conI (.str [48, 49, 50, 51, 52, 53, 54, 55, 56, 57])))) (seqS (asgS (tgN 2) (op2 fAdd (varI 2) (varI 5)))
  (ifS (tOr (tNot (tTruth (varI 3))) (tOr (tB (op2 fEq (op2 fIx (varI 2) (conI (.int 0))) (conI (.str [48])))) (tB (op2 fGt (opN fInt (consI (varI 2) nilI)) (conI (.int 99)))))) (retS (varI 4)) passS)) (seqS (ifS (tOr (tB (op2 fEq (varI 2) (conI (.str [49])))) (tOr (tB (op2 (fIn true) (varI 5) (conI (.str [65, 66, 67, 68, 69, 70, 40, 41])))) (tOr (tAnd (tB (op2 fEq (varI 5) (conI (.str [40])))) (tB (op2 fEq (varI 1) (conI (.int 20))))) (tAnd (tB (op2 fEq (varI 5) (conI (.str [41])))) (tOr (tB (op2 fEq (varI 1) (conI (.int 0)))) (tNot (tTruth (varI 3)))))))) (retS (varI 4)) passS)
  (seqS (asgS (tgN 1) (op2 fAdd (varI 1) (ifI (tB (op2 fEq (varI 5) (conI (.str [40])))) (conI (.int 1)) (ifI (tB (op2 fEq (varI 5) (conI (.str [41])))) (op1 fNeg (conI (.int 1))) (conI (.int 0))))))
  (asgS (tgT (tgsCons (tgN 2) (tgsCons (tgN 3) tgsNil))) (opN fTup (consI (conI (.str [])) (consI (op2 fNe (varI 5) (conI (.str [40]))) nilI)))))))
def envD (t : List Nat) (σ : Sta) (x y : Option PV) : PEnv := [some (.str t), some (.int σ.deep), some (.str σ.figs), some (.bl σ.beh), x, y]
theorem head_at {f : List Nat} {h : Nat} {t : List Nat} (e : f = h :: t) : atI f 0 = some h := by
  subst e; simp
theorem body_due {t : List Nat} {σ : Sta} {c : Nat} {k : Nat} {μ : Mem} (I : InvS σ) :
    bodyD (envD t σ (some (.int k)) (some (.str [c]))) μ = match stepS σ c with
      | none => .ret (.int k) μ
      | some σ' => .next (envD t σ' (some (.int k)) (some (.str [c]))) μ := by
  obtain ⟨h1, h2, h3, h4⟩ := I
  unfold stepS
  by_cases hd : isDig c = true
  · have d := dig_of hd
    rw [if_pos hd]
    obtain ⟨deep, figs, beh⟩ := σ
    have e1 : (figs ++ [c]).length ≤ 16000000 := by simp at h1 ⊢; omega
    have e1' : figs.length + 1 ≤ 16000000 := by simp at h1 ⊢; omega
    have e2 : (figs ++ [c]).length ≤ 600 := by simp at h1 ⊢; omega
    have e3 : (figs ++ [c]).all isDigit = true := by simp at h2 ⊢; exact ⟨h2, d.1⟩
    obtain ⟨h, r, e4⟩ : ∃ h r, figs ++ [c] = h :: r := by
      cases figs with
      | nil => exact ⟨c, [], rfl⟩
      | cons a b => exact ⟨a, b ++ [c], rfl⟩
    have e5 : atI (figs ++ [c]) 0 = some h := head_at e4
    have e6 : (figs ++ [c]).head? = some h := by rw [e4]; rfl
    have e7 : (figs ++ [c]).isEmpty = false := by rw [e4]; rfl
    have e2' : figs.length + 1 ≤ 600 := by simp at h1 ⊢; omega
    have e3' : figs.all isDigit = true := h2
    have e8 : ([h] : List Nat).length = 1 := rfl
    have hc : isDigit c = true := d.1
    rw [e6]
    have hb1 : bodyD (envD t ⟨deep, figs, beh⟩ (some (.int k)) (some (.str [c]))) μ = (match (if !beh || (h == 48) || decide (99 < dval (figs ++ [c])) then none else some ⟨deep, figs ++ [c], beh⟩ : Option Sta) with
      | none => .ret (.int k) μ
      | some σ' => .next (envD t σ' (some (.int k)) (some (.str [c]))) μ) := by
      have e9 : fInt [.str (figs ++ [c])] μ = .ok (.int (dval (figs ++ [c]))) μ := by
        rw [fInt_s, e3, e7, decide_eq_true e2]; rfl
      have e10 : fIx (.str (figs ++ [c])) (.int 0) μ = .ok (.str [h]) μ := by
        rw [fIx_, deref_s]
        show ixS _ _ _ = _
        rw [ixS_, if_pos e1, e5]
      cases beh with
      | false => simp [bodyD, envD, hd, e1', -fInt_s, -fIx_]
      | true =>
        by_cases q1 : h = 48
        · subst q1; simp [bodyD, envD, hd, e1', e9, e10, -fInt_s, -fIx_]
        · by_cases q2 : 99 < dval (figs ++ [c])
          · simp [bodyD, envD, hd, e1', e9, e10, q1, q2, -fInt_s, -fIx_]
            omega
          · simp [bodyD, envD, hd, e1', e9, e10, q1, q2, -fInt_s, -fIx_]
            omega
    rw [hb1]
    rfl
  · rw [if_neg hd]
    have hd' : isDig c = false := by simpa using hd
    obtain ⟨deep, figs, beh⟩ := σ
    by_cases q1 : figs = [49]
    · simp [bodyD, envD, hd', q1]
    · by_cases q2 : isSign c = true
      · by_cases q3 : c = 40
        · subst q3
          by_cases q4 : deep = 20
          · simp [bodyD, envD, hd', q1, q2, q4]
          · have q6 : ¬ (deep : Int) = 20 := by omega
            simp [bodyD, envD, hd', q1, q2, q4, q6]
        · by_cases q5 : c = 41
          · subst q5
            by_cases q4 : deep = 0
            · simp [bodyD, envD, hd', q1, q2, q4]
            · cases beh with
              | false => simp [bodyD, envD, hd', q1, q2, q4]
              | true =>
                simp [bodyD, envD, hd', q1, q2, q4]
                omega
          · simp [bodyD, envD, hd', q1, q2, q3, q5]
            simp [bne]
      · have q2' : isSign c = false := by simpa using q2
        simp [bodyD, envD, hd', q1, q2']
theorem loop_due {t : List Nat} {μ : Mem} : ∀ (s : List Nat) (k : Nat) (σ : Sta) (x y : Option PV), InvS σ →
    (∃ n, go σ s k = .inl n ∧ forL tgD bodyD (enumL k (s.map fun c => .str [c])) (envD t σ x y) μ = .ret (.int n) μ) ∨
    ∃ σ' x' y', go σ s k = .inr σ' ∧ InvS σ' ∧ forL tgD bodyD (enumL k (s.map fun c => .str [c])) (envD t σ x y) μ = .next (envD t σ' x' y') μ
  | [], k, σ, x, y, I => .inr ⟨σ, x, y, rfl, I, rfl⟩
  | c :: s, k, σ, x, y, I => by
    have hb := body_due (t := t) (k := k) (μ := μ) (c := c) I
    have ht : tgD (.tup [.int k, .str [c]]) (envD t σ x y) μ = .ok (envD t σ (some (.int k)) (some (.str [c]))) μ := by simp [envD]
    simp only [List.map_cons, enumL, forL_cons, ht, hb, go]
    cases q : stepS σ c with
    | none => exact .inl ⟨k, rfl, rfl⟩
    | some σ' => exact loop_due s (k + 1) σ' _ _ (inv_step I q)
theorem due_ok {s : List Nat} {μ : Mem} (hl : s.length ≤ 16000000) : f_law_due [.str s] μ = .ok (dueV (due s)) μ := by
  have h0 : InvS ⟨0, [], false⟩ := ⟨by simp, by simp, by simp, by simp⟩
  have e : cb_law_due = seqS (asgS (tgT (tgsCons (tgN 1) (tgsCons (tgN 2) (tgsCons (tgN 3) tgsNil)))) (opN fTup (consI (conI (.int 0)) (consI (conI (.str [])) (consI (conI (.bl false)) nilI)))))
    (seqS (forS (enumI (varI 0)) tgD bodyD) (retS (ifI (tAnd (tTruth (varI 3)) (tAnd (tB (op2 fEq (varI 1) (conI (.int 0)))) (tB (op2 fNe (varI 2) (conI (.str [49])))))) (conI .non) (opN fLen (consI (varI 0) nilI))))) := rfl
  have e0 : ([some (.str s), some (.int 0), some (.str []), some (.bl false), none, none] : PEnv) = envD s ⟨0, [], false⟩ none none := rfl
  unfold f_law_due due
  rw [e]
  rcases loop_due (t := s) (μ := μ) s 0 ⟨0, [], false⟩ none none h0 with ⟨n, h1, h2⟩ | ⟨σ', x', y', h1, I, h2⟩
  · rw [h1]
    have h2 : forL tgD bodyD (enumL 0 (List.map (fun c => PV.str [c]) s)) [some (.str s), some (.int 0), some (.str []), some (.bl false), none, none] μ = Out.ret (PV.int n) μ := h2
    simp [h2, dueV]
  · rw [h1]
    obtain ⟨deep, figs, beh⟩ := σ'
    have h2 : forL tgD bodyD (enumL 0 (List.map (fun c => PV.str [c]) s)) [some (.str s), some (.int 0), some (.str []), some (.bl false), none, none] μ = Out.next [some (.str s), some (.int deep), some (.str figs), some (.bl beh), x', y'] μ := h2
    simp [h2, whole]
    cases beh with
    | false => simp [hl, dueV]
    | true =>
      by_cases q1 : deep = 0
      · by_cases q2 : figs = [49]
        · simp [q1, q2, hl, dueV]
        · simp [q1, q2, hl, dueV]
      · have q3 : ¬ (deep : Int) = 0 := by omega
        simp [q1, q3, hl, dueV]
end K66

set_option Elab.async false
set_option linter.all false
set_option maxRecDepth 100000
set_option maxHeartbeats 1000000
/-! R66: the reader reads as the state machine says. -/
namespace K66
open Py
section
variable {μ : Mem} {n : Nat} {xs : List PV} {v y : PV} {o : MO} {ρ : PEnv}
theorem set_same (h : μ[n]? = some o) (o' : MO) : (μ.set n o')[n]? = some o' := List.getElem?_set_self (List.getElem?_eq_some_iff.mp h).1
theorem set_ne {m : Nat} (h : n ≠ m) (o' : MO) : (μ.set n o')[m]? = μ[m]? := List.getElem?_set_ne h
theorem app_at (h : μ[n]? = some (.lst xs)) (hl : xs.length < 16000000) : fAppend (.mref n) [v] μ = .ok .non (μ.set n (.lst (xs ++ [v]))) := by
  simp only [fAppend, onLst, h]
  rw [if_pos hl]
  rfl
theorem pop_at (h : μ[n]? = some (.lst (xs ++ [y]))) : fPop (.mref n) [] μ = .ok y (μ.set n (.lst xs)) := by
  simp [fPop, onLst, h]
theorem isLst_at (h : μ[n]? = some (.lst xs)) : isLst μ (.mref n) = true := by simp [h]
theorem fld_at {c f : String} {fs : List (String × PV)} (h : μ[n]? = some (.ins c fs)) (hg : getF f fs = some v) : fFld [c] f (.mref n) μ = .ok v μ := by
  simp [fFld, h, hg]
theorem tgFld_at {c f : String} {fs : List (String × PV)} {a : Ev} (ha : a ρ μ = .ok (.mref n) μ) (h : μ[n]? = some (.ins c fs)) (hl : fs.length < 1000) : tgFld [c] f a v ρ μ = .ok ρ (μ.set n (.ins c (setF f v fs))) := by
  simp [tgFld, ha, h, hl]
theorem last_at (zs : List PV) (z : PV) : atI (zs ++ [z]) (-1) = some z := by
  have h1 : ¬ ((zs.length : Int) + 1 < 1) := by omega
  have h2 : (-1 + ((zs.length : Int) + 1)).toNat = zs.length := by omega
  have h3 : (1 : Int) ≤ zs.length + 1 := by omega
  simp [atI, ixN, h2, h3]
theorem ix_last {zs : List PV} {z : PV} (h : μ[n]? = some (.lst (zs ++ [z]))) : fIx (.mref n) (.int (-1)) μ = .ok z μ := by
  simp only [fIx_, deref_m, h, ixL_, last_at]
theorem leave_len {μ1 : Mem} (h : μ1.length = μ.length) : leave μ.length v μ1 = .ok v μ1 := by
  unfold leave
  rw [if_pos h]
end
def insR (σ : Sta) (m : Nat) : MO := .ins "FormulaReader" [("rows", .mref (m + 2)), ("figures", .str σ.figs), ("has_part", .bl σ.beh)]
def RowOk (k : Nat) (ys : List PV) : Prop := ys.length ≤ k ∧ belows 0 ys = true
structure RowsB (μ : Mem) (m k : Nat) (σ : Sta) (b : Bool) (refs : List Nat) (r : Nat) (xs : List PV) : Prop where
  rd : μ[m]? = some (insR σ m)
  rows : μ[m + 2]? = some (.lst ((refs.map PV.mref) ++ [.mref r]))
  cnt : refs.length = σ.deep
  nd : r ∉ refs
  nds : refs.Nodup
  far : ∀ i ∈ r :: refs, m + 1 ≤ i ∧ i ≠ m + 2 ∧ i < μ.length
  low : ∀ i ∈ refs, ∃ ys, RowOk k ys ∧ μ[i]? = some (.lst ys)
  top : μ[r]? = some (.lst xs)
  tok : RowOk k xs
  part : b = true → ∃ ys p q, xs = ys ++ [.tup (p :: q)]
  len : m + 3 ≤ μ.length
abbrev Rows (μ : Mem) (m k : Nat) (σ : Sta) (refs : List Nat) (r : Nat) (xs : List PV) : Prop := RowsB μ m k σ σ.beh refs r xs
theorem belows_app {m : Nat} : ∀ {xs ys : List PV}, belows m (xs ++ ys) = (belows m xs && belows m ys)
  | [], ys => by simp [belows]
  | x :: xs, ys => by simp [belows, belows_app (xs := xs), Bool.and_assoc]
theorem close_same {μ : Mem} {m k : Nat} {σ : Sta} {refs : List Nat} {r : Nat} {xs : List PV} (D : Rows μ m k σ refs r xs) (h : σ.figs = [49]) : f_FormulaReader_close_part [.mref m] μ = .ok (.bl false) μ := by
  have e1 : fFld ["FormulaReader"] "figures" (.mref m) μ = .ok (.str σ.figs) μ := fld_at D.rd (by simp [getF])
  simp [f_FormulaReader_close_part, cb_FormulaReader_close_part, e1, h]
theorem close_ok {μ : Mem} {m k : Nat} {σ : Sta} {refs : List Nat} {r : Nat} {xs : List PV} (D : Rows μ m k σ refs r xs) (I : InvS σ) (hk : k < 16000000) (h : σ.figs ≠ [49]) :
    ∃ μ' xs', f_FormulaReader_close_part [.mref m] μ = .ok (.bl true) μ' ∧ Rows μ' m k ⟨σ.deep, [], σ.beh⟩ refs r xs' ∧ μ'.length = μ.length ∧ μ'.take m = μ.take m := by
  have e1 : fFld ["FormulaReader"] "figures" (.mref m) μ = .ok (.str σ.figs) μ := fld_at D.rd (by simp [getF])
  have fr := D.far r List.mem_cons_self
  have rm : r ≠ m := by omega
  have r2 : r ≠ m + 2 := fr.2.1
  have keep : ∀ {μ' : Mem} {o : MO}, μ'.length = μ.length → (∀ i, i < m → μ'[i]? = μ[i]?) → μ'.take m = μ.take m := fun {μ' o} hl hi => by
    apply List.ext_getElem?
    intro i
    by_cases q : i < m
    · rw [List.getElem?_take_of_lt q, List.getElem?_take_of_lt q, hi i q]
    · rw [List.getElem?_eq_none (by rw [List.length_take]; omega), List.getElem?_eq_none (by rw [List.length_take]; omega)]
  by_cases h0 : σ.figs = []
  · refine ⟨μ.set m (insR ⟨σ.deep, [], σ.beh⟩ m), xs, ?_, ?_, by simp, ?_⟩
    · have e2 : tgFld ["FormulaReader"] "figures" (varI 0) (.str []) [some (.mref m), none] μ = .ok [some (.mref m), none] (μ.set m (insR ⟨σ.deep, [], σ.beh⟩ m)) := by
        rw [tgFld_at (n := m) (by simp) D.rd (by simp)]
        simp [setF, insR]
      simp [f_FormulaReader_close_part, cb_FormulaReader_close_part, e1, h0, e2]
    · refine ⟨set_same D.rd _, by rw [set_ne (by omega)]; exact D.rows, D.cnt, D.nd, D.nds, fun i hi => ?_, fun i hi => ?_, by rw [set_ne (Ne.symm rm)]; exact D.top, D.tok, D.part, by simpa using D.len⟩
      · simpa using D.far i hi
      · have := D.far i (List.mem_cons_of_mem _ hi)
        rw [set_ne (by omega)]
        exact D.low i hi
    · exact keep (o := insR σ m) (by simp) fun i hi => set_ne (by omega) _
  · have hb := I.2.2.1 h0
    obtain ⟨ys, p, q, rfl⟩ := D.part hb
    have hfig : fInt [.str σ.figs] = fun μ => .ok (.int (dval σ.figs)) μ := by
      funext μ
      rw [fInt_s, I.2.1, decide_eq_true (by have := I.1; omega)]
      cases q : σ.figs with
      | nil => exact absurd q h0
      | cons a b => rfl
    have e3 : fFld ["FormulaReader"] "rows" (.mref m) μ = .ok (.mref (m + 2)) μ := fld_at D.rd (by simp [getF])
    have e4 : fIx (.mref (m + 2)) (.int (-1)) μ = .ok (.mref r) μ := ix_last D.rows
    have e5 : isLst μ (.mref r) = true := isLst_at D.top
    have e6 := pop_at D.top
    have t1 := D.tok.1
    have hy : ys.length < 16000000 := by simp at t1; omega
    generalize hμ1 : μ.set r (.lst ys) = μ1 at e6
    have d1 : μ1[m]? = some (insR σ m) := by rw [← hμ1, set_ne rm]; exact D.rd
    have d2 : μ1[m + 2]? = some (.lst ((refs.map PV.mref) ++ [.mref r])) := by rw [← hμ1, set_ne r2]; exact D.rows
    have d3 : μ1[r]? = some (.lst ys) := by rw [← hμ1]; exact set_same D.top _
    have g1 : fFld ["FormulaReader"] "rows" (.mref m) μ1 = .ok (.mref (m + 2)) μ1 := fld_at d1 (by simp [getF])
    have g2 : fIx (.mref (m + 2)) (.int (-1)) μ1 = .ok (.mref r) μ1 := ix_last d2
    have g3 : isLst μ1 (.mref r) = true := isLst_at d3
    have g4 : fFld ["FormulaReader"] "figures" (.mref m) μ1 = .ok (.str σ.figs) μ1 := fld_at d1 (by simp [getF])
    have g5 := app_at (v := .tup [p, .int (dval σ.figs)]) d3 hy
    have g8 : fIx (.tup (p :: q)) (.int 0) μ1 = .ok p μ1 := by simp
    generalize hμ2 : μ1.set r (.lst (ys ++ [.tup [p, .int (dval σ.figs)]])) = μ2 at g5
    have d4 : μ2[m]? = some (insR σ m) := by rw [← hμ2, set_ne rm]; exact d1
    have g6 : tgFld ["FormulaReader"] "figures" (varI 0) (.str []) [some (.mref m), some (.tup (p :: q))] μ2 = .ok [some (.mref m), some (.tup (p :: q))] (μ2.set m (insR ⟨σ.deep, [], σ.beh⟩ m)) := by
      rw [tgFld_at (n := m) (by simp) d4 (by simp)]
      simp [setF, insR]
    have hl2 : μ2.length = μ.length := by rw [← hμ2, ← hμ1]; simp
    have g7 : leave μ.length (.bl true) (μ2.set m (insR ⟨σ.deep, [], σ.beh⟩ m)) = .ok (.bl true) (μ2.set m (insR ⟨σ.deep, [], σ.beh⟩ m)) := leave_len (by simp [hl2])
    refine ⟨μ2.set m (insR ⟨σ.deep, [], σ.beh⟩ m), ys ++ [.tup [p, .int (dval σ.figs)]], ?_, ?_, by simp [hl2], ?_⟩
    · simp [f_FormulaReader_close_part, cb_FormulaReader_close_part, e1, e3, e4, e5, e6, g1, g2, g3, g4, g5, g6, g7, g8, h0, h, hfig, -fIx_, -isLst_m, -fInt_s]
    · have tb := D.tok.2
      have len : (μ2.set m (insR ⟨σ.deep, [], σ.beh⟩ m)).length = μ.length := by simp [hl2]
      have at_ : ∀ i, i ≠ r → i ≠ m → (μ2.set m (insR ⟨σ.deep, [], σ.beh⟩ m))[i]? = μ[i]? := fun i h1 h2 => by
        rw [set_ne (Ne.symm h2), ← hμ2, set_ne (Ne.symm h1), ← hμ1, set_ne (Ne.symm h1)]
      refine ⟨set_same d4 _, by rw [at_ _ (Ne.symm r2) (by omega)]; exact D.rows, D.cnt, D.nd, D.nds, fun i hi => by rw [len]; exact D.far i hi, fun i hi => ?_, ?_, ⟨by simpa using t1, ?_⟩, fun _ => ⟨ys, p, [.int (dval σ.figs)], rfl⟩, by rw [len]; exact D.len⟩
      · have f := D.far i (List.mem_cons_of_mem _ hi)
        rw [at_ i (fun z => by subst z; exact D.nd hi) (by omega)]
        exact D.low i hi
      · rw [set_ne (Ne.symm rm), ← hμ2, set_same d3]
      · rw [belows_app] at tb ⊢
        simp only [Bool.and_eq_true] at tb ⊢
        refine ⟨tb.1, ?_⟩
        have := tb.2
        simp [belows, below] at this ⊢
        exact this.1
    · refine keep (o := insR σ m) (by simp [hl2]) fun i hi => ?_
      rw [set_ne (by omega), ← hμ2, set_ne (by omega), ← hμ1, set_ne (by omega)]
theorem take_keep {μ μ' : Mem} {m : Nat} (hl : μ.length ≤ μ'.length) (hm : m ≤ μ.length) (hi : ∀ i, i < m → μ'[i]? = μ[i]?) : μ'.take m = μ.take m := by
  apply List.ext_getElem?
  intro i
  by_cases q : i < m
  · rw [List.getElem?_take_of_lt q, List.getElem?_take_of_lt q, hi i q]
  · rw [List.getElem?_eq_none (by rw [List.length_take]; omega), List.getElem?_eq_none (by rw [List.length_take]; omega)]
theorem meth_of {μ : Mem} {m : Nat} {σ : Sta} {nm : String} {F : Fn} (h : μ[m]? = some (insR σ m)) (hn : getF nm [("rows", .mref (m + 2)), ("figures", .str σ.figs), ("has_part", .bl σ.beh)] = none) : methOf [("FormulaReader", F)] nm μ (.mref m) = some F := by
  simp [methOf, h, insR, hn]
theorem leave_keep {m i : Nat} {b : Bool} {μ1 : Mem} {o : MO} (hi : i < m) (h : μ1[i]? = some o) (ho : belowM m o = false) : leave m (.bl b) μ1 = .ok (.bl b) μ1 := by
  unfold leave
  by_cases e : μ1.length = m
  · rw [if_pos e]
  · rw [if_neg e]
    have : (μ1.take m).all (belowM m) = false := by
      rw [List.all_eq_false]
      refine ⟨o, ?_, by rw [ho]; decide⟩
      have h2 : (μ1.take m)[i]? = some o := by rw [List.getElem?_take_of_lt hi]; exact h
      exact List.mem_of_getElem? h2
    rw [this]
    simp [settle]
theorem add_ok {μ : Mem} {m k : Nat} {σ : Sta} {b : Bool} {refs : List Nat} {r : Nat} {xs : List PV} {part : PV} (D : RowsB μ m k σ b refs r xs) (hk : k < 16000000) (hp : below 0 part = true) :
    ∃ μ', f_FormulaReader_add [.mref m, part] μ = .ok .non μ' ∧ Rows μ' m (k + 1) ⟨σ.deep, σ.figs, true⟩ refs r (xs ++ [.tup [part, .int 1]]) ∧ μ'.length = μ.length ∧ μ'.take m = μ.take m := by
  have fr := D.far r List.mem_cons_self
  have rm : r ≠ m := by omega
  have r2 : r ≠ m + 2 := fr.2.1
  have e3 : fFld ["FormulaReader"] "rows" (.mref m) μ = .ok (.mref (m + 2)) μ := fld_at D.rd (by simp [getF])
  have e4 : fIx (.mref (m + 2)) (.int (-1)) μ = .ok (.mref r) μ := ix_last D.rows
  have e5 : isLst μ (.mref r) = true := isLst_at D.top
  have hx : xs.length < 16000000 := by have := D.tok.1; omega
  have e6 := app_at (v := .tup [part, .int 1]) D.top hx
  generalize hμ1 : μ.set r (.lst (xs ++ [.tup [part, .int 1]])) = μ1 at e6
  have d1 : μ1[m]? = some (insR σ m) := by rw [← hμ1, set_ne rm]; exact D.rd
  have g6 : tgFld ["FormulaReader"] "has_part" (varI 0) (.bl true) [some (.mref m), some part] μ1 = .ok [some (.mref m), some part] (μ1.set m (insR ⟨σ.deep, σ.figs, true⟩ m)) := by
    rw [tgFld_at (n := m) (by simp) d1 (by simp)]
    simp [setF, insR]
  have hl1 : μ1.length = μ.length := by rw [← hμ1]; simp
  have g7 : leave μ.length .non (μ1.set m (insR ⟨σ.deep, σ.figs, true⟩ m)) = .ok .non (μ1.set m (insR ⟨σ.deep, σ.figs, true⟩ m)) := leave_len (by simp [hl1])
  refine ⟨μ1.set m (insR ⟨σ.deep, σ.figs, true⟩ m), ?_, ?_, by simp [hl1], take_keep (by simp [hl1]) (by have := D.len; omega) fun i hi => by rw [set_ne (by omega), ← hμ1, set_ne (by omega)]⟩
  · simp [f_FormulaReader_add, cb_FormulaReader_add, e3, e4, e5, e6, g6, g7, -fIx_, -isLst_m]
  · have len : (μ1.set m (insR ⟨σ.deep, σ.figs, true⟩ m)).length = μ.length := by simp [hl1]
    have at_ : ∀ i, i ≠ r → i ≠ m → (μ1.set m (insR ⟨σ.deep, σ.figs, true⟩ m))[i]? = μ[i]? := fun i h1 h2 => by
      rw [set_ne (Ne.symm h2), ← hμ1, set_ne (Ne.symm h1)]
    refine ⟨set_same d1 _, by rw [at_ _ (Ne.symm r2) (by omega)]; exact D.rows, D.cnt, D.nd, D.nds, fun i hi => by rw [len]; exact D.far i hi, fun i hi => ?_, ?_, ⟨by have := D.tok.1; simp; omega, ?_⟩, fun _ => ⟨xs, part, [.int 1], rfl⟩, by rw [len]; exact D.len⟩
    · have f := D.far i (List.mem_cons_of_mem _ hi)
      rw [at_ i (fun z => by subst z; exact D.nd hi) (by omega)]
      obtain ⟨ys, ⟨h1, h2⟩, h3⟩ := D.low i hi
      exact ⟨ys, ⟨by omega, h2⟩, h3⟩
    · rw [set_ne (Ne.symm rm), ← hμ1, set_same D.top]
    · rw [belows_app, D.tok.2]
      simp [belows, below, hp]
theorem RowsB.up {μ : Mem} {m k : Nat} {σ : Sta} {b : Bool} {refs : List Nat} {r : Nat} {xs : List PV} (D : RowsB μ m k σ b refs r xs) : RowsB μ m (k + 1) σ b refs r xs :=
  ⟨D.rd, D.rows, D.cnt, D.nd, D.nds, D.far, fun i hi => by
    obtain ⟨ys, ⟨h1, h2⟩, h3⟩ := D.low i hi
    exact ⟨ys, ⟨by omega, h2⟩, h3⟩, D.top, ⟨by have := D.tok.1; omega, D.tok.2⟩, D.part, D.len⟩
/-- a new attribute value only -/
theorem RowsB.put {μ : Mem} {m k : Nat} {σ σ' : Sta} {refs : List Nat} {r : Nat} {xs : List PV} (D : Rows μ m k σ refs r xs) (hd : σ'.deep = σ.deep) (hp : σ'.beh = true → ∃ ys p q, xs = ys ++ [.tup (p :: q)]) :
    Rows (μ.set m (insR σ' m)) m k σ' refs r xs := by
  have fr := D.far r List.mem_cons_self
  refine ⟨set_same D.rd _, by rw [set_ne (by omega)]; exact D.rows, by rw [hd]; exact D.cnt, D.nd, D.nds, fun i hi => by simpa using D.far i hi, fun i hi => ?_, by rw [set_ne (by omega)]; exact D.top, D.tok, hp, by simpa using D.len⟩
  have := D.far i (List.mem_cons_of_mem _ hi)
  rw [set_ne (by omega)]
  exact D.low i hi
theorem figure_ok {μ : Mem} {m k : Nat} {σ : Sta} {refs : List Nat} {r : Nat} {xs : List PV} {c : Nat} (D : Rows μ m k σ refs r xs) (I : InvS σ) (hd : isDig c = true) :
    match stepS σ c with
    | none => f_FormulaReader_take_figure [.mref m, .str [c]] μ = .ok (.bl false) μ
    | some σ' => ∃ μ', f_FormulaReader_take_figure [.mref m, .str [c]] μ = .ok (.bl true) μ' ∧ Rows μ' m k σ' refs r xs ∧ μ'.length = μ.length ∧ μ'.take m = μ.take m := by
  have e1 : fFld ["FormulaReader"] "figures" (.mref m) μ = .ok (.str σ.figs) μ := fld_at D.rd (by simp [getF])
  have e2 : fFld ["FormulaReader"] "has_part" (.mref m) μ = .ok (.bl σ.beh) μ := fld_at D.rd (by simp [getF])
  have D' := D
  obtain ⟨h1, h2, h3, h4⟩ := I
  have d := dig_of hd
  unfold stepS
  rw [if_pos hd]
  obtain ⟨deep, figs, beh⟩ := σ
  have l1 : (figs ++ [c]).length ≤ 16000000 := by simp at h1 ⊢; omega
  have l1' : figs.length + 1 ≤ 16000000 := by simp at h1 ⊢; omega
  have l2 : (figs ++ [c]).length ≤ 600 := by simp at h1 ⊢; omega
  have l3 : (figs ++ [c]).all isDigit = true := by simp at h2 ⊢; exact ⟨h2, d.1⟩
  obtain ⟨h, t, e4⟩ : ∃ h t, figs ++ [c] = h :: t := by
    cases figs with
    | nil => exact ⟨c, [], rfl⟩
    | cons a b => exact ⟨a, b ++ [c], rfl⟩
  have e5 : atI (figs ++ [c]) 0 = some h := head_at e4
  have e6 : (figs ++ [c]).head? = some h := by rw [e4]; rfl
  have e7 : (figs ++ [c]).isEmpty = false := by rw [e4]; rfl
  have e9 : fInt [.str (figs ++ [c])] μ = .ok (.int (dval (figs ++ [c]))) μ := by
    rw [fInt_s, l3, e7, decide_eq_true l2]; rfl
  have e10 : fIx (.str (figs ++ [c])) (.int 0) μ = .ok (.str [h]) μ := by
    rw [fIx_, deref_s]
    show ixS _ _ _ = _
    rw [ixS_, if_pos l1, e5]
  rw [e6]
  cases beh with
  | false => simp [f_FormulaReader_take_figure, cb_FormulaReader_take_figure, e1, e2, l1', -fIx_, -fInt_s]
  | true =>
    by_cases q1 : h = 48
    · subst q1
      simp [f_FormulaReader_take_figure, cb_FormulaReader_take_figure, e1, e2, l1', e9, e10, -fIx_, -fInt_s]
    · by_cases q2 : 99 < dval (figs ++ [c])
      · have q3 : (99 : Int) < (dval (figs ++ [c]) : Nat) := by omega
        simp [f_FormulaReader_take_figure, cb_FormulaReader_take_figure, e1, e2, l1', e9, e10, q1, q2, q3, -fIx_, -fInt_s]
      · have q3 : ¬ (99 : Int) < (dval (figs ++ [c]) : Nat) := by omega
        have g6 : tgFld ["FormulaReader"] "figures" (varI 0) (.str (figs ++ [c])) [some (.mref m), some (.str [c]), some (.str (figs ++ [c]))] μ = .ok [some (.mref m), some (.str [c]), some (.str (figs ++ [c]))] (μ.set m (insR ⟨deep, figs ++ [c], true⟩ m)) := by
          rw [tgFld_at (n := m) (by simp) D.rd (by simp)]
          simp [setF, insR]
        have ee : ((!true) || (some h == some 48) || decide (99 < dval (figs ++ [c]))) = false := by simp [q1]; omega
        rw [ee]
        refine ⟨_, ?_, D.put (σ' := ⟨deep, figs ++ [c], true⟩) rfl (fun _ => D.part rfl), by simp, take_keep (by simp) (by have := D.len; omega) fun i hi => set_ne (by omega) _⟩
        simp [f_FormulaReader_take_figure, cb_FormulaReader_take_figure, e1, e2, l1', e9, e10, q1, q2, q3, g6, -fIx_, -fInt_s]
def pushM (μ : Mem) (m : Nat) (σ : Sta) (refs : List Nat) (r : Nat) : Mem := (((μ ++ [MO.lst []]).set (m + 2) (MO.lst ((refs.map PV.mref ++ [PV.mref r]) ++ [PV.mref μ.length]))).set m (insR ⟨σ.deep + 1, [], false⟩ m))
theorem push_rows {μ : Mem} {m k : Nat} {σ : Sta} {refs : List Nat} {r : Nat} {xs : List PV} (D : Rows μ m k σ refs r xs) :
    Rows (pushM μ m σ refs r) m k ⟨σ.deep + 1, [], false⟩ (refs ++ [r]) μ.length [] := by
  have hl := D.len
  have old : ∀ i, i < μ.length → (μ ++ [MO.lst []])[i]? = μ[i]? := fun i hi => List.getElem?_append_left hi
  have hm : (μ ++ [MO.lst []])[m]? = some (insR σ m) := by rw [old m (by omega)]; exact D.rd
  have h2 : (μ ++ [MO.lst []])[m + 2]? = some (.lst ((refs.map PV.mref) ++ [.mref r])) := by rw [old _ (by omega)]; exact D.rows
  have at_ : ∀ i, i ≠ m → i ≠ m + 2 → (pushM μ m σ refs r)[i]? = (μ ++ [MO.lst []])[i]? := fun i h1 h2 => by
    unfold pushM
    rw [set_ne (Ne.symm h1), set_ne (Ne.symm h2)]
  have all_ : ∀ i ∈ refs ++ [r], m + 1 ≤ i ∧ i ≠ m + 2 ∧ i < μ.length := fun i hi => by
    rcases List.mem_append.mp hi with z | z
    · exact D.far i (List.mem_cons_of_mem _ z)
    · simp at z; subst z; exact D.far _ List.mem_cons_self
  refine ⟨set_same (o := insR σ m) (by rw [set_ne (by omega)]; exact hm) _, ?_, by simp [D.cnt], fun z => ?_, ?_, fun i hi => ?_, fun i hi => ?_, ?_, ⟨Nat.zero_le _, rfl⟩, (fun z => by cases z), by simp [pushM]; omega⟩
  · unfold pushM
    rw [set_ne (by omega), set_same h2, List.map_append]
    rfl
  · have := (all_ _ z).2.2
    omega
  · refine List.nodup_append.mpr ⟨D.nds, by simp, fun a ha b hb e => ?_⟩
    simp at hb
    subst hb e
    exact D.nd ha
  · rcases List.mem_cons.mp hi with z | z
    · subst z; simp [pushM]; omega
    · have := all_ i z
      simp [pushM]; omega
  · have f := all_ i hi
    rw [at_ i (by omega) f.2.1, old i f.2.2]
    rcases List.mem_append.mp hi with z | z
    · exact D.low i z
    · simp at z; subst z; exact ⟨xs, D.tok, D.top⟩
  · rw [at_ _ (by omega) (by omega)]
    simp
theorem bracket_ok {μ : Mem} {m k : Nat} {σ : Sta} {refs : List Nat} {r r0 : Nat} {xs : List PV} (D : Rows μ m k σ (refs ++ [r0]) r xs) (hk : k < 16000000) :
    ∃ μ' xs', f_FormulaReader_add_bracket [.mref m] μ = .ok .non μ' ∧ Rows μ' m (k + 1) ⟨σ.deep - 1, σ.figs, true⟩ refs r0 xs' ∧ μ'.length = μ.length ∧ μ'.take m = μ.take m := by
  have hl := D.len
  have e3 : fFld ["FormulaReader"] "rows" (.mref m) μ = .ok (.mref (m + 2)) μ := fld_at D.rd (by simp [getF])
  have e5 : isLst μ (.mref (m + 2)) = true := isLst_at D.rows
  have e6 := pop_at D.rows
  generalize hμ1 : μ.set (m + 2) (.lst ((refs ++ [r0]).map PV.mref)) = μ1 at e6
  have fr := D.far r List.mem_cons_self
  have f0 := D.far r0 (List.mem_cons_of_mem _ (by simp))
  have h0r : r0 ≠ r := fun z => D.nd (by rw [← z]; simp)
  have old : ∀ i, i ≠ m + 2 → μ1[i]? = μ[i]? := fun i hi => by rw [← hμ1, set_ne (Ne.symm hi)]
  have hl1 : μ1.length = μ.length := by rw [← hμ1]; simp
  have top1 : μ1[r]? = some (.lst xs) := by rw [old r fr.2.1]; exact D.top
  have e7 : fTuple [.mref r] μ1 = .ok (.tup xs) μ1 := by simp [seqM, top1]
  obtain ⟨ys, ⟨y1, y2⟩, y3⟩ := D.low r0 (by simp)
  have nds := List.nodup_append.mp D.nds
  have D1 : RowsB μ1 m k ⟨σ.deep - 1, σ.figs, σ.beh⟩ false refs r0 ys := by
    refine ⟨by rw [old m (by omega)]; exact D.rd, by rw [← hμ1, set_same D.rows, List.map_append]; rfl, ?_, fun z => nds.2.2 r0 z r0 (by simp) rfl, nds.1, fun i hi => ?_, fun i hi => ?_, by rw [old r0 f0.2.1]; exact y3, ⟨y1, y2⟩, (fun z => by cases z), by rw [hl1]; exact hl⟩
    · have := D.cnt
      simp at this
      show refs.length = σ.deep - 1
      omega
    · rw [hl1]
      rcases List.mem_cons.mp hi with z | z
      · subst z; exact f0
      · exact D.far i (List.mem_cons_of_mem _ (by simp [z]))
    · have f := D.far i (List.mem_cons_of_mem _ (by simp [hi]))
      rw [old i f.2.1]
      exact D.low i (by simp [hi])
  have hb : below 0 (.tup xs) = true := D.tok.2
  obtain ⟨μ', a1, a2, a3, a4⟩ := add_ok (part := .tup xs) D1 hk hb
  have mo := meth_of (F := f_FormulaReader_add) (nm := "add") D1.rd (by simp [getF])
  have g7 : leave μ.length .non μ' = .ok .non μ' := leave_len (by rw [a3, hl1])
  refine ⟨μ', _, ?_, a2, by rw [a3, hl1], ?_⟩
  · simp [f_FormulaReader_add_bracket, cb_FormulaReader_add_bracket, mcallI, e3, e5, e6, e7, mo, a1, g7, -fTuple_, -isLst_m]
  · rw [a4]
    exact take_keep (by omega) (by omega) fun i hi => old i (by omega)
theorem sign_kind (c : Nat) : isSign c = (isKind c || c == 40 || c == 41) := by
  unfold isSign isKind
  simp only [List.contains_cons, List.contains_nil, Bool.or_false]
  simp only [Bool.or_assoc]
theorem take_ok {μ : Mem} {m k : Nat} {σ : Sta} {refs : List Nat} {r : Nat} {xs : List PV} {c : Nat} (D : Rows μ m k σ refs r xs) (I : InvS σ) (hk : k + 1 < 16000000) :
    match stepS σ c with
    | none => ∃ μ', f_FormulaReader_take [.mref m, .str [c]] μ = .ok (.bl false) μ' ∧ μ'.take m = μ.take m
    | some σ' => ∃ μ' refs' r' xs', f_FormulaReader_take [.mref m, .str [c]] μ = .ok (.bl true) μ' ∧ Rows μ' m (k + 1) σ' refs' r' xs' ∧ μ'.take m = μ.take m := by
  have hl := D.len
  by_cases hd : isDig c = true
  · have F := figure_ok (c := c) D I hd
    have mo := meth_of (F := f_FormulaReader_take_figure) (nm := "take_figure") D.rd (by simp [getF])
    cases q : stepS σ c with
    | none =>
      rw [q] at F
      exact ⟨μ, by simp [f_FormulaReader_take, cb_FormulaReader_take, hd, mcallI, mo, F], rfl⟩
    | some σ' =>
      rw [q] at F
      obtain ⟨μ', a1, a2, a3, a4⟩ := F
      have g7 : leave μ.length (.bl true) μ' = .ok (.bl true) μ' := leave_len a3
      exact ⟨μ', refs, r, xs, by simp [f_FormulaReader_take, cb_FormulaReader_take, hd, mcallI, mo, a1, g7], a2.up, a4⟩
  · have hd' : isDig c = false := by simpa using hd
    have mo := meth_of (F := f_FormulaReader_close_part) (nm := "close_part") D.rd (by simp [getF])
    unfold stepS
    rw [if_neg hd]
    by_cases q1 : σ.figs = [49]
    · rw [q1]
      have F := close_same D q1
      exact ⟨μ, by simp [f_FormulaReader_take, cb_FormulaReader_take, hd', mcallI, mo, F], rfl⟩
    · obtain ⟨μ1, xs1, b1, D1, b3, b4⟩ := close_ok D I (by omega) q1
      have e1 : fFld ["FormulaReader"] "rows" (.mref m) μ1 = .ok (.mref (m + 2)) μ1 := fld_at D1.rd (by simp [getF])
      have e2 : fFld ["FormulaReader"] "has_part" (.mref m) μ1 = .ok (.bl σ.beh) μ1 := fld_at D1.rd (by simp [getF])
      have cnt : refs.length = σ.deep := D1.cnt
      have e3 : fLen [.mref (m + 2)] μ1 = .ok (.int (σ.deep + 1 : Nat)) μ1 := by
        simp only [fLen_, deref_m, D1.rows]
        simp [cnt]
      have q1' : (σ.figs == [49]) = false := by simpa using q1
      rw [q1']
      by_cases q2 : isKind c = true
      · have mo1 := meth_of (F := f_FormulaReader_add) (nm := "add") D1.rd (by simp [getF])
        have n40 : ¬ c = 40 := fun z => by subst z; revert q2; decide
        have n41 : ¬ c = 41 := fun z => by subst z; revert q2; decide
        have sg : isSign c = true := by rw [sign_kind, q2]; rfl
        obtain ⟨μ2, a1, a2, a3, a4⟩ := add_ok (part := .str [c]) D1 (by omega) rfl
        have g7 : leave μ.length (.bl true) μ2 = .ok (.bl true) μ2 := leave_len (by rw [a3, b3])
        have ee : (false || !isSign c || (c == 40 && σ.deep == 20) || (c == 41 && (σ.deep == 0 || !σ.beh))) = false := by simp [sg, n40, n41]
        rw [ee]
        have e5 : (⟨if c = 40 then σ.deep + 1 else if c = 41 then σ.deep - 1 else σ.deep, [], c != 40⟩ : Sta) = ⟨σ.deep, [], true⟩ := by simp [n40, n41, bne]
        rw [if_neg Bool.false_ne_true, e5]
        exact ⟨μ2, refs, r, _, by simp [f_FormulaReader_take, cb_FormulaReader_take, hd', mcallI, mo, b1, q2, mo1, a1, g7], a2, by rw [a4, b4]⟩
      · have q2' : isKind c = false := by simpa using q2
        by_cases q3 : c = 40
        · subst q3
          have sg : isSign 40 = true := by decide
          by_cases q4 : σ.deep = 20
          · have g7 : leave μ.length (.bl false) μ1 = .ok (.bl false) μ1 := leave_len b3
            have e6 : ¬ (σ.deep : Int) + 1 ≤ 20 := by omega
            rw [sg, q4]
            exact ⟨μ1, by simp [f_FormulaReader_take, cb_FormulaReader_take, hd', mcallI, mo, b1, q2', e1, e2, e3, e6, g7, -fLen_], b4⟩
          · have e6 : (σ.deep : Int) + 1 ≤ 20 := by have := I.2.2.2; omega
            have e7 : isLst μ1 (.mref (m + 2)) = true := isLst_at D1.rows
            have e8 : fAppend (.mref (m + 2)) [.mref μ1.length] (μ1 ++ [.lst []]) = .ok .non ((μ1 ++ [MO.lst []]).set (m + 2) (MO.lst ((refs.map PV.mref ++ [PV.mref r]) ++ [PV.mref μ1.length]))) := by
              refine app_at ?_ (by simp [cnt]; have := I.2.2.2; omega)
              rw [List.getElem?_append_left (by omega)]
              exact D1.rows
            generalize hμ2 : (μ1 ++ [MO.lst []]).set (m + 2) (MO.lst ((refs.map PV.mref ++ [PV.mref r]) ++ [PV.mref μ1.length])) = μ2 at e8
            have d2 : μ2[m]? = some (insR ⟨σ.deep, [], σ.beh⟩ m) := by
              rw [← hμ2, set_ne (by omega), List.getElem?_append_left (by omega)]
              exact D1.rd
            have g6 : tgFld ["FormulaReader"] "has_part" (varI 0) (.bl false) [some (.mref m), some (.str [40])] μ2 = .ok [some (.mref m), some (.str [40])] (μ2.set m (insR ⟨σ.deep + 1, [], false⟩ m)) := by
              rw [tgFld_at (n := m) (by simp) d2 (by simp)]
              simp [setF, insR]
            have hp : μ2.set m (insR ⟨σ.deep + 1, [], false⟩ m) = pushM μ1 m ⟨σ.deep, [], σ.beh⟩ refs r := by rw [← hμ2]; rfl
            have D2 := push_rows D1
            rw [← hp] at D2
            have g7 : leave μ.length (.bl true) (μ2.set m (insR ⟨σ.deep + 1, [], false⟩ m)) = .ok (.bl true) (μ2.set m (insR ⟨σ.deep + 1, [], false⟩ m)) := by
              refine leave_keep (i := m + 2) (by omega) D2.rows ?_
              show belows _ _ = false
              rw [belows_app]
              have : belows μ.length [PV.mref μ1.length] = false := by simp [belows, below, b3]
              rw [this, Bool.and_false]
            have q4' : (σ.deep == 20) = false := by simpa using q4
            have ee : (false || !isSign 40 || ((40 : Nat) == 40 && σ.deep == 20) || ((40 : Nat) == 41 && (σ.deep == 0 || !σ.beh))) = false := by rw [sg, q4']; rfl
            rw [ee]
            refine ⟨_, _, _, _, ?_, D2.up, ?_⟩
            · simp [f_FormulaReader_take, cb_FormulaReader_take, hd', mcallI, mo, b1, q2', e1, e2, e3, e6, e7, e8, g6, g7, -fLen_, -isLst_m]
            · rw [← b4]
              refine take_keep (by rw [← hμ2]; simp) (by omega) fun i hi => ?_
              rw [set_ne (by omega), ← hμ2, set_ne (by omega), List.getElem?_append_left (by omega)]
        · by_cases q5 : c = 41
          · subst q5
            have sg : isSign 41 = true := by decide
            have mo1 := meth_of (F := f_FormulaReader_add_bracket) (nm := "add_bracket") D1.rd (by simp [getF])
            by_cases q6 : σ.deep = 0
            · have g7 : leave μ.length (.bl false) μ1 = .ok (.bl false) μ1 := leave_len b3
              rw [sg, q6]
              have e3' : fLen [.mref (m + 2)] μ1 = .ok (.int 1) μ1 := by rw [e3, q6]; rfl
              exact ⟨μ1, by simp [f_FormulaReader_take, cb_FormulaReader_take, hd', mcallI, mo, b1, q2', e1, e2, e3', g7, -fLen_], b4⟩
            · have q6' : (σ.deep == 0) = false := by simpa using q6
              have e6 : ¬ (σ.deep : Int) + 1 = 1 := by omega
              have e6' : ¬ (σ.deep : Int) = 0 := by omega
              cases hb : σ.beh with
              | false =>
                rw [hb] at e2
                have g7 : leave μ.length (.bl false) μ1 = .ok (.bl false) μ1 := leave_len b3
                rw [sg, q6']
                exact ⟨μ1, by simp [f_FormulaReader_take, cb_FormulaReader_take, hd', mcallI, mo, b1, q2', e1, e2, e3, e6, e6', g7, -fLen_], b4⟩
              | true =>
                rw [hb] at e2
                obtain ⟨refs0, r0, er⟩ : ∃ refs0 r0, refs = refs0 ++ [r0] := by
                  rcases List.eq_nil_or_concat refs with z | ⟨a, b, z⟩
                  · subst z; simp at cnt; omega
                  · exact ⟨a, b, by simpa using z⟩
                subst er
                obtain ⟨μ2, xs2, a1, a2, a3, a4⟩ := bracket_ok D1 (by omega)
                have g7 : leave μ.length (.bl true) μ2 = .ok (.bl true) μ2 := leave_len (by rw [a3, b3])
                rw [sg, q6']
                exact ⟨μ2, refs0, r0, xs2, by simp [f_FormulaReader_take, cb_FormulaReader_take, hd', mcallI, mo, b1, q2', e1, e2, e3, e6, e6', mo1, a1, g7, -fLen_], a2, by rw [a4, b4]⟩
          · have sg : isSign c = false := by simp [sign_kind, q2', q3, q5]
            have g7 : leave μ.length (.bl false) μ1 = .ok (.bl false) μ1 := leave_len b3
            rw [sg]
            exact ⟨μ1, by simp [f_FormulaReader_take, cb_FormulaReader_take, hd', mcallI, mo, b1, q2', q3, q5, e1, e2, e3, g7, -fLen_], b4⟩
def Closed (μ : Mem) : Prop := μ.all (belowM μ.length) = true
mutual
theorem below_mono {a b : Nat} (h : a ≤ b) : ∀ {v : PV}, below a v = true → below b v = true
  | .mref n, e => decide_eq_true (Nat.lt_of_lt_of_le (of_decide_eq_true e) h)
  | .tup xs, e => belows_mono h (xs := xs) e
  | .lst xs, e => belows_mono h (xs := xs) e
  | .scr xs, e => belows_mono h (xs := xs) e
  | .non, _ => rfl
  | .bl _, _ => rfl
  | .int _, _ => rfl
  | .str _, _ => rfl
  | .glob _, _ => rfl
  | .exn _, _ => rfl
theorem belows_mono {a b : Nat} (h : a ≤ b) : ∀ {xs : List PV}, belows a xs = true → belows b xs = true
  | [], _ => rfl
  | x :: xs, e => by
    have e : (below a x && belows a xs) = true := e
    simp only [Bool.and_eq_true] at e
    show (below b x && belows b xs) = true
    rw [below_mono h e.1, belows_mono h e.2]
    rfl
end
theorem leave_back {μ μ1 : Mem} {v : PV} (hc : Closed μ) (ht : μ1.take μ.length = μ) (hs : settle μ.length μ1 v = v) (hb : below μ.length v = true) : leave μ.length v μ1 = .ok v μ := by
  unfold leave
  by_cases e : μ1.length = μ.length
  · rw [if_pos e]
    have : μ1 = μ := by
      rw [← ht, ← e, List.take_length]
    rw [this]
  · rw [if_neg e]
    simp only [hs, hb, ht, Bool.true_and]
    rw [show μ.all (belowM μ.length) = true from hc]
    rfl
theorem init_ok {μ : Mem} : ∃ μ', opN (fMake "FormulaReader" f_FormulaReader_init) nilI [some (.str s), none, none, none] μ = .ok (.mref μ.length) μ' ∧ Rows μ' μ.length 0 ⟨0, [], false⟩ [] (μ.length + 1) [] ∧ μ'.take μ.length = μ := by
  have hin : (μ ++ [MO.ins "FormulaReader" []] ++ [MO.lst []] ++ [MO.lst [.mref (μ.length + 1)]])[μ.length]? = some (.ins "FormulaReader" []) := by simp
  generalize hμc : μ ++ [MO.ins "FormulaReader" []] ++ [MO.lst []] ++ [MO.lst [.mref (μ.length + 1)]] = μc at hin
  have hlc : μc.length = μ.length + 3 := by rw [← hμc]; simp
  have t1 : tgFld ["FormulaReader"] "rows" (varI 0) (.mref (μ.length + 2)) [some (.mref μ.length)] μc = .ok [some (.mref μ.length)] (μc.set μ.length (.ins "FormulaReader" [("rows", .mref (μ.length + 2))])) := by
    rw [tgFld_at (n := μ.length) (by simp) hin (by simp)]
    simp [setF]
  generalize hμ1 : μc.set μ.length (.ins "FormulaReader" [("rows", .mref (μ.length + 2))]) = μ1 at t1
  have d1 : μ1[μ.length]? = some (.ins "FormulaReader" [("rows", .mref (μ.length + 2))]) := by rw [← hμ1]; exact set_same hin _
  have t2 : tgFld ["FormulaReader"] "figures" (varI 0) (.str []) [some (.mref μ.length)] μ1 = .ok [some (.mref μ.length)] (μ1.set μ.length (.ins "FormulaReader" [("rows", .mref (μ.length + 2)), ("figures", .str [])])) := by
    rw [tgFld_at (n := μ.length) (by simp) d1 (by simp)]
    simp [setF]
  generalize hμ2 : μ1.set μ.length (.ins "FormulaReader" [("rows", .mref (μ.length + 2)), ("figures", .str [])]) = μ2 at t2
  have d2 : μ2[μ.length]? = some (.ins "FormulaReader" [("rows", .mref (μ.length + 2)), ("figures", .str [])]) := by rw [← hμ2]; exact set_same d1 _
  have t3 : tgFld ["FormulaReader"] "has_part" (varI 0) (.bl false) [some (.mref μ.length)] μ2 = .ok [some (.mref μ.length)] (μ2.set μ.length (insR ⟨0, [], false⟩ μ.length)) := by
    rw [tgFld_at (n := μ.length) (by simp) d2 (by simp)]
    simp [setF, insR]
  have hl2 : μ2.length = μ.length + 3 := by rw [← hμ2, ← hμ1]; simp [hlc]
  have at_ : ∀ i, i ≠ μ.length → (μ2.set μ.length (insR ⟨0, [], false⟩ μ.length))[i]? = μc[i]? := fun i hi => by
    rw [set_ne (Ne.symm hi), ← hμ2, set_ne (Ne.symm hi), ← hμ1, set_ne (Ne.symm hi)]
  have D : Rows (μ2.set μ.length (insR ⟨0, [], false⟩ μ.length)) μ.length 0 ⟨0, [], false⟩ [] (μ.length + 1) [] := by
    refine ⟨set_same d2 _, ?_, rfl, by simp, by simp, fun i hi => ?_, (fun i hi => by cases hi), ?_, ⟨Nat.le_refl _, rfl⟩, (fun z => by cases z), by simp [hl2]⟩
    · rw [at_ _ (by omega), ← hμc]
      simp
    · simp at hi; subst hi; simp [hl2]
    · rw [at_ _ (by omega), ← hμc]
      simp
  have g7 : leave (μ.length + 1) .non (μ2.set μ.length (insR ⟨0, [], false⟩ μ.length)) = .ok .non (μ2.set μ.length (insR ⟨0, [], false⟩ μ.length)) := by
    unfold leave
    rw [if_neg (by simp [hl2])]
    have : ((μ2.set μ.length (insR ⟨0, [], false⟩ μ.length)).take (μ.length + 1)).all (belowM (μ.length + 1)) = false := by
      rw [List.all_eq_false]
      refine ⟨insR ⟨0, [], false⟩ μ.length, ?_, by simp [insR, belowM, below]⟩
      have h2 : ((μ2.set μ.length (insR ⟨0, [], false⟩ μ.length)).take (μ.length + 1))[μ.length]? = some (insR ⟨0, [], false⟩ μ.length) := by
        rw [List.getElem?_take_of_lt (by omega)]
        exact D.rd
      exact List.mem_of_getElem? h2
    rw [this]
    simp [settle]
  have hμc' : μ ++ ([MO.ins "FormulaReader" []] ++ ([MO.lst []] ++ [MO.lst [.mref (μ.length + 1)]])) = μc := by rw [← hμc]; simp
  refine ⟨μ2.set μ.length (insR ⟨0, [], false⟩ μ.length), ?_, D, ?_⟩
  · have e : f_FormulaReader_init [.mref μ.length] (μ ++ [.ins "FormulaReader" []]) = .ok .non (μ2.set μ.length (insR ⟨0, [], false⟩ μ.length)) := by
      have hμd : μ ++ [MO.ins "FormulaReader" [], MO.lst [], MO.lst [.mref (μ.length + 1)]] = μc := by rw [← hμc]; simp
      simp [f_FormulaReader_init, cb_FormulaReader_init, hμc', hμd, t1, t2, t3, g7]
    simp [fMake, e]
  · apply List.ext_getElem?
    intro i
    by_cases q : i < μ.length
    · rw [List.getElem?_take_of_lt q, at_ i (by omega), ← hμc]
      simp [List.getElem?_append, q]
    · rw [List.getElem?_eq_none (by rw [List.length_take]; omega), List.getElem?_eq_none (by omega)]
theorem whole_ok {μ : Mem} {m k : Nat} {σ : Sta} {refs : List Nat} {r : Nat} {xs : List PV} (D : Rows μ m k σ refs r xs) : f_FormulaReader_is_whole [.mref m] μ = .ok (.bl (whole σ)) μ := by
  have e1 : fFld ["FormulaReader"] "figures" (.mref m) μ = .ok (.str σ.figs) μ := fld_at D.rd (by simp [getF])
  have e2 : fFld ["FormulaReader"] "has_part" (.mref m) μ = .ok (.bl σ.beh) μ := fld_at D.rd (by simp [getF])
  have e0 : fFld ["FormulaReader"] "rows" (.mref m) μ = .ok (.mref (m + 2)) μ := fld_at D.rd (by simp [getF])
  have cnt := D.cnt
  have e3 : fLen [.mref (m + 2)] μ = .ok (.int (σ.deep + 1 : Nat)) μ := by
    simp only [fLen_, deref_m, D.rows]
    simp [cnt]
  obtain ⟨deep, figs, beh⟩ := σ
  cases beh with
  | false => simp [f_FormulaReader_is_whole, cb_FormulaReader_is_whole, e0, e1, e2, e3, whole, -fLen_]
  | true =>
    by_cases q : deep = 0
    · subst q
      simp [f_FormulaReader_is_whole, cb_FormulaReader_is_whole, e0, e1, e2, e3, whole, -fLen_, bne]
    · have q2 : ¬ (deep : Int) + 1 = 1 := by omega
      have q3 : ¬ (deep : Int) = 0 := by omega
      simp [f_FormulaReader_is_whole, cb_FormulaReader_is_whole, e0, e1, e2, e3, whole, -fLen_, q, q2, q3]
abbrev tgR : Tg := tgT (tgsCons (tgN 2) (tgsCons (tgN 3) tgsNil))
def bodyR : Sv := ifS (tNot (tTruth (mcallI [("FormulaReader", f_FormulaReader_take)] "take" (varI 1) (consI (varI 3) nilI)))) (retS (opN fTup (consI (varI 2) (consI (opN fTup nilI) nilI)))) passS
theorem loop_read {t : List Nat} {μ0 : Mem} : ∀ (s : List Nat) (k : Nat) (σ : Sta) (x y : Option PV) (μ : Mem) (refs : List Nat) (r : Nat) (xs : List PV), InvS σ → k + s.length < 16000000 → Rows μ μ0.length k σ refs r xs → μ.take μ0.length = μ0 →
    (∃ n μ', go σ s k = .inl n ∧ forL tgR bodyR (enumL k (s.map fun c => .str [c])) [some (.str t), some (.mref μ0.length), x, y] μ = .ret (.tup [.int n, .tup []]) μ' ∧ μ'.take μ0.length = μ0) ∨
    ∃ σ' x' y' μ' k' refs' r' xs', go σ s k = .inr σ' ∧ InvS σ' ∧ forL tgR bodyR (enumL k (s.map fun c => .str [c])) [some (.str t), some (.mref μ0.length), x, y] μ = .next [some (.str t), some (.mref μ0.length), x', y'] μ' ∧ Rows μ' μ0.length k' σ' refs' r' xs' ∧ k' < 16000000 ∧ μ'.take μ0.length = μ0
  | [], k, σ, x, y, μ, refs, r, xs, I, hk, D, ht => .inr ⟨σ, x, y, μ, k, refs, r, xs, rfl, I, rfl, D, by simpa using hk, ht⟩
  | c :: s, k, σ, x, y, μ, refs, r, xs, I, hk, D, ht => by
    have hk' : k + 1 + s.length < 16000000 := by simp at hk; omega
    have F := take_ok (c := c) D I (by omega)
    have mo := meth_of (F := f_FormulaReader_take) (nm := "take") D.rd (by simp [getF])
    have htg : tgR (.tup [.int k, .str [c]]) [some (.str t), some (.mref μ0.length), x, y] μ = .ok [some (.str t), some (.mref μ0.length), some (.int k), some (.str [c])] μ := by simp
    simp only [List.map_cons, enumL, forL_cons, htg, go]
    cases q : stepS σ c with
    | none =>
      rw [q] at F
      obtain ⟨μ', a1, a2⟩ := F
      exact .inl ⟨k, μ', rfl, by simp [bodyR, mcallI, mo, a1], by rw [a2, ht]⟩
    | some σ' =>
      rw [q] at F
      obtain ⟨μ', refs', r', xs', a1, a2, a3⟩ := F
      have hb : bodyR [some (.str t), some (.mref μ0.length), some (.int k), some (.str [c])] μ = .next [some (.str t), some (.mref μ0.length), some (.int k), some (.str [c])] μ' := by simp [bodyR, mcallI, mo, a1]
      rw [hb]
      exact loop_read s (k + 1) σ' _ _ μ' refs' r' xs' (inv_step I q) hk' a2 (by rw [a3, ht])
theorem read_ok {s : List Nat} {μ : Mem} (hc : Closed μ) (hl : s.length < 15000000) : ∃ w, f_read [.str s] μ = .ok (.tup [dueV (due s), w]) μ := by
  have h0 : InvS ⟨0, [], false⟩ := ⟨by simp, by simp, by simp, by simp⟩
  obtain ⟨μ1, i1, i2, i3⟩ := init_ok (s := s) (μ := μ)
  have e : cb_read = seqS (asgS (tgN 1) (opN (fMake "FormulaReader" f_FormulaReader_init) nilI)) (seqS (forS (enumI (varI 0)) tgR bodyR)
    (seqS (ifS (tNot (tTruth (mcallI [("FormulaReader", f_FormulaReader_is_whole)] "is_whole" (varI 1) nilI))) (retS (opN fTup (consI (opN fLen (consI (varI 0) nilI)) (consI (opN fTup nilI) nilI)))) passS)
    (seqS (exprS (mcallI [("FormulaReader", f_FormulaReader_close_part)] "close_part" (varI 1) nilI))
    (retS (opN fTup (consI (conI .non) (consI (opN fTuple (consI (op2 fIx (op1 (fFld ["FormulaReader"] "rows") (varI 1)) (conI (.int 0))) nilI)) nilI))))))) := rfl
  unfold f_read due
  rw [e]
  have hl2 : s.length ≤ 16000000 := by omega
  have i1' : fMake "FormulaReader" f_FormulaReader_init [] μ = .ok (.mref μ.length) μ1 := i1
  rcases loop_read (t := s) (μ0 := μ) s 0 ⟨0, [], false⟩ none none μ1 [] (μ.length + 1) [] h0 (by omega) i2 i3 with ⟨n, μ', g1, g2, g3⟩ | ⟨σ', x', y', μ', k', refs', r', xs', g1, I', g2, D, hk', g3⟩
  · rw [g1]
    have lv := leave_back (v := .tup [.int n, .tup []]) hc g3 rfl rfl
    exact ⟨.tup [], by simp [i1', g2, lv, dueV]⟩
  · rw [g1]
    have wo := whole_ok D
    have mo := meth_of (F := f_FormulaReader_is_whole) (nm := "is_whole") D.rd (by simp [getF])
    cases hw : whole σ' with
    | false =>
      rw [hw] at wo
      have lv := leave_back (v := .tup [.int s.length, .tup []]) hc g3 rfl rfl
      exact ⟨.tup [], by simp [i1', g2, lv, mcallI, mo, wo, hl2, dueV, hw]⟩
    | true =>
      have hw' := hw
      unfold whole at hw'
      simp only [Bool.and_eq_true] at hw'
      have hf : σ'.figs ≠ [49] := by simpa [bne] using hw'.2
      have hd : σ'.deep = 0 := by simpa using hw'.1.2
      rw [hw] at wo
      have mo2 := meth_of (F := f_FormulaReader_close_part) (nm := "close_part") D.rd (by simp [getF])
      obtain ⟨μ2, xs2, c1, D2, c3, c4⟩ := close_ok D I' hk' hf
      have e0 : fFld ["FormulaReader"] "rows" (.mref μ.length) μ2 = .ok (.mref (μ.length + 2)) μ2 := fld_at D2.rd (by simp [getF])
      have er : refs' = [] := by
        have := D.cnt
        rw [hd] at this
        exact List.length_eq_zero_iff.mp this
      subst er
      have e4 : fIx (.mref (μ.length + 2)) (.int 0) μ2 = .ok (.mref r') μ2 := by
        simp only [fIx_, deref_m, D2.rows]
        simp
      have e5 : fTuple [.mref r'] μ2 = .ok (.tup xs2) μ2 := by simp [seqM, D2.top]
      have hb : below μ.length (.tup [.non, .tup xs2]) = true := by
        have : belows μ.length xs2 = true := belows_mono (Nat.zero_le _) D2.tok.2
        simp [below, belows, this]
      have lv := leave_back (v := .tup [.non, .tup xs2]) hc (by rw [c4, g3]) rfl hb
      exact ⟨.tup xs2, by simp [i1', g2, lv, mcallI, mo, wo, mo2, c1, e0, e4, e5, dueV, hw, -fIx_, -fTuple_]⟩
end K66

set_option Elab.async false
set_option linter.all false
set_option maxRecDepth 100000
set_option maxHeartbeats 1000000
/-! L66: the law holds. -/
namespace K66
open Py
@[simp] theorem fIsI_ {t : String} {v : PV} {μ : Mem} : fIsI t v μ = match tyName μ v with
  | some n => .ok (.bl (n == t || (n == "bool" && t == "int"))) μ
  | none => .bad := rfl
@[simp] theorem ty_s {μ : Mem} {s : List Nat} : tyName μ (.str s) = some "str" := rfl
@[simp] theorem ty_i {μ : Mem} {s : Int} : tyName μ (.int s) = some "int" := rfl
@[simp] theorem ty_b {μ : Mem} {s : Bool} : tyName μ (.bl s) = some "bool" := rfl
@[simp] theorem ty_n {μ : Mem} : tyName μ .non = some "NoneType" := rfl
@[simp] theorem ty_t {μ : Mem} {s : List PV} : tyName μ (.tup s) = some "tuple" := rfl
@[simp] theorem ty_l {μ : Mem} {s : List PV} : tyName μ (.lst s) = some "list" := rfl
theorem isNon_due (d : Option Nat) : isNon (dueV d) = d.isNone := by cases d <;> rfl
theorem bad_ok {s : List Nat} {μ : Mem} (hc : Closed μ) (hl : s.length ≤ 20000) : f_bad_at [.str s] μ = .ok (dueV (due s)) μ := by
  obtain ⟨w, h⟩ := read_ok hc (by omega : s.length < 15000000)
  have h1 : s.length ≤ 16000000 := by omega
  have h2 : ¬ (20000 : Int) < s.length := by omega
  simp [f_bad_at, cb_bad_at, h, h1, h2]
theorem bad_long {s : List Nat} {μ : Mem} (hl : 20000 < s.length) (h1 : s.length ≤ 16000000) : f_bad_at [.str s] μ = .exc ⟨"InvalidText", []⟩ μ := by
  have h2 : (20000 : Int) < s.length := by omega
  simp [f_bad_at, cb_bad_at, h1, h2]
theorem formula_is {s : List Nat} {μ : Mem} (hc : Closed μ) (hl : s.length ≤ 20000) : f_is_formula [.str s] μ = .ok (.bl (decide (s.length ≤ 200) && (due s).isNone)) μ := by
  obtain ⟨w, h⟩ := read_ok hc (by omega : s.length < 15000000)
  have h1 : s.length ≤ 16000000 := by omega
  by_cases h3 : s.length ≤ 200
  · have h2 : (s.length : Int) ≤ 200 := by omega
    simp [f_is_formula, cb_is_formula, f_fits, cb_fits, h, h1, h2, h3, isNon_due]
  · have h2 : ¬ (s.length : Int) ≤ 200 := by omega
    simp [f_is_formula, cb_is_formula, f_fits, cb_fits, h, h1, h2, h3, isNon_due]
section
variable {ρ : PEnv} {μ : Mem} {a b : Ev} {own : List Nat} {t : Tg} {c : Tv} {e : Ev} {x : PV} {xs acc ys : List PV} {it : Iv}
@[simp] theorem compI_ : compI it own t c e ρ μ = (it ρ μ).bind fun xs μ1 =>
  if xs.length ≤ 16000000 then (compL t c e (wipe ρ own) xs [] μ1).bind fun ys μ2 => .ok (.lst ys) μ2 else .bad := rfl
@[simp] theorem compL_nil : compL t c e ρ [] acc μ = .ok acc μ := rfl
@[simp] theorem compL_cons : compL t c e ρ (x :: xs) acc μ = match t x ρ μ with
    | .ok ρ1 μ1 => match c ρ1 μ1 with
      | .ok true μ2 => match e ρ1 μ2 with
        | .ok y μ3 => compL t c e ρ xs (acc ++ [y]) μ3
        | _ => .bad
      | .ok false μ2 => compL t c e ρ xs acc μ2
      | _ => .bad
    | _ => .bad := rfl
@[simp] theorem wipe_nil : wipe ρ [] = ρ := rfl
@[simp] theorem wipe_cons (i : Nat) : wipe ρ (i :: own) = (wipe ρ own).set i none := rfl
@[simp] theorem zipI_ : zipI a b ρ μ = (a ρ μ).bind fun v μ1 => (b ρ μ1).bind fun w μ2 => match v, w with
  | .lst xs, .lst ys => .ok (zipL xs ys) μ2
  | .tup xs, .tup ys => .ok (zipL xs ys) μ2
  | _, _ => .bad := rfl
@[simp] theorem zipL_cons {y : PV} : zipL (x :: xs) (y :: ys) = .tup [x, y] :: zipL xs ys := rfl
@[simp] theorem zipL_nil : zipL [] ys = [] := by cases ys <;> rfl
end
theorem fIn_45 {i : Int} {μ : Mem} : fIn false (.int i) (.tup [.int 4, .int 5]) μ = .ok (.bl (4 == i || 5 == i)) μ := by
  simp [fIn, flat, peq]
theorem sort_n {μ : Mem} : f_law_sort [.non] μ = .ok (.int 0) μ := by simp [f_law_sort, cb_law_sort]
theorem sort_i {μ : Mem} {i : Int} : f_law_sort [.int i] μ = .ok (.int 2) μ := by simp [f_law_sort, cb_law_sort]
theorem sort_b {μ : Mem} {i : Bool} : f_law_sort [.bl i] μ = .ok (.int 1) μ := by simp [f_law_sort, cb_law_sort]
theorem sort_l {μ : Mem} {i : List PV} : f_law_sort [.lst i] μ = .ok (.int 5) μ := by simp [f_law_sort, cb_law_sort]
theorem isData_nil : isData (.lst []) = true := by simp [isData, pdepth, pdepths]
theorem like_flat {μ : Mem} {n : Nat} {v : PV} (h : v = .non ∨ (∃ i, v = .int i) ∨ ∃ b, v = .bl b) : f_law_like (n + 1) [v, v] μ = .ok (.bl true) μ := by
  rcases h with h | ⟨i, h⟩ | ⟨b, h⟩ <;> subst h
  · simp [f_law_like, cb_law_like, sort_n, fIn_45]
  · simp [f_law_like, cb_law_like, sort_i, fIn_45]
  · simp [f_law_like, cb_law_like, sort_b, fIn_45]
theorem like_pair {μ : Mem} {n : Nat} {v w : PV} (hv : v = .non ∨ (∃ i, v = .int i) ∨ ∃ b, v = .bl b) (hw : w = .non ∨ (∃ i, w = .int i) ∨ ∃ b, w = .bl b) : f_law_like (n + 2) [.lst [v, w], .lst [v, w]] μ = .ok (.bl true) μ := by
  have h1 := like_flat (μ := μ) (n := n) hv
  have h2 := like_flat (μ := μ) (n := n) hw
  have e : f_law_like (n + 2) = Py.fnI 2 5 (cb_law_like (f_law_like (n + 1))) := rfl
  rw [e]
  generalize f_law_like (n + 1) = g at h1 h2
  simp [cb_law_like, sort_l, fIn_45, h1, h2, isData_nil, peq, peqs]
theorem due_flat (d : Option Nat) : dueV d = .non ∨ (∃ i, dueV d = .int i) ∨ ∃ b, dueV d = .bl b := by
  cases d with
  | none => exact .inl rfl
  | some k => exact .inr (.inl ⟨k, rfl⟩)
theorem right_ok {s : List Nat} {μ : Mem} (hc : Closed μ) (hl : s.length ≤ 20000) : f_law_right [.str s] μ = .ok (.bl true) μ := by
  have h1 : s.length ≤ 16000000 := by omega
  have d := due_ok (μ := μ) h1
  have b := bad_ok hc hl
  have f := formula_is hc hl
  have e : (if due s = none then (.ok (.bl (decide ((s.length : Int) ≤ 200))) μ : Res PV) else .ok (.bl false) μ) = .ok (.bl (decide (s.length ≤ 200) && (due s).isNone)) μ := by
    cases due s with
    | some k => simp
    | none =>
      have : decide ((s.length : Int) ≤ 200) = decide (s.length ≤ 200) := by
        apply decide_eq_decide.mpr
        omega
      simp [this]
  have lk := like_pair (μ := μ) (n := 2) (due_flat (due s)) (.inr (.inr ⟨decide (s.length ≤ 200) && (due s).isNone, rfl⟩))
  simp [f_law_right, cb_law_right, d, b, f, h1, isNon_due, e, lk]

/-! ### what is drawn -/
def cupM (a b : Int) : Mem := [.lst [.int a, .int b]]
def OkC (a b : Int) : Prop := 0 ≤ a ∧ 0 ≤ b ∧ b < 4294967296
theorem cup_at {a b : Int} (h : OkC a b) : CupAt (cupM a b) 0 a b := ⟨rfl, h⟩
theorem cup_closed (a b : Int) : Closed (cupM a b) := by simp [Closed, cupM, belowM, belows, below]
@[simp] theorem cup_len (a b : Int) : (cupM a b).length = 1 := rfl
@[simp] theorem leave_cup {a b : Int} {v : PV} : leave 1 v (cupM a b) = .ok v (cupM a b) := by
  unfold leave
  rw [if_pos (cup_len a b)]
theorem roll' {a b m : Int} (h : OkC a b) (h0 : 0 < m) (h1 : m < 2147483648) : ∃ r a' b', f_law_roll [.mref 0, .int m] (cupM a b) = .ok (.int r) (cupM a' b') ∧ 0 ≤ r ∧ r < m ∧ OkC a' b' := by
  obtain ⟨r, a', b', h2, h3, h4, h5⟩ := roll_ok (cup_at h) h0 h1
  exact ⟨r, a', b', h2, h3, h4, h5.2⟩
theorem at_some {α : Type} {xs : List α} {r : Int} (h0 : 0 ≤ r) (h1 : r < xs.length) : ∃ x, atI xs r = some x ∧ x ∈ xs := by
  have h2 : r.toNat < xs.length := by omega
  refine ⟨xs[r.toNat], ?_, List.getElem_mem h2⟩
  simp [atI, ixN, h0, h1, h2]
theorem some_s {a b : Int} {t : List Nat} (h : OkC a b) (h0 : t ≠ []) (h1 : t.length < 16000000) : ∃ c a' b', f_law_some [.mref 0, .str t] (cupM a b) = .ok (.str [c]) (cupM a' b') ∧ OkC a' b' := by
  have hp : 0 < t.length := List.length_pos_iff.mpr h0
  obtain ⟨r, a', b', h2, h3, h4, h5⟩ := roll' (m := t.length) h (by omega) (by omega)
  obtain ⟨c, h6, _⟩ := at_some (xs := t) h3 h4
  have h7 : t.length ≤ 16000000 := by omega
  exact ⟨c, a', b', by simp [f_law_some, cb_law_some, h2, h6, h7], h5⟩
theorem some_l {a b : Int} {t : List PV} (h : OkC a b) (h0 : t ≠ []) (h1 : t.length < 16000000) : ∃ x a' b', f_law_some [.mref 0, .lst t] (cupM a b) = .ok x (cupM a' b') ∧ x ∈ t ∧ OkC a' b' := by
  have hp : 0 < t.length := List.length_pos_iff.mpr h0
  obtain ⟨r, a', b', h2, h3, h4, h5⟩ := roll' (m := t.length) h (by omega) (by omega)
  obtain ⟨c, h6, h7⟩ := at_some (xs := t) h3 h4
  exact ⟨c, a', b', by simp [f_law_some, cb_law_some, h2, h6], h7, h5⟩
theorem digs_len {n : Nat} (h : n < 100) : (digsF 40 n).length ≤ 2 := by
  unfold digsF
  split
  · simp
  · unfold digsF
    rw [if_pos (by omega)]
    simp
/-- how long a formula of that depth may be -/
def unit : Nat → Nat
  | 0 => 3
  | d + 1 => 3 * unit d + 4
def bodyF (self : Fn) : Sv := (seqS (asgS (tgN 4) (ifI (tOr (tB (op2 fEq (varI 1) (conI (.int 0)))) (tB (op2 fGt (opN f_law_roll (consI (varI 0) (consI (conI (.int 3)) nilI))) (conI (.int 0))))) (opN f_law_some (consI (varI 0) (consI (conI (.str [65, 66, 67, 70])) nilI))) (op2 fAdd (op2 fAdd (conI (.str [40])) (opN self (consI (varI 0) (consI (op2 fSub (varI 1) (conI (.int 1))) nilI)))) (conI (.str [41])))))
  (asgS (tgN 2) (op2 fAdd (op2 fAdd (varI 2) (varI 4)) (opN f_law_some (consI (varI 0) (consI (opN fLst (consI (conI (.str [])) (consI (conI (.str [])) (consI (conI (.str [50])) (consI (conI (.str [51])) (consI (opN fStr (consI (op2 fAdd (conI (.int 2)) (opN f_law_roll (consI (varI 0) (consI (conI (.int 98)) nilI)))) nilI)) nilI)))))) nilI))))))
def Draws (F : Fn) (d : Nat) : Prop := ∀ a b, OkC a b → ∃ s a' b', F [.mref 0, .int d] (cupM a b) = .ok (.str s) (cupM a' b') ∧ OkC a' b' ∧ s.length ≤ 3 * unit d
theorem turn_ok {self : Fn} {d : Nat} {a b : Int} {f : List Nat} {x y : Option PV} (hd : d ≤ 5) (h : OkC a b) (hs : ∀ d', d = d' + 1 → Draws self d') (hf : f.length < 1000000) :
    ∃ f' y' a' b', bodyF self [some (.mref 0), some (.int d), some (.str f), x, y] (cupM a b) = .next [some (.mref 0), some (.int d), some (.str f'), x, y'] (cupM a' b') ∧ OkC a' b' ∧ f'.length ≤ f.length + unit d := by
  have part : ∃ p a' b', ifI (tOr (tB (op2 fEq (varI 1) (conI (.int 0)))) (tB (op2 fGt (opN f_law_roll (consI (varI 0) (consI (conI (.int 3)) nilI))) (conI (.int 0))))) (opN f_law_some (consI (varI 0) (consI (conI (.str [65, 66, 67, 70])) nilI))) (op2 fAdd (op2 fAdd (conI (.str [40])) (opN self (consI (varI 0) (consI (op2 fSub (varI 1) (conI (.int 1))) nilI)))) (conI (.str [41])))
      [some (.mref 0), some (.int d), some (.str f), x, y] (cupM a b) = .ok (.str p) (cupM a' b') ∧ OkC a' b' ∧ p.length + 2 ≤ unit d := by
    cases d with
    | zero =>
      obtain ⟨c, a', b', h1, h2⟩ := some_s (t := [65, 66, 67, 70]) h (by simp) (by simp)
      exact ⟨[c], a', b', by simp [h1], h2, by simp [unit]⟩
    | succ d' =>
      obtain ⟨r, a1, b1, h1, h2, h3, h4⟩ := roll' (m := 3) h (by omega) (by omega)
      have e0 : ¬ ((d' : Int) + 1 = 0) := by omega
      by_cases hr : 0 < r
      · obtain ⟨c, a', b', g1, g2⟩ := some_s (t := [65, 66, 67, 70]) h4 (by simp) (by simp)
        exact ⟨[c], a', b', by simp [h1, e0, hr, g1], g2, by simp [unit]⟩
      · obtain ⟨s, a', b', g1, g2, g3⟩ := hs d' rfl a1 b1 h4
        have hu : 3 * unit d' ≤ 100000 := by
          have : d' = 0 ∨ d' = 1 ∨ d' = 2 ∨ d' = 3 ∨ d' = 4 := by omega
          rcases this with h | h | h | h | h <;> subst h <;> decide
        have l1 : s.length + 1 ≤ 16000000 := by omega
        have l2 : s.length + 1 + 1 ≤ 16000000 := by omega
        have e1 : (d' : Int) + 1 - 1 = d' := by omega
        have l3 : 1 + s.length ≤ 16000000 := by omega
        exact ⟨40 :: (s ++ [41]), a', b', by simp [h1, e0, hr, e1, g1, l1, l2, l3], g2, by simp [unit]; omega⟩
  obtain ⟨p, a1, b1, p1, p2, p3⟩ := part
  obtain ⟨r, a2, b2, r1, r2, r3, r4⟩ := roll' (m := 98) p2 (by omega) (by omega)
  have hu : unit d ≤ 100000 := by
    have : d = 0 ∨ d = 1 ∨ d = 2 ∨ d = 3 ∨ d = 4 ∨ d = 5 := by omega
    rcases this with h | h | h | h | h | h <;> subst h <;> decide
  obtain ⟨z, a3, b3, z1, z2, z3⟩ := some_l (t := [.str [], .str [], .str [50], .str [51], .str (digsF 40 (2 + r).toNat)]) r4 (by simp) (by simp)
  obtain ⟨w, hw, hwl⟩ : ∃ w, z = .str w ∧ w.length ≤ 2 := by
    have := digs_len (n := (2 + r).toNat) (by omega)
    simp at z2
    rcases z2 with e | e | e | e
    · exact ⟨_, e, by simp⟩
    · exact ⟨_, e, by simp⟩
    · exact ⟨_, e, by simp⟩
    · exact ⟨_, e, this⟩
  subst hw
  have q1 : 0 ≤ 2 + r ∧ 2 + r < 1000000000000000000000000000000 := by omega
  have q2 : f.length + p.length ≤ 16000000 := by omega
  have q3 : f.length + p.length + w.length ≤ 16000000 := by omega
  refine ⟨f ++ p ++ w, some (.str p), a3, b3, ?_, z3, by simp; omega⟩
  have q4 : f.length + (p.length + w.length) ≤ 16000000 := by omega
  simp [bodyF, p1, r1, q1, z1, q2, q3, q4, -ifI_]
theorem loop_form {self : Fn} {d : Nat} (hd : d ≤ 5) (hs : ∀ d', d = d' + 1 → Draws self d') : ∀ (xs : List PV) (f : List Nat) (x y : Option PV) (a b : Int), OkC a b → f.length + xs.length * unit d < 1000000 →
    ∃ f' x' y' a' b', forL (tgN 3) (bodyF self) xs [some (.mref 0), some (.int d), some (.str f), x, y] (cupM a b) = .next [some (.mref 0), some (.int d), some (.str f'), x', y'] (cupM a' b') ∧ OkC a' b' ∧ f'.length ≤ f.length + xs.length * unit d
  | [], f, x, y, a, b, h, hf => ⟨f, x, y, a, b, rfl, h, by simp⟩
  | z :: xs, f, x, y, a, b, h, hf => by
    have e : (z :: xs).length * unit d = xs.length * unit d + unit d := by rw [List.length_cons, Nat.succ_mul]
    rw [e] at hf ⊢
    obtain ⟨f1, y1, a1, b1, h1, h2, h3⟩ := turn_ok (self := self) (x := some z) (y := y) (f := f) hd h hs (by omega)
    obtain ⟨f2, x2, y2, a2, b2, g1, g2, g3⟩ := loop_form hd hs xs f1 (some z) y1 a1 b1 h2 (by omega)
    exact ⟨f2, x2, y2, a2, b2, by simp [h1, g1], g2, by omega⟩
theorem unit_le {d : Nat} (h : d ≤ 5) : unit d ≤ 100000 := by
  have : d = 0 ∨ d = 1 ∨ d = 2 ∨ d = 3 ∨ d = 4 ∨ d = 5 := by omega
  rcases this with h | h | h | h | h | h <;> subst h <;> decide
theorem draws_step {self : Fn} {d : Nat} (hd : d ≤ 5) (hs : ∀ d', d = d' + 1 → Draws self d') : Draws (Py.fnI 2 5 (cb_law_formula self)) d := by
  intro a b h
  obtain ⟨r, a1, b1, r1, r2, r3, r4⟩ := roll' (m := 3) h (by omega) (by omega)
  have hu := unit_le hd
  have hl : (rangeL 0 (1 + r)).length ≤ 3 := by simp [rangeL]; omega
  have hm : (rangeL 0 (1 + r)).length * unit d ≤ 3 * unit d := Nat.mul_le_mul_right _ hl
  obtain ⟨f', x', y', a2, b2, g1, g2, g3⟩ := loop_form (self := self) hd hs (rangeL 0 (1 + r)) [] none none a1 b1 r4 (by simp; omega)
  have e : cb_law_formula self = seqS (asgS (tgN 2) (conI (.str []))) (seqS (forS (it1 (op2 fAdd (conI (.int 1)) (opN f_law_roll (consI (varI 0) (consI (conI (.int 3)) nilI))))) (tgN 3) (bodyF self)) (retS (varI 2))) := rfl
  have q : -1000000000 ≤ 1 + r ∧ 1 + r ≤ 1000000000 := by omega
  refine ⟨f', a2, b2, ?_, g2, by simp at g3; omega⟩
  rw [e]
  simp [r1, q, g1]
theorem draws_all : ∀ (n d : Nat), d ≤ 5 → d < n → Draws (f_law_formula n) d
  | 0, _, _, h => absurd h (Nat.not_lt_zero _)
  | n + 1, d, hd, h => draws_step hd fun d' e => draws_all n d' (by omega) (by omega)
theorem short_ok {a b : Int} {d : Int} (h : OkC a b) (h0 : 0 ≤ d) (h1 : d < 4) : ∃ s a' b', f_law_short [.mref 0, .int d] (cupM a b) = .ok (.str s) (cupM a' b') ∧ OkC a' b' ∧ s.length ≤ 200 := by
  obtain ⟨s, a', b', g1, g2, g3⟩ := draws_all 5 d.toNat (by omega) (by omega) a b h
  have e : ((d.toNat : Nat) : Int) = d := by omega
  rw [e] at g1
  have hu := unit_le (d := d.toNat) (by omega)
  have l1 : s.length ≤ 16000000 := by omega
  by_cases q : s.length ≤ 200
  · have q' : (s.length : Int) ≤ 200 := by omega
    exact ⟨s, a', b', by simp [f_law_short, cb_law_short, g1, l1, q'], g2, q⟩
  · have q' : ¬ (s.length : Int) ≤ 200 := by omega
    exact ⟨[65, 50, 40, 66, 67, 41, 51], a', b', by simp [f_law_short, cb_law_short, g1, l1, q'], g2, by simp⟩
section
variable {ρ : PEnv} {μ : Mem} {a : Ev} {lo hi : Ov} {x : List Nat} {l u : Option Int}
@[simp] theorem sliceI_ : sliceI a lo hi ρ μ = (a ρ μ).bind fun v μ1 => (lo ρ μ1).bind fun l μ2 => (hi ρ μ2).bind fun h μ3 => fSl v l h μ3 := rfl
@[simp] theorem noPart_ : noPart ρ μ = .ok none μ := rfl
@[simp] theorem part_ : part a ρ μ = (a ρ μ).bind fun v μ1 => match v with
  | .int i => .ok (some i) μ1
  | _ => .bad := rfl
@[simp] theorem fSl_s : fSl (.str x) l u μ = if x.length ≤ 16000000 then .ok (.str (cut x l u)) μ else .bad := rfl
theorem cut_len {α : Type} (x : List α) : (cut x l u).length ≤ x.length := by
  unfold cut
  rw [List.length_take, List.length_drop]
  omega
end
theorem near_ok {a b : Int} {t : List Nat} (h : OkC a b) (hl : t.length < 1000000) : ∃ s a' b', f_law_near [.mref 0, .str t] (cupM a b) = .ok (.str s) (cupM a' b') ∧ OkC a' b' ∧ s.length ≤ 2 * t.length + 1 := by
  obtain ⟨r, a1, b1, r1, r2, r3, r4⟩ := roll' (m := (t.length : Int) + 1) h (by omega) (by omega)
  obtain ⟨c, a2, b2, c1, c2⟩ := some_s (t := [65, 66, 70, 40, 41, 48, 49, 50, 57, 71, 97, 32, 10]) r4 (by simp) (by simp)
  have l1 : t.length ≤ 16000000 := by omega
  have k1 := cut_len (l := none) (u := some r) t
  have k2 := cut_len (l := some r) (u := none) t
  have k3 := cut_len (l := some (r + 1)) (u := none) t
  obtain ⟨z, a3, b3, z1, z2, z3⟩ := some_l (t := [.str (cut t none (some r)), .str (cut t none (some r) ++ [c] ++ cut t (some r) none), .str (cut t none (some r) ++ cut t (some (r + 1)) none), .str (cut t none (some r) ++ [c] ++ cut t (some (r + 1)) none)]) c2 (by simp) (by simp)
  obtain ⟨w, hw, hwl⟩ : ∃ w, z = .str w ∧ w.length ≤ 2 * t.length + 1 := by
    simp at z2
    rcases z2 with e | e | e | e
    · exact ⟨_, e, by omega⟩
    · exact ⟨_, e, by simp; omega⟩
    · exact ⟨_, e, by simp; omega⟩
    · exact ⟨_, e, by simp; omega⟩
  subst hw
  have m1 : (cut t none (some r)).length + 1 ≤ 16000000 := by omega
  have m2 : (cut t none (some r)).length + 1 + (cut t (some r) none).length ≤ 16000000 := by omega
  have m3 : (cut t none (some r)).length + (cut t (some (r + 1)) none).length ≤ 16000000 := by omega
  have m4 : (cut t none (some r)).length + 1 + (cut t (some (r + 1)) none).length ≤ 16000000 := by omega
  have m5 : (cut t none (some r)).length + ((cut t (some r) none).length + 1) ≤ 16000000 := by omega
  have m6 : (cut t none (some r)).length + ((cut t (some (r + 1)) none).length + 1) ≤ 16000000 := by omega
  refine ⟨w, a3, b3, ?_, z3, hwl⟩
  simp at z1
  simp [f_law_near, cb_law_near, l1, r1, c1, m1, m2, m3, m4, m5, m6, z1]
end K66

set_option Elab.async false
set_option linter.all false
set_option maxRecDepth 100000
set_option maxHeartbeats 1000000
/-! A66: the law's rows, one after another. -/
namespace K66
open Py
def st0 : Sv := (asgS (tgN 1) (opN f_law_cup (consI (varI 0) nilI)))
def st1 : Sv := (forS (it1 (conI (.int 6))) (tgN 2) (seqS (asgS (tgN 3) (opN f_law_short (consI (varI 1) (consI (opN f_law_roll (consI (varI 1) (consI (conI (.int 4)) nilI))) nilI))))
  (forS (it1 (conI (.int 6))) (tgN 4) (seqS (ifS (tNot (tTruth (opN f_law_right (consI (varI 3) nilI)))) (retS (conI (.bl false))) passS)
  (asgS (tgN 3) (opN f_law_near (consI (varI 1) (consI (varI 3) nilI))))))))
def st2 : Sv := (asgS (tgN 5) (opN fLst (consI (opN fTup (consI (conI (.str [65, 50, 40, 66, 41])) (consI (conI .non) nilI))) (consI (opN fTup (consI (conI (.str [65, 50, 40, 66])) (consI (conI (.int 4)) nilI))) (consI (opN fTup (consI (conI (.str [65, 49])) (consI (conI (.int 2)) nilI))) (consI (opN fTup (consI (conI (.str [65, 48, 49])) (consI (conI (.int 1)) nilI))) (consI (opN fTup (consI (conI (.str [40, 41])) (consI (conI (.int 1)) nilI))) (consI (opN fTup (consI (conI (.str [])) (consI (conI (.int 0)) nilI))) (consI (opN fTup (consI (conI (.str [65, 49, 48, 48])) (consI (conI (.int 3)) nilI))) (consI (opN fTup (consI (conI (.str [65, 66, 41])) (consI (conI (.int 2)) nilI))) (consI (opN fTup (consI (conI (.str [65, 71])) (consI (conI (.int 1)) nilI))) (consI (opN fTup (consI (conI (.str [65, 49, 66])) (consI (conI (.int 2)) nilI))) (consI (opN fTup (consI (conI (.str [50, 65])) (consI (conI (.int 0)) nilI))) (consI (opN fTup (consI (conI (.str [40, 50, 65, 41])) (consI (conI (.int 1)) nilI))) nilI))))))))))))))
def st3 : Sv := (asgS (tgN 5) (op2 fAdd (varI 5) (opN fLst (consI (opN fTup (consI (conI (.str [65, 41, 50])) (consI (conI (.int 1)) nilI))) (consI (opN fTup (consI (conI (.str [40, 40, 65, 41, 50, 41, 57, 57])) (consI (conI .non) nilI))) (consI (opN fTup (consI (conI (.str [65, 32, 50])) (consI (conI (.int 1)) nilI))) (consI (opN fTup (consI (conI (.str [40, 65, 41, 41])) (consI (conI (.int 3)) nilI))) (consI (opN fTup (consI (conI (.str [65, 49, 50, 66, 51])) (consI (conI .non) nilI))) (consI (opN fTup (consI (conI (.str [65, 50, 10])) (consI (conI (.int 2)) nilI))) (consI (opN fTup (consI (conI (.str [40])) (consI (conI (.int 1)) nilI))) (consI (opN fTup (consI (conI (.str [65, 48])) (consI (conI (.int 1)) nilI))) (consI (opN fTup (consI (conI (.str [40, 65, 41, 40])) (consI (conI (.int 4)) nilI))) nilI))))))))))))
def st4 : Sv := (forS (itI (varI 5)) (tgT (tgsCons (tgN 3) (tgsCons (tgN 6) tgsNil))) (ifS (tOr (tB (op2 fNe (opN f_law_due (consI (varI 3) nilI)) (varI 6))) (tNot (tTruth (opN f_law_right (consI (varI 3) nilI))))) (retS (conI (.bl false))) passS))
def st5 : Sv := (asgS (tgN 7) (op2 fAdd (op2 fAdd (op2 fMul (conI (.str [40])) (conI (.int 20))) (conI (.str [65]))) (op2 fMul (conI (.str [41, 50])) (conI (.int 20)))))
def st6 : Sv := (forS (itI (opN fTup (consI (varI 7) (consI (op2 fAdd (op2 fAdd (conI (.str [40])) (varI 7)) (conI (.str [41]))) (consI (op2 fMul (conI (.str [40])) (conI (.int 21))) (consI (op2 fMul (conI (.str [65])) (conI (.int 200))) (consI (op2 fMul (conI (.str [65])) (conI (.int 201))) (consI (op2 fMul (conI (.str [65, 66])) (conI (.int 100))) (consI (op2 fMul (conI (.str [40, 65, 41, 57, 57])) (conI (.int 40))) (consI (op2 fAdd (op2 fMul (conI (.str [70, 57])) (conI (.int 100))) (conI (.str [66]))) nilI)))))))))) (tgN 3) (ifS (tNot (tTruth (opN f_law_right (consI (varI 3) nilI)))) (retS (conI (.bl false))) passS))
def st7 : Sv := (ifS (tB (op2 fNe (compI (itI (opN fTup (consI (conI .non) (consI (conI (.int 5)) (consI (opN fLst (consI (conI (.str [65])) nilI)) (consI (opN fTup (consI (conI (.str [65])) nilI)) (consI (conI (.bl true)) nilI))))))) [9] (tgN 9) (tB (op2 (fIsB true) (opN f_is_formula (consI (varI 9) nilI)) (conI (.bl false)))) (varI 9)) (opN fLst nilI))) (retS (conI (.bl false))) passS)
def st8 : Sv := (asgS (tgN 8) (compI (itI (opN fTup (consI (conI .non) (consI (conI (.int 5)) (consI (opN fLst (consI (conI (.str [65])) nilI)) (consI (conI (.bl true)) (consI (op2 fMul (conI (.str [65])) (conI (.int 20001))) nilI))))))) [9] (tgN 9) tYes (tellI 5 1 cs_law_error ["InvalidText"] (opN f_bad_at (consI (varI 9) nilI)))))
def st9 : Sv := (retS (andV (op2 fEq (varI 8) (op2 fMul (opN fLst (consI (conI (.str [116, 101, 120, 116, 32, 101, 114, 114, 111, 114])) nilI)) (conI (.int 5)))) (andV (op1 fIsN (opN f_bad_at (consI (op2 fMul (conI (.str [65])) (conI (.int 20000))) nilI))) (op2 fEq (opN f_bad_at (consI (op2 fAdd (op2 fMul (conI (.str [65])) (conI (.int 19999))) (conI (.str [40]))) nilI)) (conI (.int 20000))))))
theorem law_parts : cb_law = (seqS st0 (seqS st1 (seqS st2 (seqS st3 (seqS st4 (seqS st5 (seqS st6 (seqS st7 (seqS st8 st9))))))))) := rfl
theorem seq_next {a b : Sv} {ρ ρ1 : PEnv} {μ μ1 : Mem} (h : a ρ μ = .next ρ1 μ1) : seqS a b ρ μ = b ρ1 μ1 := by
  rw [seqS_, h]
def bodyI : Sv := (seqS (ifS (tNot (tTruth (opN f_law_right (consI (varI 3) nilI)))) (retS (conI (.bl false))) passS)
  (asgS (tgN 3) (opN f_law_near (consI (varI 1) (consI (varI 3) nilI)))))
def bodyO : Sv := (seqS (asgS (tgN 3) (opN f_law_short (consI (varI 1) (consI (opN f_law_roll (consI (varI 1) (consI (conI (.int 4)) nilI))) nilI))))
  (forS (it1 (conI (.int 6))) (tgN 4) bodyI))
theorem loop_in : ∀ (xs : List PV) (t : List Nat) (sc tn ag : Option PV) (a b : Int), OkC a b → (t.length + 1) * 2 ^ xs.length ≤ 20001 →
    ∃ t' ag' a' b', forL (tgN 4) bodyI xs [sc, some (.mref 0), tn, some (.str t), ag, none, none, none, none, none] (cupM a b) = .next [sc, some (.mref 0), tn, some (.str t'), ag', none, none, none, none, none] (cupM a' b') ∧ OkC a' b'
  | [], t, sc, tn, ag, a, b, h, hl => ⟨t, ag, a, b, rfl, h⟩
  | x :: xs, t, sc, tn, ag, a, b, h, hl => by
    have e : (t.length + 1) * 2 ^ (x :: xs).length = (2 * (t.length + 1)) * 2 ^ xs.length := by
      rw [List.length_cons, Nat.pow_succ, Nat.mul_comm (2 ^ xs.length) 2, ← Nat.mul_assoc, Nat.mul_comm (t.length + 1) 2]
    rw [e] at hl
    have p1 : 1 ≤ 2 ^ xs.length := Nat.one_le_two_pow
    have hl2 : 2 * (t.length + 1) ≤ 20001 := Nat.le_trans (Nat.le_mul_of_pos_right _ p1) hl
    obtain ⟨s, a1, b1, n1, n2, n3⟩ := near_ok (t := t) h (by omega)
    have r := right_ok (s := t) (cup_closed a b) (by omega)
    have hm : (s.length + 1) * 2 ^ xs.length ≤ (2 * (t.length + 1)) * 2 ^ xs.length := Nat.mul_le_mul_right _ (by omega)
    obtain ⟨t', ag', a', b', g1, g2⟩ := loop_in xs s sc tn (some x) a1 b1 n2 (by omega)
    exact ⟨t', ag', a', b', by simp [bodyI, r, n1]; exact g1, g2⟩
theorem loop_out : ∀ (xs : List PV) (sc tn tx ag : Option PV) (a b : Int), OkC a b →
    ∃ tn' tx' ag' a' b', forL (tgN 2) bodyO xs [sc, some (.mref 0), tn, tx, ag, none, none, none, none, none] (cupM a b) = .next [sc, some (.mref 0), tn', tx', ag', none, none, none, none, none] (cupM a' b') ∧ OkC a' b'
  | [], sc, tn, tx, ag, a, b, h => ⟨tn, tx, ag, a, b, rfl, h⟩
  | x :: xs, sc, tn, tx, ag, a, b, h => by
    obtain ⟨r, a1, b1, r1, r2, r3, r4⟩ := roll' (m := 4) h (by omega) (by omega)
    obtain ⟨s, a2, b2, s1, s2, s3⟩ := short_ok r4 r2 r3
    have hl : (s.length + 1) * 2 ^ (rangeL 0 6).length ≤ 20001 := by
      have : (rangeL 0 6).length = 6 := by simp [rangeL]
      rw [this]
      omega
    obtain ⟨t', ag', a3, b3, g1, g2⟩ := loop_in (rangeL 0 6) s sc (some x) ag a2 b2 s2 hl
    obtain ⟨tn', tx', ag2, a4, b4, k1, k2⟩ := loop_out xs sc (some x) (some (.str t')) ag' a3 b3 g2
    exact ⟨tn', tx', ag2, a4, b4, by simp [bodyO, r1, s1, g1]; exact k1, k2⟩
/-! ### the written texts -/
def rowsL : List (List Nat × Option Nat) := [([65, 50, 40, 66, 41], none), ([65, 50, 40, 66], some 4), ([65, 49], some 2), ([65, 48, 49], some 1), ([40, 41], some 1), ([], some 0), ([65, 49, 48, 48], some 3), ([65, 66, 41], some 2), ([65, 71], some 1), ([65, 49, 66], some 2), ([50, 65], some 0), ([40, 50, 65, 41], some 1)]
def rowsM : List (List Nat × Option Nat) := [([65, 41, 50], some 1), ([40, 40, 65, 41, 50, 41, 57, 57], none), ([65, 32, 50], some 1), ([40, 65, 41, 41], some 3), ([65, 49, 50, 66, 51], none), ([65, 50, 10], some 2), ([40], some 1), ([65, 48], some 1), ([40, 65, 41, 40], some 4)]
def rowV (p : List Nat × Option Nat) : PV := .tup [.str p.1, dueV p.2]
theorem rows_due : ∀ p ∈ rowsL ++ rowsM, p.1.length ≤ 20000 ∧ due p.1 = p.2 := by decide +kernel
def bodyW : Sv := (ifS (tOr (tB (op2 fNe (opN f_law_due (consI (varI 3) nilI)) (varI 6))) (tNot (tTruth (opN f_law_right (consI (varI 3) nilI))))) (retS (conI (.bl false))) passS)
theorem due_ne (d : Option Nat) (μ : Mem) : fNe (dueV d) (dueV d) μ = .ok (.bl false) μ := by
  cases d <;> simp [dueV]
theorem loop_rows : ∀ (ps : List (List Nat × Option Nat)) (sc tn tx ag rw_ du : Option PV) (a b : Int), (∀ p ∈ ps, p.1.length ≤ 20000 ∧ due p.1 = p.2) →
    ∃ tx' du', forL (tgT (tgsCons (tgN 3) (tgsCons (tgN 6) tgsNil))) bodyW (ps.map rowV) [sc, some (.mref 0), tn, tx, ag, rw_, du, none, none, none] (cupM a b) = .next [sc, some (.mref 0), tn, tx', ag, rw_, du', none, none, none] (cupM a b)
  | [], sc, tn, tx, ag, rw_, du, a, b, _ => ⟨tx, du, rfl⟩
  | (t, d) :: ps, sc, tn, tx, ag, rw_, du, a, b, h => by
    obtain ⟨h1, h2⟩ := h (t, d) List.mem_cons_self
    have h1 : t.length ≤ 20000 := h1
    have h2 : due t = d := h2
    have r := right_ok (s := t) (cup_closed a b) h1
    have q := due_ok (s := t) (μ := cupM a b) (by omega)
    rw [h2] at q
    obtain ⟨tx', du', g⟩ := loop_rows ps sc tn (some (.str t)) ag rw_ (some (dueV d)) a b fun p hp => h p (List.mem_cons_of_mem _ hp)
    exact ⟨tx', du', by simp [rowV, bodyW, q, r, due_ne, -fNe_]; exact g⟩
def bodyT : Sv := (ifS (tNot (tTruth (opN f_law_right (consI (varI 3) nilI)))) (retS (conI (.bl false))) passS)
theorem loop_texts : ∀ (ts : List (List Nat)) (sc tn tx ag rw_ du dp : Option PV) (a b : Int), (∀ t ∈ ts, t.length ≤ 20000) →
    ∃ tx', forL (tgN 3) bodyT (ts.map PV.str) [sc, some (.mref 0), tn, tx, ag, rw_, du, dp, none, none] (cupM a b) = .next [sc, some (.mref 0), tn, tx', ag, rw_, du, dp, none, none] (cupM a b)
  | [], sc, tn, tx, ag, rw_, du, dp, a, b, _ => ⟨tx, rfl⟩
  | t :: ts, sc, tn, tx, ag, rw_, du, dp, a, b, h => by
    have r := right_ok (s := t) (cup_closed a b) (h t List.mem_cons_self)
    obtain ⟨tx', g⟩ := loop_texts ts sc tn (some (.str t)) ag rw_ du dp a b fun p hp => h p (List.mem_cons_of_mem _ hp)
    exact ⟨tx', by simp [bodyT, r]; exact g⟩
/-! ### long texts -/
def manyS (n : Nat) (s : List Nat) : List Nat := (List.replicate n s).flatten
theorem many_len (n : Nat) (s : List Nat) : (manyS n s).length = n * s.length := by
  induction n with
  | zero => simp [manyS]
  | succ n ih =>
    have e : manyS (n + 1) s = s ++ manyS n s := rfl
    rw [e, List.length_append, ih, Nat.succ_mul, Nat.add_comm]
theorem mul_many {s : List Nat} {n : Nat} {i : Int} {μ : Mem} (hi : i = n) (h : n * s.length ≤ 16000000) (hn : n ≤ 16000000) : fMul (.str s) (.int i) μ = .ok (.str (manyS n s)) μ := by
  subst hi
  rw [fMul_s]
  have e : ((n : Int)).toNat = n := by simp
  rw [e, if_pos ⟨by omega, by omega, by rw [Nat.mul_comm]; exact h⟩]
  rfl
theorem go_A : ∀ (n : Nat) (σ : Sta) (r : List Nat) (k : Nat), σ.figs = [] → go σ (manyS n [65] ++ r) k = go (if n = 0 then σ else ⟨σ.deep, [], true⟩) r (k + n)
  | 0, σ, r, k, h => rfl
  | n + 1, σ, r, k, h => by
    have e : manyS (n + 1) [65] ++ r = 65 :: (manyS n [65] ++ r) := rfl
    have st : stepS σ 65 = some ⟨σ.deep, [], true⟩ := by
      obtain ⟨d, f, b⟩ := σ
      have h : f = [] := h
      subst h
      rfl
    rw [e]
    show (match stepS σ 65 with
      | none => (Sum.inl k : Nat ⊕ Sta)
      | some σ' => go σ' (manyS n [65] ++ r) (k + 1)) = _
    rw [st]
    show go ⟨σ.deep, [], true⟩ (manyS n [65] ++ r) (k + 1) = _
    rw [go_A n ⟨σ.deep, [], true⟩ r (k + 1) rfl, if_neg (Nat.succ_ne_zero n), Nat.add_right_comm]
    by_cases z : n = 0
    · rw [if_pos z]; rfl
    · rw [if_neg z]; rfl
theorem due_A (n : Nat) (h : n ≠ 0) : due (manyS n [65]) = none := by
  have e := go_A n ⟨0, [], false⟩ [] 0 rfl
  rw [List.append_nil, if_neg h] at e
  unfold due
  rw [e]
  rfl
theorem due_AB (n : Nat) (h : n ≠ 0) : due (manyS n [65] ++ [40]) = some (n + 1) := by
  have e := go_A n ⟨0, [], false⟩ [40] 0 rfl
  rw [if_neg h] at e
  unfold due
  rw [e]
  have st : go ⟨0, [], true⟩ [40] (0 + n) = .inr ⟨1, [], false⟩ := rfl
  rw [st]
  show (if whole ⟨1, [], false⟩ = true then none else some (manyS n [65] ++ [40]).length) = some (n + 1)
  rw [if_neg (by decide), List.length_append, many_len]
  simp

/-! ### the rows -/
theorem s1_ok {a b : Int} (sc : Option PV) (h : OkC a b) : ∃ tn tx ag a' b', st1 [sc, some (.mref 0), none, none, none, none, none, none, none, none] (cupM a b) = .next [sc, some (.mref 0), tn, tx, ag, none, none, none, none, none] (cupM a' b') ∧ OkC a' b' := by
  obtain ⟨tn, tx, ag, a', b', g1, g2⟩ := loop_out (rangeL 0 6) sc none none none a b h
  have e : st1 = forS (it1 (conI (.int 6))) (tgN 2) bodyO := rfl
  exact ⟨tn, tx, ag, a', b', by rw [e]; simp [g1], g2⟩
theorem s2_ok {a b : Int} (sc tn tx ag : Option PV) : st2 [sc, some (.mref 0), tn, tx, ag, none, none, none, none, none] (cupM a b) = .next [sc, some (.mref 0), tn, tx, ag, some (.lst (rowsL.map rowV)), none, none, none, none] (cupM a b) := by
  simp [st2, rowsL, rowV, dueV]
theorem s3_ok {a b : Int} (sc tn tx ag : Option PV) : st3 [sc, some (.mref 0), tn, tx, ag, some (.lst (rowsL.map rowV)), none, none, none, none] (cupM a b) = .next [sc, some (.mref 0), tn, tx, ag, some (.lst ((rowsL ++ rowsM).map rowV)), none, none, none, none] (cupM a b) := by
  simp [st3, rowsL, rowsM, rowV, dueV]
theorem s4_ok {a b : Int} (sc tn tx ag : Option PV) : ∃ tx' du, st4 [sc, some (.mref 0), tn, tx, ag, some (.lst ((rowsL ++ rowsM).map rowV)), none, none, none, none] (cupM a b) = .next [sc, some (.mref 0), tn, tx', ag, some (.lst ((rowsL ++ rowsM).map rowV)), du, none, none, none] (cupM a b) := by
  obtain ⟨tx', du, g⟩ := loop_rows (rowsL ++ rowsM) sc tn tx ag (some (.lst ((rowsL ++ rowsM).map rowV))) none a b rows_due
  have e : st4 = forS (itI (varI 5)) (tgT (tgsCons (tgN 3) (tgsCons (tgN 6) tgsNil))) bodyW := rfl
  generalize (rowsL ++ rowsM).map rowV = rs at g ⊢
  exact ⟨tx', du, by rw [e]; simp [g]⟩
def deepT : List Nat := manyS 20 [40] ++ [65] ++ manyS 20 [41, 50]
theorem deep_len : deepT.length = 61 := by decide
theorem s5_ok {a b : Int} (sc tn tx ag rw_ du : Option PV) : st5 [sc, some (.mref 0), tn, tx, ag, rw_, du, none, none, none] (cupM a b) = .next [sc, some (.mref 0), tn, tx, ag, rw_, du, some (.str deepT), none, none] (cupM a b) := by
  have m1 := mul_many (s := [40]) (n := 20) (i := 20) (μ := cupM a b) rfl (by decide) (by decide)
  have m2 := mul_many (s := [41, 50]) (n := 20) (i := 20) (μ := cupM a b) rfl (by decide) (by decide)
  have l1 : (manyS 20 [40]).length = 20 := by decide
  have l2 : (manyS 20 [41, 50]).length = 40 := by decide
  have e : manyS 20 [40] ++ [65] ++ manyS 20 [41, 50] = deepT := rfl
  have e' : manyS 20 [40] ++ (65 :: manyS 20 [41, 50]) = deepT := rfl
  generalize manyS 20 [40] = t1 at m1 l1 e e'
  generalize manyS 20 [41, 50] = t2 at m2 l2 e e'
  simp [st5, m1, m2, l1, l2, e, e', -fMul_s]
theorem s6_ok {a b : Int} (sc tn tx ag rw_ du : Option PV) : ∃ tx', st6 [sc, some (.mref 0), tn, tx, ag, rw_, du, some (.str deepT), none, none] (cupM a b) = .next [sc, some (.mref 0), tn, tx', ag, rw_, du, some (.str deepT), none, none] (cupM a b) := by
  have e : st6 = forS (itI (opN fTup (consI (varI 7) (consI (op2 fAdd (op2 fAdd (conI (.str [40])) (varI 7)) (conI (.str [41]))) (consI (op2 fMul (conI (.str [40])) (conI (.int 21))) (consI (op2 fMul (conI (.str [65])) (conI (.int 200))) (consI (op2 fMul (conI (.str [65])) (conI (.int 201))) (consI (op2 fMul (conI (.str [65, 66])) (conI (.int 100))) (consI (op2 fMul (conI (.str [40, 65, 41, 57, 57])) (conI (.int 40))) (consI (op2 fAdd (op2 fMul (conI (.str [70, 57])) (conI (.int 100))) (conI (.str [66]))) nilI)))))))))) (tgN 3) bodyT := rfl
  have m1 := mul_many (s := [40]) (n := 21) (i := 21) (μ := cupM a b) rfl (by decide) (by decide)
  have m2 := mul_many (s := [65]) (n := 200) (i := 200) (μ := cupM a b) rfl (by decide) (by decide)
  have m3 := mul_many (s := [65]) (n := 201) (i := 201) (μ := cupM a b) rfl (by decide) (by decide)
  have m4 := mul_many (s := [65, 66]) (n := 100) (i := 100) (μ := cupM a b) rfl (by decide) (by decide)
  have m5 := mul_many (s := [40, 65, 41, 57, 57]) (n := 40) (i := 40) (μ := cupM a b) rfl (by decide) (by decide)
  have m6 := mul_many (s := [70, 57]) (n := 100) (i := 100) (μ := cupM a b) rfl (by decide) (by decide)
  have l0 := deep_len
  have l1 := many_len 21 [40]
  have l2 := many_len 200 [65]
  have l3 := many_len 201 [65]
  have l4 := many_len 100 [65, 66]
  have l5 := many_len 40 [40, 65, 41, 57, 57]
  have l6 := many_len 100 [70, 57]
  generalize deepT = t0 at l0 ⊢
  generalize manyS 21 [40] = t1 at m1 l1
  generalize manyS 200 [65] = t2 at m2 l2
  generalize manyS 201 [65] = t3 at m3 l3
  generalize manyS 100 [65, 66] = t4 at m4 l4
  generalize manyS 40 [40, 65, 41, 57, 57] = t5 at m5 l5
  generalize manyS 100 [70, 57] = t6 at m6 l6
  obtain ⟨tx', g⟩ := loop_texts [t0, [40] ++ t0 ++ [41], t1, t2, t3, t4, t5, t6 ++ [66]] sc tn tx ag rw_ du (some (.str t0)) a b (by
    intro t ht
    simp only [List.length_cons, List.length_nil] at l1 l2 l3 l4 l5 l6
    simp only [List.mem_cons, List.not_mem_nil, or_false] at ht
    rcases ht with h | h | h | h | h | h | h | h <;> subst h <;> first | omega | (simp; omega))
  simp only [List.length_cons, List.length_nil] at l1 l2 l3 l4 l5 l6
  refine ⟨tx', ?_⟩
  rw [e]
  have q1 : t0.length + 1 ≤ 16000000 := by omega
  have q2 : t0.length + 1 + 1 ≤ 16000000 := by omega
  have q3 : t6.length + 1 ≤ 16000000 := by omega
  have q4 : 1 + t0.length ≤ 16000000 := by omega
  have q5 : 1 + t0.length + 1 ≤ 16000000 := by omega
  have g : forL (tgN 3) bodyT [.str t0, .str (40 :: (t0 ++ [41])), .str t1, .str t2, .str t3, .str t4, .str t5, .str (t6 ++ [66])] [sc, some (.mref 0), tn, tx, ag, rw_, du, some (.str t0), none, none] (cupM a b) = .next [sc, some (.mref 0), tn, tx', ag, rw_, du, some (.str t0), none, none] (cupM a b) := g
  simp [m1, m2, m3, m4, m5, m6, q1, q2, q3, q4, q5, g, -fMul_s, -forL_cons]
theorem is_non {μ : Mem} : f_is_formula [.non] μ = .ok (.bl false) μ := by simp [f_is_formula, cb_is_formula, f_fits, cb_fits]
theorem is_int {μ : Mem} {i : Int} : f_is_formula [.int i] μ = .ok (.bl false) μ := by simp [f_is_formula, cb_is_formula, f_fits, cb_fits]
theorem is_bl {μ : Mem} {i : Bool} : f_is_formula [.bl i] μ = .ok (.bl false) μ := by simp [f_is_formula, cb_is_formula, f_fits, cb_fits]
theorem is_tup {μ : Mem} {i : List PV} : f_is_formula [.tup i] μ = .ok (.bl false) μ := by simp [f_is_formula, cb_is_formula, f_fits, cb_fits]
theorem is_lst {μ : Mem} {i : List PV} : f_is_formula [.lst i] μ = .ok (.bl false) μ := by simp [f_is_formula, cb_is_formula, f_fits, cb_fits]
theorem fIsB_ {μ : Mem} : fIsB true (.bl false) (.bl false) μ = .ok (.bl false) μ := rfl
theorem peq_nil : peq (.lst []) (.lst []) = true := by simp [peq, peqs]
theorem s7_ok {a b : Int} (sc tn tx ag rw_ du dp : Option PV) : st7 [sc, some (.mref 0), tn, tx, ag, rw_, du, dp, none, none] (cupM a b) = .next [sc, some (.mref 0), tn, tx, ag, rw_, du, dp, none, none] (cupM a b) := by
  simp [st7, is_non, is_int, is_bl, is_tup, is_lst, fIsB_, isData_nil, peq_nil]
theorem bad_non {μ : Mem} : f_bad_at [.non] μ = .exc ⟨"InvalidText", []⟩ μ := by simp [f_bad_at, cb_bad_at]
theorem bad_int {μ : Mem} {i : Int} : f_bad_at [.int i] μ = .exc ⟨"InvalidText", []⟩ μ := by simp [f_bad_at, cb_bad_at]
theorem bad_bl {μ : Mem} {i : Bool} : f_bad_at [.bl i] μ = .exc ⟨"InvalidText", []⟩ μ := by simp [f_bad_at, cb_bad_at]
theorem bad_lst {μ : Mem} {i : List PV} : f_bad_at [.lst i] μ = .exc ⟨"InvalidText", []⟩ μ := by simp [f_bad_at, cb_bad_at]
def wordT : List Nat := [116, 101, 120, 116, 32, 101, 114, 114, 111, 114]
theorem told_ok : told 5 1 cs_law_error "InvalidText" = some wordT := by decide +kernel
theorem tell_ok {a b : Int} {ρ : PEnv} {v : PV} (h : ρ[9]? = some (some v)) (hb : f_bad_at [v] (cupM a b) = .exc ⟨"InvalidText", []⟩ (cupM a b)) :
    tellI 5 1 cs_law_error ["InvalidText"] (opN f_bad_at (consI (varI 9) nilI)) ρ (cupM a b) = .ok (.str wordT) (cupM a b) := by
  have e : opN f_bad_at (consI (varI 9) nilI) ρ (cupM a b) = .exc ⟨"InvalidText", []⟩ (cupM a b) := by simp [h, hb]
  unfold tellI
  rw [e]
  simp [told_ok]
theorem s8_ok {a b : Int} (sc tn tx ag rw_ du dp : Option PV) : st8 [sc, some (.mref 0), tn, tx, ag, rw_, du, dp, none, none] (cupM a b) = .next [sc, some (.mref 0), tn, tx, ag, rw_, du, dp, some (.lst [.str wordT, .str wordT, .str wordT, .str wordT, .str wordT]), none] (cupM a b) := by
  have m1 := mul_many (s := [65]) (n := 20001) (i := 20001) (μ := cupM a b) rfl (by decide) (by decide)
  have l1 := many_len 20001 [65]
  generalize manyS 20001 [65] = t1 at m1 l1
  simp only [List.length_cons, List.length_nil] at l1
  have b1 := bad_long (s := t1) (μ := cupM a b) (by omega) (by omega)
  have T : ∀ (r9 : Option PV) {v : PV}, f_bad_at [v] (cupM a b) = .exc ⟨"InvalidText", []⟩ (cupM a b) → tellI 5 1 cs_law_error ["InvalidText"] (opN f_bad_at (consI (varI 9) nilI)) [sc, some (.mref 0), tn, tx, ag, rw_, du, dp, none, some v] (cupM a b) = .ok (.str wordT) (cupM a b) := fun _ {v} h => tell_ok rfl h
  have T1 := T none bad_non
  have T2 := T none (bad_int (i := 5))
  have T3 := T none (bad_lst (i := [.str [65]]))
  have T4 := T none (bad_bl (i := true))
  have T5 := T none b1
  simp [st8, m1, T1, T2, T3, T4, T5, -fMul_s]
theorem x1 : (20000 : Nat) ≠ 0 := by decide
theorem y1 {a b : Int} {ρ : PEnv} {t1 : List Nat} (m1 : fMul (.str [65]) (.int 20000) (cupM a b) = .ok (.str t1) (cupM a b)) (l1 : t1.length = 20000) (d1 : due t1 = none) : op1 fIsN (opN f_bad_at (consI (op2 fMul (conI (.str [65])) (conI (.int 20000))) nilI)) ρ (cupM a b) = .ok (.bl true) (cupM a b) := by
  have b1 := bad_ok (s := t1) (cup_closed a b) (by omega)
  rw [d1] at b1
  simp [m1, b1, dueV, -fMul_s]
theorem y2 {a b : Int} {ρ : PEnv} {t2 : List Nat} (m2 : fMul (.str [65]) (.int 19999) (cupM a b) = .ok (.str t2) (cupM a b)) (l2 : t2.length = 19999) (d2 : due (t2 ++ [40]) = some 20000) : op2 fEq (opN f_bad_at (consI (op2 fAdd (op2 fMul (conI (.str [65])) (conI (.int 19999))) (conI (.str [40]))) nilI)) (conI (.int 20000)) ρ (cupM a b) = .ok (.bl true) (cupM a b) := by
  have b2 := bad_ok (s := t2 ++ [40]) (cup_closed a b) (by simp; omega)
  rw [d2] at b2
  have q : t2.length + 1 ≤ 16000000 := by omega
  simp [m2, b2, q, dueV, -fMul_s]
/-- such texts there are -/
theorem ex_A (n : Nat) (h : n ≠ 0) (hn : n ≤ 16000000) : ∃ t : List Nat, t.length = n ∧ due t = none ∧ due (t ++ [40]) = some (n + 1) ∧ ∀ {i : Int} {μ : Mem}, i = n → fMul (.str [65]) (.int i) μ = .ok (.str t) μ :=
  ⟨manyS n [65], by rw [many_len]; simp, due_A n h, due_AB n h, fun hi => mul_many hi (by simpa using hn) hn⟩
theorem s9_first {a b : Int} (ρ : PEnv) : op1 fIsN (opN f_bad_at (consI (op2 fMul (conI (.str [65])) (conI (.int 20000))) nilI)) ρ (cupM a b) = .ok (.bl true) (cupM a b) := by
  obtain ⟨t, h1, h2, _, h4⟩ := ex_A 20000 x1 (by omega)
  exact y1 (h4 rfl) h1 h2
theorem s9_second {a b : Int} (ρ : PEnv) : op2 fEq (opN f_bad_at (consI (op2 fAdd (op2 fMul (conI (.str [65])) (conI (.int 19999))) (conI (.str [40]))) nilI)) (conI (.int 20000)) ρ (cupM a b) = .ok (.bl true) (cupM a b) := by
  obtain ⟨t, h1, _, h3, h4⟩ := ex_A 19999 (by omega) (by omega)
  exact y2 (h4 rfl) h1 h3
theorem s9_ok {a b : Int} (sc tn tx ag rw_ du dp : Option PV) : st9 [sc, some (.mref 0), tn, tx, ag, rw_, du, dp, some (.lst [.str wordT, .str wordT, .str wordT, .str wordT, .str wordT]), none] (cupM a b) = .ret (.bl true) (cupM a b) := by
  have w1 : isData (.lst [.str wordT, .str wordT, .str wordT, .str wordT, .str wordT]) = true := by decide
  have w2 : peq (.lst [.str wordT, .str wordT, .str wordT, .str wordT, .str wordT]) (.lst [.str wordT, .str wordT, .str wordT, .str wordT, .str wordT]) = true := by decide
  have w3 : op2 fMul (opN fLst (consI (conI (.str [116, 101, 120, 116, 32, 101, 114, 114, 111, 114])) nilI)) (conI (.int 5)) [sc, some (.mref 0), tn, tx, ag, rw_, du, dp, some (.lst [.str wordT, .str wordT, .str wordT, .str wordT, .str wordT]), none] (cupM a b) = .ok (.lst [.str wordT, .str wordT, .str wordT, .str wordT, .str wordT]) (cupM a b) := rfl
  have w4 : op2 fEq (varI 8) (op2 fMul (opN fLst (consI (conI (.str [116, 101, 120, 116, 32, 101, 114, 114, 111, 114])) nilI)) (conI (.int 5))) [sc, some (.mref 0), tn, tx, ag, rw_, du, dp, some (.lst [.str wordT, .str wordT, .str wordT, .str wordT, .str wordT]), none] (cupM a b) = .ok (.bl true) (cupM a b) := by
    rw [op2_, show varI 8 [sc, some (.mref 0), tn, tx, ag, rw_, du, dp, some (.lst [.str wordT, .str wordT, .str wordT, .str wordT, .str wordT]), none] (cupM a b) = .ok (.lst [.str wordT, .str wordT, .str wordT, .str wordT, .str wordT]) (cupM a b) from rfl, bind_ok, w3, bind_ok, fEq_, deref_l, w1, w2]
    rfl
  have f1 := s9_first (a := a) (b := b)
  have f2 := s9_second (a := a) (b := b)
  have e1 : op1 fIsN (opN f_bad_at (consI (op2 fMul (conI (.str [65])) (conI (.int 20000))) nilI)) [sc, some (.mref 0), tn, tx, ag, rw_, du, dp, some (.lst [.str wordT, .str wordT, .str wordT, .str wordT, .str wordT]), none] (cupM a b) = .ok (.bl true) (cupM a b) := f1 _
  have e2 : op2 fEq (opN f_bad_at (consI (op2 fAdd (op2 fMul (conI (.str [65])) (conI (.int 19999))) (conI (.str [40]))) nilI)) (conI (.int 20000)) [sc, some (.mref 0), tn, tx, ag, rw_, du, dp, some (.lst [.str wordT, .str wordT, .str wordT, .str wordT, .str wordT]), none] (cupM a b) = .ok (.bl true) (cupM a b) := f2 _
  unfold st9
  rw [retS_, andV_, w4, bind_ok]
  show liftS (andV _ _ _ _) _ _ = _
  rw [andV_, e1, bind_ok]
  show liftS (op2 fEq _ _ _ _) _ _ = _
  rw [e2]
  rfl
theorem law_ok : PyS.Always f_law := by
  intro ns hl hb
  obtain ⟨a, b, c1, c2⟩ := cup_ok ns hl
  have h : OkC a b := c2.2
  have c1 : f_law_cup [.scr (ns.map PV.int)] [] = .ok (.mref 0) (cupM a b) := c1
  have s0 : st0 [some (.scr (ns.map PV.int)), none, none, none, none, none, none, none, none, none] [] = .next [some (.scr (ns.map PV.int)), some (.mref 0), none, none, none, none, none, none, none, none] (cupM a b) := by
    simp [st0, c1]
  obtain ⟨tn, tx, ag, a', b', g1, g2⟩ := s1_ok (some (.scr (ns.map PV.int))) h
  obtain ⟨tx2, du, g4⟩ := s4_ok (a := a') (b := b') (some (.scr (ns.map PV.int))) tn tx ag
  obtain ⟨tx3, g6⟩ := s6_ok (a := a') (b := b') (some (.scr (ns.map PV.int))) tn tx2 ag (some (.lst ((rowsL ++ rowsM).map rowV))) du
  have all : cb_law [some (.scr (ns.map PV.int)), none, none, none, none, none, none, none, none, none] [] = .ret (.bl true) (cupM a' b') := by
    rw [law_parts, seq_next s0, seq_next g1, seq_next (s2_ok _ _ _ _), seq_next (s3_ok _ _ _ _), seq_next g4, seq_next (s5_ok _ _ _ _ _ _), seq_next g6, seq_next (s7_ok _ _ _ _ _ _ _), seq_next (s8_ok _ _ _ _ _ _ _)]
    exact s9_ok _ _ _ _ _ _ _
  have lv : leave 0 (.bl true) (cupM a' b') = .ok (.bl true) [] := by
    unfold leave
    rw [if_neg (by simp)]
    rfl
  refine ⟨[], ?_⟩
  unfold f_law
  simp only [fnI_]
  show (match cb_law [some (.scr (ns.map PV.int)), none, none, none, none, none, none, none, none, none] [] with
    | .ret v μ1 => leave 0 v μ1
    | .next _ μ1 => leave 0 .non μ1
    | .exc x _ μ1 => .exc x μ1
    | _ => .bad) = _
  rw [all]
  exact lv
end K66

theorem PySem.Challenge.cw_benchbound_k66_whole_texts_of_formulas_holds : PySem.Challenge.rw_benchbound_k66_whole_texts_of_formulas.Holds :=
  K66.holds_of K66.law_ok
