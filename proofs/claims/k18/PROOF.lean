import PyProof.Rows.All
import PySem.Str
import PySem.PyData
import Wide.All
import OpenK.AllK
import Wide.FinOn
import HandS.Base
import HandS.Call
import HandS.List
import HandS.TupAny
import HandS.TupMul
import HandS.Words
import HandS.Comp
import HandS.Ends
import HandS.Dict
import HandS.Iter
import HandS.Walk
import HandS.Text
import HandS.Exc
import HandS.ExcOwn
import HandS.TryOnly
import HandS.TryMany
import HandS.WordsList
import HandS.WordsExc
import HandS.IsInst
import HandS.Wide
import HandS.Zip
import HandS.Style
import HandS.Deep
import HandS.HeadHook2
import HandS.TupLe
import HandS.DictTup
import PyProof.StrBlock2
import HandS.Conv
import KE.KTupSum
import HandS.SortOrd
import HandS.SortInts
import HandS.TupSets
import HandS.NamedTupSort
import KE.GoesEnum
import HandS.SetFor
import HandS.Strs
import KE.KDictPairs
import KE.KStateDown
import HandS.Defaults
import HandS.Head0
import HandS.Head1
import HandS.Head2
import HandS.HeadEnd
import HandS.HeadHook1
import PySem.Challenge.RW_drawnsamples_k18_whole_linear
import Lean
section
set_option Elab.async false
set_option linter.all false
namespace PV
open PySem

/-! ### values as data -/
inductive D where
  | non | bl (b : Bool) | int (i : Int) | str (x : Str) | tup (xs : List D) | lst (xs : List D) | st | scr (ns : List Int)
  deriving Inhabited

mutual
def D.py : D → PyData
  | .non => .none
  | .bl b => .bool b
  | .int i => .int i
  | .str x => .str x
  | .tup xs => .tuple (D.pys xs)
  | .lst xs => .list (D.pys xs)
  | .st => .dict []
  | .scr _ => .dict []
def D.pys : List D → List PyData
  | [] => []
  | x :: xs => D.py x :: D.pys xs
end

mutual
/-- Python's == on data -/
def D.eqv : D → D → Bool
  | .non, .non => true
  | .bl a, .bl b => a == b
  | .bl a, .int j => (if a then 1 else 0) == j
  | .int i, .bl b => i == (if b then 1 else 0)
  | .int i, .int j => i == j
  | .str x, .str y => x == y
  | .tup xs, .tup ys => D.eqvL xs ys
  | .lst xs, .lst ys => D.eqvL xs ys
  | _, _ => false
def D.eqvL : List D → List D → Bool
  | [], [] => true
  | x :: xs, y :: ys => D.eqv x y && D.eqvL xs ys
  | _, _ => false
end
mutual
/-- may be compared by ==, at most so deep -/
def D.okq : Nat → D → Bool
  | _, .non => true
  | _, .bl _ => true
  | _, .int _ => true
  | _, .str x => x.cps.all fun c => decide (c < 0x110000)
  | 0, _ => false
  | n + 1, .tup xs => D.okqL n xs
  | n + 1, .lst xs => D.okqL n xs
  | _, .st => false
  | _, .scr _ => false
def D.okqL : Nat → List D → Bool
  | _, [] => true
  | n, x :: xs => D.okq n x && D.okqL n xs
end
mutual
/-- Python's < -/
def D.lt : D → D → Option Bool
  | .int a, .int b => some (decide (a < b))
  | .str a, .str b => some (decide (a.cps.toList < b.cps.toList))
  | .tup xs, .tup ys => D.ltL xs ys
  | _, _ => none
def D.ltL : List D → List D → Option Bool
  | [], [] => some false
  | [], _ :: _ => some true
  | _ :: _, [] => some false
  | x :: xs, y :: ys => match D.lt x y, D.ltL xs ys with
    | some b, some r => some (if D.eqv x y then r else b)
    | _, _ => none
end

/-! ### the language -/
inductive O2 where | add | sub | mul | fdiv | mod
inductive OC where | eq | ne | lt | le | gt | ge | is | isn | in_ | nin
inductive TY where | int | bool | tuple | str | list
inductive BF where | len | abs | sum | max | min | all | any | sorted | list | tuple | int | str | sortset | lenset
  deriving DecidableEq
mutual
inductive X where
  | v (i : Nat) | i (z : Int) | b (b : Bool) | n | s (s : Str)
  | tu (es : XL) | ls (es : XL)
  | bi (o : O2) (a b : X) | cm (o : OC) (a b : X) | ch (o1 o2 : OC) (a b c : X)
  | ng (a : X) | nt (a : X) | an (a b : X) | or (a b : X) | ie (c a b : X)
  | ca (f : Nat) (es : XL) | bc (f : BF) (a : X) | isi (t : TY) (a : X)
  | ix (a b : X) | sl (a : X) (lo hi : XO) | rv (a : X)
  | lc (e : X) (t : TG) (it : IT) (c : XO) | l2 (e : X) (t : TG) (it : IT) (t2 : TG) (it2 : IT)
  | ol (i : Nat) | oi (i : Nat) (a : X) | stl (i : Nat) | stx (i : Nat)
  | og (i : Nat) (a b : X) | ogx (i : Nat) (a : X) | oin (i : Nat) (a : X)
  | lir (t : Bool) (it : IT) | dg (a b c : X) | mn (a b : X) | jn (s : Str) (a : X)
inductive XL where | nil | cons (e : X) (es : XL)
inductive XO where | no | so (e : X)
inductive IT where | ex (e : X) | r1 (e : X) | r2 (a b : X) | en (e : X) | zp (a b : X) | dk (i : Nat)
inductive TG where | nm (i : Nat) | tp (ts : TGL)
inductive TGL where | nil | cons (t : TG) (ts : TGL)
end
mutual
inductive S where
  | as (t : TG) (e : X) | ao (i : Nat) (e : X) | p2 (i : Nat) (oi : Bool) (j : Nat) (oj : Bool) (a b : X) | p3 (i j l : Nat) (a b c : X) | ag (i : Nat) (e : X)
  | ap (i : Nat) (e : X) | pp (i j : Nat) (e : X) | si (i : Nat) (a e : X)
  | ex (e : X) | fi (c : X) (a b : SL) | fo (t : TG) (it : IT) (kl : List Nat) (body : SL) | wh (c : X) (kl : List Nat) (body : SL)
  | re (e : X) | ra (c : Str) | ty (e : X) (hs : List Str) | fz (is : List Nat) | sta (i : Nat) (e : X) | sts (i : Nat) (e : X)
  | dn (i : Nat) | ds (i : Nat) (a e : X) | lk (i : Nat) | pd (i j : Nat) (oj : Bool) (e : X) | da (i : Nat) (e : X)
inductive SL where | nil | cons (s : S) (ss : SL)
end

/-- a tuple of pairs whose first parts are tuples: such a one may be given to dict() -/
def isP : List D → Bool
  | .tup (.tup _ :: _) :: _ => true
  | _ => false
/-! ### states -/
inductive Slot where | no | val (d : D) | own (ds : List D) | dct (lk : Bool) (kvs : List (List Int × D))
abbrev Env := List Slot
abbrev KD := D → Nat → Prop
abbrev KX := Str → Nat → Prop
abbrev Cal := Nat → List D → Nat → KD → KX → Prop

def gt (env : Env) (i : Nat) : Slot := env.getD i .no
/-- a bool among the ints -/
def D.num : D → Option Int
  | .int i => some i
  | .bl b => some (if b then 1 else 0)
  | _ => none
def D.tru : D → Option Bool
  | .non => some false
  | .bl b => some b
  | .int i => some (i != 0)
  | .str x => if x.length ≤ 1000000 then some (x.length != 0) else none
  | .tup xs => some (!xs.isEmpty)
  | .lst xs => some (!xs.isEmpty)
  | .st => none
  | .scr ns => some (!ns.isEmpty)
/-- the truth, with the length of the draws' list -/
def D.truN : D → Nat → Option Bool
  | .st, n => some (n != 0)
  | d, _ => D.tru d
def D.items : D → Option (List D)
  | .tup xs => some xs
  | .lst xs => some xs
  | .str x => some (x.cps.toList.map fun c => .str ⟨#[c]⟩)
  | .scr ns => some (ns.map .int)
  | _ => none
/-- the ints' size at a product, a divisor -/
def mulOk (a b : Int) : Prop := a.natAbs < 2 ^ 400000 ∧ b.natAbs < 2 ^ 400000
def divOk (b : Int) : Prop := b.natAbs < 2 ^ 9000
def small (n : Nat) : Prop := n ≤ 1000000

def ixd (xs : List D) (i : Int) : Option D := if 0 ≤ i then xs[i.toNat]? else if -(xs.length : Int) ≤ i then xs[(i + xs.length).toNat]? else none
def cutIx (n d : Nat) : Option Int → Nat
  | none => d
  | some v => if v < 0 then (v + (n : Int)).toNat else min v.toNat n
def cutd (xs : List D) (lo hi : Option Int) : List D := (xs.drop (cutIx xs.length 0 lo)).take (cutIx xs.length xs.length hi - cutIx xs.length 0 lo)

/-- texts -/
def repS (a : Str) (n : Nat) : Str := ⟨(List.replicate n a.cps.toList).flatten.toArray⟩
def dgv (l : List Nat) : Nat := l.foldl (fun acc c => acc * 10 + (c - 48)) 0
def allStrs : List D → Option (List Str)
  | [] => some []
  | .str x :: r => (allStrs r).map (x :: ·)
  | _ => none
def opJ (s : Str) (p : D) (k : D → Prop) : Prop := match p with
  | .lst xs => ∃ ys, allStrs xs = some ys ∧ (ys.map (·.length)).sum + ys.length * s.length ≤ 16777216 ∧ k (.str (Str.join s ys))
  | _ => False

def op2 : O2 → D → D → (D → Prop) → Prop
  | .add, .int a, .int b, k => k (.int (a + b))
  | .add, .bl a, .int b, k => k (.int ((if a then 1 else 0) + b))
  | .add, .tup a, .tup b, k => small (a.length + b.length) ∧ k (.tup (a ++ b))
  | .add, .lst a, .lst b, k => small (a.length + b.length) ∧ k (.lst (a ++ b))
  | .add, .str a, .str b, k => small (a.length + b.length) ∧ k (.str (a ++ b))
  | .sub, .int a, .int b, k => k (.int (a - b))
  | .sub, .bl a, .int b, k => k (.int ((if a then 1 else 0) - b))
  | .mul, .int a, .int b, k => mulOk a b ∧ k (.int (a * b))
  | .mul, .tup a, .int b, k => a ≠ [] ∧ 2 ≤ b ∧ b ≤ 1000 ∧ a.length ≤ 1000 ∧ k (.tup (List.replicate b.toNat a).flatten)
  | .mul, .str a, .int b, k => small (a.length * b.toNat) ∧ b.natAbs ≤ 1000000 ∧ k (.str (repS a b.toNat))
  | .mul, .lst a, .int b, k => small (a.length * b.toNat) ∧ b.natAbs ≤ 1000000 ∧ k (.lst (List.replicate b.toNat a).flatten)
  | .fdiv, .int a, .int b, k => 0 < b ∧ divOk b ∧ k (.int (a / b))
  | .mod, .int a, .int b, k => 0 < b ∧ k (.int (a % b))
  | _, _, _, _ => False
def cmpI (o : OC) (a b : Int) : Bool := match o with
  | .lt => decide (a < b)
  | .le => decide (a ≤ b)
  | .gt => decide (b < a)
  | .ge => decide (b ≤ a)
  | _ => false
def D.isNon : D → Bool
  | .non => true
  | _ => false
def op1 : OC → D → D → (Bool → Prop) → Prop
  | .eq, a, b, k => D.okq 60 a = true ∧ D.okq 60 b = true ∧ k (D.eqv a b)
  | .ne, a, b, k => D.okq 60 a = true ∧ D.okq 60 b = true ∧ k (!D.eqv a b)
  | .is, a, .non, k => k a.isNon
  | .isn, a, .non, k => k (!a.isNon)
  | .in_, a, .tup xs, k => D.okq 60 a = true ∧ D.okqL 60 xs = true ∧ k (xs.any fun x => D.eqv x a)
  | .in_, a, .lst xs, k => D.okq 60 a = true ∧ D.okqL 60 xs = true ∧ k (xs.any fun x => D.eqv x a)
  | .nin, a, .tup xs, k => D.okq 60 a = true ∧ D.okqL 60 xs = true ∧ k (!xs.any fun x => D.eqv x a)
  | .nin, a, .lst xs, k => D.okq 60 a = true ∧ D.okqL 60 xs = true ∧ k (!xs.any fun x => D.eqv x a)
  | .lt, .int a, .int b, k => k (decide (a < b))
  | .le, .int a, .int b, k => k (decide (a ≤ b))
  | .gt, .int a, .int b, k => k (decide (b < a))
  | .ge, .int a, .int b, k => k (decide (b ≤ a))
  | .lt, .tup xs, .tup ys, k => ∃ r, D.ltL xs ys = some r ∧ D.okqL 60 xs = true ∧ D.okqL 60 ys = true ∧ k r
  | .le, .str a, .str b, k => k (!decide (b.cps.toList < a.cps.toList))
  | _, _, _, _ => False

def D.isT : TY → D → Option Bool
  | _, .st => none
  | _, .scr _ => none
  | .int, .int _ => some true
  | .int, .bl _ => some true
  | .bool, .bl _ => some true
  | .tuple, .tup _ => some true
  | .str, .str _ => some true
  | .list, .lst _ => some true
  | _, _ => some false

def allInts : List D → Option (List Int)
  | [] => some []
  | .int i :: r => (allInts r).map (i :: ·)
  | _ => none
def allBls : List D → Option (List Bool)
  | [] => some []
  | .bl i :: r => (allBls r).map (i :: ·)
  | _ => none
def D.ltb (x y : D) : Bool := (D.lt x y).getD false
def D.isTup : D → Bool
  | .tup _ => true
  | _ => false
/-- the first items are all ints, or all tuples -/
def firstsOk (xs : List D) : Bool := (xs.all fun x => match x with
    | .tup (.int _ :: _) => true
    | .tup [] => true
    | _ => false) || (xs.all fun x => match x with
    | .tup (.tup _ :: _) => true
    | .tup [] => true
    | _ => false)
/-- what may be sorted: ints, or tuples that are told apart by a weak order -/
structure SortPre (xs : List D) : Prop where
  kind : (allInts xs).isSome = true ∨ firstsOk xs = true
  okq : D.okqL 60 xs = true
  some : ∀ x ∈ xs, ∀ y ∈ xs, (D.lt x y).isSome = true
  asym : ∀ x ∈ xs, ∀ y ∈ xs, D.ltb x y = true → D.ltb y x = false
  ntr : ∀ x ∈ xs, ∀ y ∈ xs, ∀ z ∈ xs, D.ltb y x = false → D.ltb z y = false → D.ltb z x = false
def sortsTo (xs : List D) (k : D → Prop) : Prop := SortPre xs ∧ ∀ ys : List D, ys.Perm xs → ys.Pairwise (fun x y => D.ltb y x = false) → k (.lst ys)
def dedupD : List D → List D
  | [] => []
  | x :: xs => x :: (dedupD xs).filter fun y => !D.eqv x y
/-- a list of ints, or of tuples of ints -/
def D.intsTup : D → Option (List Int)
  | .tup xs => allInts xs
  | _ => none
def hashable (xs : List D) : Bool := (allInts xs).isSome || xs.all fun x => (D.intsTup x).isSome

def bfun : BF → D → (D → Prop) → Prop
  | .len, .tup xs, k => k (.int xs.length)
  | .len, .lst xs, k => k (.int xs.length)
  | .len, .str x, k => small x.length ∧ k (.int x.length)
  | .len, .scr ns, k => k (.int ns.length)
  | .abs, .int i, k => k (.int (if i < 0 then -i else i))
  | .sum, .lst xs, k => ∃ ns, allInts xs = some ns ∧ k (.int ns.sum)
  | .sum, .tup xs, k => ∃ ns, allInts xs = some ns ∧ k (.int ns.sum)
  | .max, .lst xs, k => ∃ ns, allInts xs = some ns ∧ ns ≠ [] ∧ ∀ m, m ∈ ns → (∀ a ∈ ns, a ≤ m) → k (.int m)
  | .min, .lst xs, k => ∃ ns, allInts xs = some ns ∧ ns ≠ [] ∧ ∀ m, m ∈ ns → (∀ a ∈ ns, m ≤ a) → k (.int m)
  | .all, .lst xs, k => ∃ bs, allBls xs = some bs ∧ k (.bl (bs.all id))
  | .any, .lst xs, k => ∃ bs, allBls xs = some bs ∧ k (.bl (bs.any id))
  | .sorted, .lst xs, k => small xs.length ∧ sortsTo xs k
  | .list, .lst xs, k => k (.lst xs)
  | .list, .tup xs, k => k (.lst xs)
  | .tuple, .lst xs, k => k (.tup xs)
  | .tuple, .tup xs, k => k (.tup xs)
  | .int, .int i, k => k (.int i)
  | .int, .bl b, k => k (.int (if b then 1 else 0))
  | .int, .str a, k => a.cps.toList ≠ [] ∧ (∀ c ∈ a.cps.toList, 48 ≤ c ∧ c ≤ 57) ∧ a.length ≤ 640 ∧ k (.int (dgv a.cps.toList))
  | .str, .int i, k => i.natAbs < 2 ^ 1900 ∧ k (.str (toString i))
  | .str, .bl b, k => k (.str (if b then "True" else "False"))
  | .sortset, .lst xs, k => ∃ ns, allInts xs = some ns ∧ ns.length < 64 ∧ ∀ ms : List Int, ms.Pairwise (· < ·) → (∀ i, i ∈ ms ↔ i ∈ ns) → k (.lst (ms.map D.int))
  | .sortset, .tup xs, k => ∃ ns, allInts xs = some ns ∧ ns.length < 64 ∧ ∀ ms : List Int, ms.Pairwise (· < ·) → (∀ i, i ∈ ms ↔ i ∈ ns) → k (.lst (ms.map D.int))
  | .lenset, .lst xs, k => (xs.all fun x => (D.intsTup x).isSome) = true ∧ xs.length < 64 ∧ k (.int (dedupD xs).length)
  | _, _, _ => False

mutual
def asg : TG → D → Env → Option Env
  | .nm i, d, env => if i < env.length then some (env.set i (.val d)) else none
  | .tp ts, .tup ds, env => asgL ts ds env
  | .tp _, _, _ => none
def asgL : TGL → List D → Env → Option Env
  | .nil, [], env => some env
  | .cons t ts, d :: ds, env => match asg t d env with
    | some env' => asgL ts ds env'
    | none => none
  | _, _, _ => none
end
mutual
def TG.slots : TG → List Nat
  | .nm i => [i]
  | .tp ts => TGL.slots ts
def TGL.slots : TGL → List Nat
  | .nil => []
  | .cons t ts => TG.slots t ++ TGL.slots ts
end
def killE (env : Env) : List Nat → Env
  | [] => env
  | v :: vs => (killE env vs).set v .no

def lcGo (f : D → Nat → (Option D → Nat → Prop) → Prop) : List D → List D → Nat → (List D → Nat → Prop) → Prop
  | [], acc, n, k => k acc n
  | x :: xs, acc, n, k => f x n fun r n' => match r with
    | some y => small (acc.length + 1) ∧ lcGo f xs (acc ++ [y]) n' k
    | none => lcGo f xs acc n' k
def l2Go (f : D → List D → Nat → (List D → Nat → Prop) → Prop) : List D → List D → Nat → (List D → Nat → Prop) → Prop
  | [], acc, n, k => k acc n
  | x :: xs, acc, n, k => f x acc n fun acc' n' => l2Go f xs acc' n' k
def rangeD (lo : Int) (n : Nat) : List D := (List.range n).map fun (i : Nat) => .int (lo + (i : Int))
def enumD (xs : List D) : List D := xs.zipIdx.map fun (x, i) => .tup [.int i, x]
def zipD (xs ys : List D) : List D := (xs.zip ys).map fun (x, y) => .tup [x, y]

/-- at a test the truth is handed on -/
def opT (p : D) (k : Bool → Prop) : Prop := match D.tru p with
  | some b => k b
  | none => False
def opN (p : D) (k : D → Prop) : Prop := match p with
  | .int i => k (.int (-i))
  | _ => False
def opI (ty : TY) (p : D) (k : Bool → Prop) : Prop := match D.isT ty p with
  | some b => k b
  | none => False
def opX (p q : D) (k : D → Prop) : Prop := match p, q with
  | .tup xs, .int i => (match ixd xs i with
    | some d => k d
    | none => False)
  | .lst xs, .int i => (match ixd xs i with
    | some d => k d
    | none => False)
  | .scr ns, .int i => (match ixd (ns.map .int) i with
    | some d => k d
    | none => False)
  | _, _ => False
def opS (p : D) (l h : Option Int) (k : D → Prop) : Prop := match p with
  | .tup xs => k (.tup (cutd xs l h))
  | .lst xs => k (.lst (cutd xs l h))
  | _ => False
def opV (p : D) (k : D → Prop) : Prop := match p with
  | .tup xs => k (.tup xs.reverse)
  | .lst xs => k (.lst xs.reverse)
  | _ => False
def opInt (p : D) (k : Int → Prop) : Prop := match p with
  | .int i => k i
  | _ => False
def opSq (p : D) (k : List D → Prop) : Prop := match D.items p with
  | some xs => k xs
  | none => False
def opR1 (p : D) (k : List D → Prop) : Prop := match p with
  | .int i => i ≤ 1000000 ∧ -1000000 ≤ i ∧ k (rangeD 0 i.toNat)
  | _ => False
def opR2 (p q : D) (k : List D → Prop) : Prop := match p, q with
  | .int i, .int j => i ≤ 1000000 ∧ -1000000 ≤ i ∧ j ≤ 1000000 ∧ -1000000 ≤ j ∧ k (rangeD i (j - i).toNat)
  | _, _ => False
def opEn (p : D) (k : List D → Prop) : Prop := match p with
  | .tup xs => k (enumD xs)
  | .lst xs => k (enumD xs)
  | _ => False
def D.seqs : D → Option (List D)
  | .tup xs => some xs
  | .lst xs => some xs
  | _ => none
def opZp (p q : D) (k : List D → Prop) : Prop := match D.seqs p, D.seqs q with
  | some xs, some ys => k (zipD xs ys)
  | _, _ => False
def opA (o : Option Env) (k : Env → Prop) : Prop := match o with
  | some env => k env
  | none => False
def opTN (p : D) (n : Nat) (k : Bool → Prop) : Prop := match D.truN p n with
  | some b => k b
  | none => False
def fin (t : Bool) (k : KD) (d : D) (n : Nat) : Prop := if t = true then opTN d n fun b => k (.bl b) n else k d n
def isSt : Slot → Bool
  | .val .st => true
  | _ => false
def D.lst? : D → List D
  | .lst l => l
  | _ => []
def slV (t : Bool) (n : Nat) (k : KD) : Slot → Prop
  | .val d => fin t k d n
  | .own ds => t = true ∧ k (.bl (!ds.isEmpty)) n
  | _ => False
def slL (t : Bool) (n : Nat) (k : KD) : Slot → Prop
  | .own ds => fin t k (.int ds.length) n
  | _ => False
def slI : Slot → D → (D → Prop) → Prop
  | .own ds, .int j, k => (match ixd ds j with
      | some d => k d
      | none => False)
  | _, _, _ => False
/-! dicts of one's own: keys are tuples of ints -/
def dkey : D → Option (List Int)
  | .tup xs => allInts xs
  | _ => none
def dvl (kvs : List (List Int × D)) (s : List Int) : Option D := (kvs.find? fun kv => decide (kv.1 = s)).map (·.2)
def dput (kvs : List (List Int × D)) (s : List Int) (d : D) : List (List Int × D) :=
  if (kvs.any fun kv => decide (kv.1 = s)) = true then kvs.map (fun kv => if kv.1 = s then (kv.1, d) else kv) else kvs ++ [(s, d)]
/-- pairs with keys, as a dict takes them -/
def dpairs : List D → Option (List (List Int × D))
  | [] => some []
  | .tup [q, v] :: r => match dkey q, dpairs r with
    | some s, some ps => some ((s, v) :: ps)
    | _, _ => none
  | _ => none
def dfrom (ps : List (List Int × D)) : List (List Int × D) := ps.foldl (fun kvs p => dput kvs p.1 p.2) []
def opD (p : D) (k : List (List Int × D) → Prop) : Prop := match D.seqs p with
  | some xs => (match dpairs xs with
    | some ps => ps ≠ [] ∧ small xs.length ∧ k (dfrom ps)
    | none => False)
  | none => False
def opMn (p q : D) (k : D → Prop) : Prop := match p, q with
  | .int i, .int j => k (.int (if j < i then j else i))
  | _, _ => False
def dctK (s : Slot) (k : Bool → List (List Int × D) → Prop) : Prop := match s with
  | .dct lk kvs => k lk kvs
  | _ => False
def dkD (kvs : List (List Int × D)) : List D := kvs.map fun kv => .tup (kv.1.map .int)
def kb (k : Bool → Nat → Prop) : KD := fun d n => match d with
  | .bl b => k b n
  | _ => False
def isOwn : Slot → Bool
  | .own _ => true
  | _ => false
section
variable (C : Cal)
mutual
/-- the value; with t its truth -/
def evE : X → Bool → Env → Nat → KD → KX → Prop
  | .v i, t, env, n, k, _ => slV t n k (gt env i)
  | .i z, t, _, n, k, _ => fin t k (.int z) n
  | .b z, t, _, n, k, _ => fin t k (.bl z) n
  | .n, t, _, n, k, _ => fin t k .non n
  | .s z, t, _, n, k, _ => fin t k (.str z) n
  | .tu es, t, env, n, k, x => evL es env n (fun ds n' => small ds.length ∧ fin t k (.tup ds) n') x
  | .ls es, t, env, n, k, x => evL es env n (fun ds n' => small ds.length ∧ fin t k (.lst ds) n') x
  | .bi o a b, t, env, n, k, x => evE a false env n (fun p n1 => evE b false env n1 (fun q n2 => op2 o p q fun r => fin t k r n2) x) x
  | .cm o a b, t, env, n, k, x => evE a false env n (fun p n1 => evE b false env n1 (fun q n2 => op1 o p q fun r => k (.bl r) n2) x) x
  | .ch o1 o2 a b c, t, env, n, k, x => evE a false env n (fun p n1 => evE b false env n1 (fun q n2 => op1 o1 p q fun r => if r = true then evE c false env n2 (fun s n3 => op1 o2 q s fun r' => k (.bl r') n3) x else k (.bl false) n2) x) x
  | .ng a, t, env, n, k, x => evE a false env n (fun p n1 => opN p fun r => fin t k r n1) x
  | .nt a, t, env, n, k, x => evE a t env n (fun p n1 => opT p fun b => k (.bl (!b)) n1) x
  | .an a b, t, env, n, k, x => evE a t env n (kb fun p n1 => if p = true then evE b t env n1 k x else k (.bl false) n1) x
  | .or a b, t, env, n, k, x => evE a t env n (kb fun p n1 => if p = true then k (.bl true) n1 else evE b t env n1 k x) x
  | .ie c a b, t, env, n, k, x => evE c true env n (kb fun p n1 => if p = true then evE a t env n1 k x else evE b t env n1 k x) x
  | .ca f es, t, env, n, k, x => evL es env n (fun ds n1 => C f ds n1 (fin t k) x) x
  | .bc f a, t, env, n, k, x => evE a false env n (fun p n1 => bfun f p fun r => fin t k r n1) x
  | .isi ty a, t, env, n, k, x => evE a false env n (fun p n1 => opI ty p fun b => k (.bl b) n1) x
  | .ix a b, t, env, n, k, x => evE a false env n (fun p n1 => evE b false env n1 (fun q n2 => opX p q fun r => fin t k r n2) x) x
  | .sl a lo hi, t, env, n, k, x => evE a false env n (fun p n1 => evO lo env n1 (fun l n2 => evO hi env n2 (fun h n3 => opS p l h fun r => fin t k r n3) x) x) x
  | .rv a, t, env, n, k, x => evE a false env n (fun p n1 => opV p fun r => fin t k r n1) x
  | .lc e tg it c, t, env, n, k, x => evI it env n (fun xs n1 => lcGo (fun d n2 kk => opA (asg tg d (killE env tg.slots)) fun env' =>
      evC c env' n2 fun b n3 => if b = true then evE e false env' n3 (fun y n4 => kk (some y) n4) (fun _ _ => False) else kk none n3) xs [] n1 fun ys n5 => fin t k (.lst ys) n5) x
  | .l2 e tg it t2 it2, t, env, n, k, x => evI it env n (fun xs n1 => l2Go (fun d acc n2 kk => opA (asg tg d (killE env (tg.slots ++ t2.slots))) fun env' =>
      evI it2 env' n2 (fun zs n3 => lcGo (fun d2 n4 kk2 => opA (asg t2 d2 (killE env' t2.slots)) fun env2 =>
        evE e false env2 n4 (fun y n5 => kk2 (some y) n5) (fun _ _ => False)) zs acc n3 kk) (fun _ _ => False)) xs [] n1 fun ys n7 => fin t k (.lst ys) n7) x
  | .ol i, t, env, n, k, _ => slL t n k (gt env i)
  | .oi i a, t, env, n, k, x => isOwn (gt env i) = true ∧ evE a false env n (fun p n1 => slI (gt env i) p fun r => fin t k r n1) x
  | .stl i, t, env, n, k, _ => isSt (gt env i) = true ∧ fin t k (.int n) n
  | .stx i, t, env, n, k, _ => isSt (gt env i) = true ∧ 0 < n ∧ ∀ z : Int, fin t k (.int z) n
  | .og i a b, t, env, n, k, x => dctK (gt env i) fun _ kvs => evE a false env n (fun p n1 => evE b false env n1 (fun q n2 => ∃ s, dkey p = some s ∧ fin t k ((dvl kvs s).getD q) n2) x) x
  | .ogx i a, t, env, n, k, x => dctK (gt env i) fun _ kvs => evE a false env n (fun p n1 => ∃ s d, dkey p = some s ∧ dvl kvs s = some d ∧ fin t k d n1) x
  | .lir b it, t, env, n, k, x => evI it env n (fun xs n1 => small xs.length ∧ fin t k (if b then .tup xs else .lst xs) n1) x
  | .dg a b c, t, env, n, k, x => evE a false env n (fun p n1 => opD p fun kvs => evE b false env n1 (fun q n2 => evE c false env n2 (fun r n3 => ∃ s, dkey q = some s ∧ fin t k ((dvl kvs s).getD r) n3) x) x) x
  | .jn s a, t, env, n, k, x => evE a false env n (fun p n1 => opJ s p fun r => fin t k r n1) x
  | .mn a b, t, env, n, k, x => evE a false env n (fun p n1 => evE b false env n1 (fun q n2 => opMn p q fun r => fin t k r n2) x) x
  | .oin i a, t, env, n, k, x => dctK (gt env i) fun _ kvs => evE a false env n (fun p n1 => ∃ s, dkey p = some s ∧ k (.bl (dvl kvs s).isSome) n1) x
def evL : XL → Env → Nat → (List D → Nat → Prop) → KX → Prop
  | .nil, _, n, k, _ => k [] n
  | .cons e es, env, n, k, x => evE e false env n (fun d n1 => evL es env n1 (fun ds n2 => k (d :: ds) n2) x) x
def evO : XO → Env → Nat → (Option Int → Nat → Prop) → KX → Prop
  | .no, _, n, k, _ => k none n
  | .so e, env, n, k, x => evE e false env n (fun d n1 => opInt d fun i => k (some i) n1) x
def evC : XO → Env → Nat → (Bool → Nat → Prop) → Prop
  | .no, _, n, k => k true n
  | .so e, env, n, k => evE e true env n (kb k) (fun _ _ => False)
def evI : IT → Env → Nat → (List D → Nat → Prop) → KX → Prop
  | .ex e, env, n, k, x => evE e false env n (fun d n1 => opSq d fun xs => k xs n1) x
  | .r1 e, env, n, k, x => evE e false env n (fun d n1 => opR1 d fun xs => k xs n1) x
  | .r2 a b, env, n, k, x => evE a false env n (fun p n1 => evE b false env n1 (fun q n2 => opR2 p q fun xs => k xs n2) x) x
  | .en e, env, n, k, x => evE e false env n (fun d n1 => opEn d fun xs => k xs n1) x
  | .zp a b, env, n, k, x => evE a false env n (fun p n1 => evE b false env n1 (fun q n2 => opZp p q fun xs => k xs n2) x) x
  | .dk i, env, n, k, _ => dctK (gt env i) fun lk kvs => lk = true ∧ k (dkD kvs) n
end
end

section
variable (C : Cal)
/-- a comprehension's turn -/
def lcF (e : X) (tg : TG) (c : XO) (env : Env) : D → Nat → (Option D → Nat → Prop) → Prop := fun d n2 kk => opA (asg tg d (killE env tg.slots)) fun env' =>
  evC C c env' n2 fun b n3 => if b = true then evE C e false env' n3 (fun y n4 => kk (some y) n4) (fun _ _ => False) else kk none n3
def l2I (e : X) (t2 : TG) (env' : Env) : D → Nat → (Option D → Nat → Prop) → Prop := fun d2 n4 kk2 => opA (asg t2 d2 (killE env' t2.slots)) fun env2 =>
  evE C e false env2 n4 (fun y n5 => kk2 (some y) n5) (fun _ _ => False)
def l2F (e : X) (tg : TG) (t2 : TG) (it2 : IT) (env : Env) : D → List D → Nat → (List D → Nat → Prop) → Prop := fun d acc n2 kk => opA (asg tg d (killE env (tg.slots ++ t2.slots))) fun env' =>
  evI C it2 env' n2 (fun zs n3 => lcGo (l2I C e t2 env') zs acc n3 kk) (fun _ _ => False)
theorem evE_lc {e : X} {tg : TG} {it : IT} {c : XO} {t : Bool} {env : Env} {n : Nat} {k : KD} {x : KX} : evE C (.lc e tg it c) t env n k x = evI C it env n (fun xs n1 => lcGo (lcF C e tg c env) xs [] n1 fun ys n5 => fin t k (.lst ys) n5) x := by
  simp only [evE]; rfl
theorem evE_l2 {e : X} {tg t2 : TG} {it it2 : IT} {t : Bool} {env : Env} {n : Nat} {k : KD} {x : KX} : evE C (.l2 e tg it t2 it2) t env n k x = evI C it env n (fun xs n1 => l2Go (l2F C e tg t2 it2 env) xs [] n1 fun ys n5 => fin t k (.lst ys) n5) x := by
  simp only [evE]; rfl
end
/-! ### statements -/
def forGo (f : D → Env → Nat → (Env → Nat → Prop) → Prop) (kl : List Nat) : List D → Env → Nat → (Env → Nat → Prop) → Prop
  | [], env, n, k => k (killE env kl) n
  | x :: xs, env, n, k => f x (killE env kl) n fun env' n' => forGo f kl xs env' n' k
def whGo (f : Env → Nat → (Env → Nat → Prop) → (Env → Nat → Prop) → Prop) (kl : List Nat) : Nat → Env → Nat → (Env → Nat → Prop) → Prop
  | 0, _, _, _ => False
  | m + 1, env, n, k => f (killE env kl) n (fun env' n' => whGo f kl m env' n' k) fun env' n' => k (killE env' kl) n'
def opL (d : D) (k : List D → Prop) : Prop := match d with
  | .lst ds => k ds
  | _ => False
def slotOf (o : Bool) (d : D) : Slot := match o, d with
  | true, .lst ds => .own ds
  | _, d => .val d
def setS (i : Nat) (o : Bool) (d : D) (env : Env) (k : Env → Prop) : Prop := i < env.length ∧ (o = true → ∃ ds, d = .lst ds) ∧ k (env.set i (slotOf o d))
def ownK (s : Slot) (k : List D → Prop) : Prop := match s with
  | .own ds => k ds
  | _ => False
def freeze (env : Env) : List Nat → Env
  | [] => env
  | i :: is => match gt (freeze env is) i with
    | .own ds => (freeze env is).set i (.val (.lst ds))
    | _ => freeze env is
section
variable (C : Cal)
mutual
def evS : S → Env → Nat → (Env → Nat → Prop) → KD → KX → Prop
  | .as t e, env, n, k, _, x => evE C e false env n (fun d n' => opA (asg t d env) fun env' => k env' n') x
  | .ao i e, env, n, k, _, x => evE C e false env n (fun d n' => setS i true d env fun env' => k env' n') x
  | .p2 i oi j oj a b, env, n, k, _, x => evE C a false env n (fun d1 n1 => evE C b false env n1 (fun d2 n2 => setS i oi d1 env fun env1 => setS j oj d2 env1 fun env2 => k env2 n2) x) x
  | .p3 i j l a b c, env, n, k, _, x => evE C a false env n (fun d1 n1 => evE C b false env n1 (fun d2 n2 => evE C c false env n2 (fun d3 n3 => setS i false d1 env fun env1 => setS j false d2 env1 fun env2 => setS l false d3 env2 fun env3 => k env3 n3) x) x) x
  | .ag i e, env, n, k, _, x => ∃ z, gt env i = .val (.int z) ∧ evE C e false env n (fun q n' => opInt q fun y => k (env.set i (.val (.int (z + y)))) n') x
  | .ap i e, env, n, k, _, x => ∃ ds, gt env i = .own ds ∧ evE C e false env n (fun d n' => small (ds.length + 1) ∧ k (env.set i (.own (ds ++ [d]))) n') x
  | .pp i j e, env, n, k, _, x => ∃ ds es, gt env i = .own ds ∧ gt env j = .own es ∧ i ≠ j ∧ evE C e false env n (fun d n' => opInt d fun z => 0 ≤ z ∧ ∃ y, es[z.toNat]? = some y ∧ small es.length ∧ small (ds.length + 1) ∧ k ((env.set j (.own (es.eraseIdx z.toNat))).set i (.own (ds ++ [y]))) n') x
  | .si i a e, env, n, k, _, x => ∃ ds, gt env i = .own ds ∧ evE C e false env n (fun d n' => evE C a false env n' (fun p n'' => opInt p fun z => 0 ≤ z ∧ z < ds.length ∧ k (env.set i (.own (ds.set z.toNat d))) n'') x) x
  | .ex e, env, n, k, _, x => evE C e false env n (fun _ n' => k env n') x
  | .fi c a b, env, n, k, r, x => evE C c true env n (kb fun p n' => if p = true then evB a env n' k r x else evB b env n' k r x) x
  | .fo t it kl body, env, n, k, r, x => evI C it env n (fun xs n' => forGo (fun d env1 n1 kk => opA (asg t d env1) fun env2 => evB body env2 n1 kk r x) kl xs env n' k) x
  | .wh c kl body, env, n, k, r, x => ∃ m, whGo (fun env1 n1 kk kd => evE C c true env1 n1 (kb fun p n2 => if p = true then evB body env1 n2 kk r x else kd env1 n2) x) kl m env n k
  | .re e, env, n, _, r, x => evE C e false env n r x
  | .ra c, _, n, _, _, x => x c n
  | .ty e hs, env, n, _, r, _ => evE C e false env n r (fun c n' => c ∈ hs ∧ r (.str c) n')
  | .fz is, env, n, k, _, _ => k (freeze env is) n
  | .sta i e, env, n, k, _, x => isSt (gt env i) = true ∧ evE C e false env n (fun d n' => opInt d fun _ => n' ≤ 10000000 ∧ k env (n' + 1)) x
  | .sts i e, env, n, k, _, x => isSt (gt env i) = true ∧ evE C e false env n (fun d n' => opInt d fun _ => 0 < n' ∧ k env n') x
  | .dn i, env, n, k, _, _ => i < env.length ∧ k (env.set i (.dct false [])) n
  | .ds i a e, env, n, k, _, x => ∃ kvs, gt env i = .dct false kvs ∧ evE C e false env n (fun d n' => evE C a false env n' (fun p n'' => ∃ s, dkey p = some s ∧ small kvs.length ∧ k (env.set i (.dct false (dput kvs s d))) n'') x) x
  | .pd i j oj e, env, n, k, _, x => evE C e false env n (fun d n' => i < env.length ∧ setS j oj d (env.set i (.dct false [])) fun env2 => k env2 n') x
  | .da i e, env, n, k, _, x => evE C e false env n (fun d n' => opD d fun kvs => i < env.length ∧ k (env.set i (.dct false kvs)) n') x
  | .lk i, env, n, k, _, _ => ∃ kvs, gt env i = .dct false kvs ∧ k (env.set i (.dct true kvs)) n
def evB : SL → Env → Nat → (Env → Nat → Prop) → KD → KX → Prop
  | .nil, env, n, k, _, _ => k env n
  | .cons s ss, env, n, k, r, x => evS s env n (fun env' n' => evB ss env' n' k r x) r x
end
/-- a loop's turn -/
def forF (t : TG) (body : SL) (r : KD) (x : KX) : D → Env → Nat → (Env → Nat → Prop) → Prop := fun d env1 n1 kk => opA (asg t d env1) fun env2 => evB C body env2 n1 kk r x
def whF (c : X) (body : SL) (r : KD) (x : KX) : Env → Nat → (Env → Nat → Prop) → (Env → Nat → Prop) → Prop := fun env1 n1 kk kd => evE C c true env1 n1 (kb fun p n2 => if p = true then evB C body env1 n2 kk r x else kd env1 n2) x
theorem evS_fo {t : TG} {it : IT} {kl : List Nat} {body : SL} {env : Env} {n : Nat} {k : Env → Nat → Prop} {r : KD} {x : KX} : evS C (.fo t it kl body) env n k r x = evI C it env n (fun xs n' => forGo (forF C t body r x) kl xs env n' k) x := by
  simp only [evS]; rfl
theorem evS_wh {c : X} {kl : List Nat} {body : SL} {env : Env} {n : Nat} {k : Env → Nat → Prop} {r : KD} {x : KX} : evS C (.wh c kl body) env n k r x = ∃ m, whGo (whF C c body r x) kl m env n k := by
  simp only [evS]; rfl
end

/-! ### calls -/
structure Df where
  np : Nat
  ns : Nat
  body : SL
def initE (ds : List D) (ns : Nat) : Env := ds.map .val ++ List.replicate (ns - ds.length) .no
/-- the draw (def 0): any number in range -/
def drawK (ds : List D) (n : Nat) (k : KD) : Prop := match ds with
  | [.scr sc, .st, .int m] => sc.length ≤ 63 ∧ 0 < m ∧ n ≤ 1000000 ∧ ∀ r n', 0 ≤ r → r < m → n ≤ n' → n' ≤ n + 2 → k (.int r) n'
  | _ => False
/-- the callee's meaning, so deep -/
def callW (T : Nat → Option Df) : Nat → Cal
  | 0 => fun _ _ _ _ _ => False
  | d + 1 => fun f ds n k x => match f with
    | 0 => drawK ds n k
    | f => (match T f with
      | some df => ds.length = df.np ∧ evB (callW T d) df.body (initE ds df.ns) n (fun _ n' => k .non n') k x
      | none => False)
end PV
end
section
set_option Elab.async false
set_option linter.all false
set_option maxRecDepth 100000
set_option maxHeartbeats 400000
namespace PV
open PySem
theorem fin_f {k : KD} {d : D} {n : Nat} : fin false k d n = k d n := by simp [fin]
theorem fin_t {k : KD} {d : D} {n : Nat} : fin true k d n = opTN d n fun b => k (.bl b) n := if_pos rfl
theorem opTN_iff {d : D} {n : Nat} {k : Bool → Prop} : opTN d n k ↔ ∃ b, D.truN d n = some b ∧ k b := by
  unfold opTN
  cases D.truN d n <;> simp
theorem opT_iff {d : D} {k : Bool → Prop} : opT d k ↔ ∃ b, D.tru d = some b ∧ k b := by
  unfold opT
  cases D.tru d <;> simp
theorem kb_iff {k : Bool → Nat → Prop} {d : D} {n : Nat} : kb k d n ↔ ∃ b, d = .bl b ∧ k b n := by
  cases d <;> simp [kb]
theorem zipD_length (xs ys : List D) : (zipD xs ys).length = min xs.length ys.length := by simp [zipD]
/-! ### rules of evaluation -/
section
variable {C : Cal} {env : Env} {n : Nat} {k : KD} {kE : Env → Nat → Prop} {r : KD} {x : KX} {t : Bool}
theorem wB0 (h : kE env n) : evB C .nil env n kE r x := by simp only [evB]; exact h
theorem wB {s : S} {ss : SL} (h : evS C s env n (fun env' n' => evB C ss env' n' kE r x) r x) : evB C (.cons s ss) env n kE r x := by simp only [evB]; exact h
theorem wAs {tg : TG} {e : X} (h : evE C e false env n (fun d n' => opA (asg tg d env) fun env' => kE env' n') x) : evS C (.as tg e) env n kE r x := by simp only [evS]; exact h
theorem wAo {i : Nat} {e : X} (h : evE C e false env n (fun d n' => setS i true d env fun env' => kE env' n') x) : evS C (.ao i e) env n kE r x := by simp only [evS]; exact h
theorem wP2 {i j : Nat} {oi oj : Bool} {a b : X} (h : evE C a false env n (fun d1 n1 => evE C b false env n1 (fun d2 n2 => setS i oi d1 env fun env1 => setS j oj d2 env1 fun env2 => kE env2 n2) x) x) : evS C (.p2 i oi j oj a b) env n kE r x := by simp only [evS]; exact h
theorem wP3 {i j l : Nat} {a b c : X} (h : evE C a false env n (fun d1 n1 => evE C b false env n1 (fun d2 n2 => evE C c false env n2 (fun d3 n3 => setS i false d1 env fun env1 => setS j false d2 env1 fun env2 => setS l false d3 env2 fun env3 => kE env3 n3) x) x) x) : evS C (.p3 i j l a b c) env n kE r x := by simp only [evS]; exact h
theorem wAg {i : Nat} {e : X} {z : Int} (hz : gt env i = .val (.int z)) (h : evE C e false env n (fun q n' => opInt q fun y => kE (env.set i (.val (.int (z + y)))) n') x) : evS C (.ag i e) env n kE r x := by simp only [evS]; exact ⟨z, hz, h⟩
theorem wAp {i : Nat} {e : X} {ds : List D} (hz : gt env i = .own ds) (h : evE C e false env n (fun d n' => small (ds.length + 1) ∧ kE (env.set i (.own (ds ++ [d]))) n') x) : evS C (.ap i e) env n kE r x := by simp only [evS]; exact ⟨ds, hz, h⟩
theorem wPp {i j : Nat} {e : X} {ds es : List D} (hz : gt env i = .own ds) (hz2 : gt env j = .own es) (hij : i ≠ j)
    (h : evE C e false env n (fun d n' => opInt d fun z => 0 ≤ z ∧ ∃ y, es[z.toNat]? = some y ∧ small es.length ∧ small (ds.length + 1) ∧ kE ((env.set j (.own (es.eraseIdx z.toNat))).set i (.own (ds ++ [y]))) n') x) : evS C (.pp i j e) env n kE r x := by simp only [evS]; exact ⟨ds, es, hz, hz2, hij, h⟩
theorem wSi {i : Nat} {a e : X} {ds : List D} (hz : gt env i = .own ds) (h : evE C e false env n (fun d n' => evE C a false env n' (fun p n'' => opInt p fun z => 0 ≤ z ∧ z < ds.length ∧ kE (env.set i (.own (ds.set z.toNat d))) n'') x) x) : evS C (.si i a e) env n kE r x := by simp only [evS]; exact ⟨ds, hz, h⟩
theorem wEx {e : X} (h : evE C e false env n (fun _ n' => kE env n') x) : evS C (.ex e) env n kE r x := by simp only [evS]; exact h
theorem wFi {c : X} {a b : SL} (h : evE C c true env n (kb fun p n' => if p = true then evB C a env n' kE r x else evB C b env n' kE r x) x) : evS C (.fi c a b) env n kE r x := by simp only [evS]; exact h
theorem wFo {tg : TG} {it : IT} {kl : List Nat} {body : SL} (h : evI C it env n (fun xs n' => forGo (forF C tg body r x) kl xs env n' kE) x) : evS C (.fo tg it kl body) env n kE r x := by rw [evS_fo]; exact h
theorem wWh {c : X} {kl : List Nat} {body : SL} (m : Nat) (h : whGo (whF C c body r x) kl m env n kE) : evS C (.wh c kl body) env n kE r x := by rw [evS_wh]; exact ⟨m, h⟩
theorem wRe {e : X} (h : evE C e false env n r x) : evS C (.re e) env n kE r x := by simp only [evS]; exact h
theorem wRa {c : Str} (h : x c n) : evS C (.ra c) env n kE r x := by simp only [evS]; exact h
theorem wTy {e : X} {hs : List Str} (h : evE C e false env n r (fun c n' => c ∈ hs ∧ r (.str c) n')) : evS C (.ty e hs) env n kE r x := by simp only [evS]; exact h
theorem wFz {is : List Nat} (h : kE (freeze env is) n) : evS C (.fz is) env n kE r x := by simp only [evS]; exact h
theorem wSta {i : Nat} {e : X} (hz : gt env i = .val .st) (h : evE C e false env n (fun d n' => opInt d fun _ => n' ≤ 10000000 ∧ kE env (n' + 1)) x) : evS C (.sta i e) env n kE r x := by simp only [evS]; exact ⟨by rw [hz]; rfl, h⟩
theorem wSts {i : Nat} {e : X} (hz : gt env i = .val .st) (h : evE C e false env n (fun d n' => opInt d fun _ => 0 < n' ∧ kE env n') x) : evS C (.sts i e) env n kE r x := by simp only [evS]; exact ⟨by rw [hz]; rfl, h⟩
theorem wV {i : Nat} {d : D} (hz : gt env i = .val d) (h : fin t k d n) : evE C (.v i) t env n k x := by simp only [evE, hz]; exact h
theorem wVo {i : Nat} {ds : List D} (hz : gt env i = .own ds) (h : k (.bl (!ds.isEmpty)) n) : evE C (.v i) true env n k x := by simp only [evE, hz]; exact ⟨rfl, h⟩
theorem wI {z : Int} (h : fin t k (.int z) n) : evE C (.i z) t env n k x := by simp only [evE]; exact h
theorem wBl {z : Bool} (h : fin t k (.bl z) n) : evE C (.b z) t env n k x := by simp only [evE]; exact h
theorem wN (h : fin t k .non n) : evE C .n t env n k x := by simp only [evE]; exact h
theorem wS {z : Str} (h : fin t k (.str z) n) : evE C (.s z) t env n k x := by simp only [evE]; exact h
theorem wTu {es : XL} (h : evL C es env n (fun ds n' => small ds.length ∧ fin t k (.tup ds) n') x) : evE C (.tu es) t env n k x := by simp only [evE]; exact h
theorem wLs {es : XL} (h : evL C es env n (fun ds n' => small ds.length ∧ fin t k (.lst ds) n') x) : evE C (.ls es) t env n k x := by simp only [evE]; exact h
theorem wBi {o : O2} {a b : X} (h : evE C a false env n (fun p n1 => evE C b false env n1 (fun q n2 => op2 o p q fun r => fin t k r n2) x) x) : evE C (.bi o a b) t env n k x := by simp only [evE]; exact h
theorem wCm {o : OC} {a b : X} (h : evE C a false env n (fun p n1 => evE C b false env n1 (fun q n2 => op1 o p q fun r => k (.bl r) n2) x) x) : evE C (.cm o a b) t env n k x := by simp only [evE]; exact h
theorem wCh {o1 o2 : OC} {a b c : X} (h : evE C a false env n (fun p n1 => evE C b false env n1 (fun q n2 => op1 o1 p q fun r => if r = true then evE C c false env n2 (fun s n3 => op1 o2 q s fun r' => k (.bl r') n3) x else k (.bl false) n2) x) x) : evE C (.ch o1 o2 a b c) t env n k x := by simp only [evE]; exact h
theorem wNg {a : X} (h : evE C a false env n (fun p n1 => opN p fun r => fin t k r n1) x) : evE C (.ng a) t env n k x := by simp only [evE]; exact h
theorem wNt {a : X} (h : evE C a t env n (fun p n1 => opT p fun b => k (.bl (!b)) n1) x) : evE C (.nt a) t env n k x := by simp only [evE]; exact h
theorem wAn {a b : X} (h : evE C a t env n (kb fun p n1 => if p = true then evE C b t env n1 k x else k (.bl false) n1) x) : evE C (.an a b) t env n k x := by simp only [evE]; exact h
theorem wOr {a b : X} (h : evE C a t env n (kb fun p n1 => if p = true then k (.bl true) n1 else evE C b t env n1 k x) x) : evE C (.or a b) t env n k x := by simp only [evE]; exact h
theorem wIe {c a b : X} (h : evE C c true env n (kb fun p n1 => if p = true then evE C a t env n1 k x else evE C b t env n1 k x) x) : evE C (.ie c a b) t env n k x := by simp only [evE]; exact h
theorem wCa {f : Nat} {es : XL} (h : evL C es env n (fun ds n1 => C f ds n1 (fin t k) x) x) : evE C (.ca f es) t env n k x := by simp only [evE]; exact h
theorem wBc {f : BF} {a : X} (h : evE C a false env n (fun p n1 => bfun f p fun r => fin t k r n1) x) : evE C (.bc f a) t env n k x := by simp only [evE]; exact h
theorem wIsi {ty : TY} {a : X} (h : evE C a false env n (fun p n1 => opI ty p fun b => k (.bl b) n1) x) : evE C (.isi ty a) t env n k x := by simp only [evE]; exact h
theorem wIx {a b : X} (h : evE C a false env n (fun p n1 => evE C b false env n1 (fun q n2 => opX p q fun r => fin t k r n2) x) x) : evE C (.ix a b) t env n k x := by simp only [evE]; exact h
theorem wSl {a : X} {lo hi : XO} (h : evE C a false env n (fun p n1 => evO C lo env n1 (fun l n2 => evO C hi env n2 (fun h n3 => opS p l h fun r => fin t k r n3) x) x) x) : evE C (.sl a lo hi) t env n k x := by simp only [evE]; exact h
theorem wRv {a : X} (h : evE C a false env n (fun p n1 => opV p fun r => fin t k r n1) x) : evE C (.rv a) t env n k x := by simp only [evE]; exact h
theorem wLc {e : X} {tg : TG} {it : IT} {c : XO} (h : evI C it env n (fun xs n1 => lcGo (lcF C e tg c env) xs [] n1 fun ys n5 => fin t k (.lst ys) n5) x) : evE C (.lc e tg it c) t env n k x := by rw [evE_lc]; exact h
theorem wL2 {e : X} {tg t2 : TG} {it it2 : IT} (h : evI C it env n (fun xs n1 => l2Go (l2F C e tg t2 it2 env) xs [] n1 fun ys n5 => fin t k (.lst ys) n5) x) : evE C (.l2 e tg it t2 it2) t env n k x := by rw [evE_l2]; exact h
theorem wOl {i : Nat} {ds : List D} (hz : gt env i = .own ds) (h : fin t k (.int ds.length) n) : evE C (.ol i) t env n k x := by simp only [evE, hz]; exact h
theorem wOi {i : Nat} {a : X} {ds : List D} (hz : gt env i = .own ds) (h : evE C a false env n (fun p n1 => slI (.own ds) p fun r => fin t k r n1) x) : evE C (.oi i a) t env n k x := by simp only [evE, hz]; exact ⟨rfl, h⟩
theorem wStl {i : Nat} (hz : gt env i = .val .st) (h : fin t k (.int n) n) : evE C (.stl i) t env n k x := by simp only [evE, hz]; exact ⟨rfl, h⟩
theorem wStx {i : Nat} (hz : gt env i = .val .st) (h0 : 0 < n) (h : ∀ z : Int, fin t k (.int z) n) : evE C (.stx i) t env n k x := by simp only [evE, hz]; exact ⟨rfl, h0, h⟩
theorem wL0 {kL : List D → Nat → Prop} (h : kL [] n) : evL C .nil env n kL x := by simp only [evL]; exact h
theorem wL {e : X} {es : XL} {kL : List D → Nat → Prop} (h : evE C e false env n (fun d n1 => evL C es env n1 (fun ds n2 => kL (d :: ds) n2) x) x) : evL C (.cons e es) env n kL x := by simp only [evL]; exact h
theorem wO0 {kO : Option Int → Nat → Prop} (h : kO none n) : evO C .no env n kO x := by simp only [evO]; exact h
theorem wO {e : X} {kO : Option Int → Nat → Prop} (h : evE C e false env n (fun d n1 => opInt d fun i => kO (some i) n1) x) : evO C (.so e) env n kO x := by simp only [evO]; exact h
theorem wC0 {kC : Bool → Nat → Prop} (h : kC true n) : evC C .no env n kC := by simp only [evC]; exact h
theorem wC {e : X} {kC : Bool → Nat → Prop} (h : evE C e true env n (kb kC) (fun _ _ => False)) : evC C (.so e) env n kC := by simp only [evC]; exact h
theorem wIex {e : X} {kI : List D → Nat → Prop} (h : evE C e false env n (fun d n1 => opSq d fun xs => kI xs n1) x) : evI C (.ex e) env n kI x := by simp only [evI]; exact h
theorem wIr1 {e : X} {kI : List D → Nat → Prop} (h : evE C e false env n (fun d n1 => opR1 d fun xs => kI xs n1) x) : evI C (.r1 e) env n kI x := by simp only [evI]; exact h
theorem wIr2 {a b : X} {kI : List D → Nat → Prop} (h : evE C a false env n (fun p n1 => evE C b false env n1 (fun q n2 => opR2 p q fun xs => kI xs n2) x) x) : evI C (.r2 a b) env n kI x := by simp only [evI]; exact h
theorem wIen {e : X} {kI : List D → Nat → Prop} (h : evE C e false env n (fun d n1 => opEn d fun xs => kI xs n1) x) : evI C (.en e) env n kI x := by simp only [evI]; exact h
theorem wIzp {a b : X} {kI : List D → Nat → Prop} (h : evE C a false env n (fun p n1 => evE C b false env n1 (fun q n2 => opZp p q fun xs => kI xs n2) x) x) : evI C (.zp a b) env n kI x := by simp only [evI]; exact h
theorem wF {d : D} (h : k d n) : fin false k d n := by rw [fin_f]; exact h
theorem wFt {b : Bool} (h : k (.bl b) n) : fin true k (.bl b) n := by rw [fin_t]; exact h
theorem wFtN {d : D} {b : Bool} (e : D.truN d n = some b) (h : k (.bl b) n) : fin true k d n := by rw [fin_t]; exact opTN_iff.mpr ⟨b, e, h⟩
theorem wKb {kk : Bool → Nat → Prop} {b : Bool} (h : kk b n) : kb kk (.bl b) n := h
theorem slot_f (d : D) : slotOf false d = .val d := by cases d <;> rfl
theorem wSet {i : Nat} {d : D} {kS : Env → Prop} (hi : Nat.ble (i + 1) env.length = true) (h : kS (env.set i (.val d))) : setS i false d env kS := ⟨Nat.le_of_ble_eq_true hi, (fun z => nomatch z), by rw [slot_f]; exact h⟩
theorem wSetO {i : Nat} {ds : List D} {kS : Env → Prop} (hi : Nat.ble (i + 1) env.length = true) (h : kS (env.set i (.own ds))) : setS i true (.lst ds) env kS := ⟨Nat.le_of_ble_eq_true hi, fun _ => ⟨ds, rfl⟩, h⟩
theorem wA {o : Option Env} {env' : Env} {kA : Env → Prop} (e : o = some env') (h : kA env') : opA o kA := by rw [e]; exact h
end
section
variable {kD : D → Prop} {kB : Bool → Prop} {kL : List D → Prop}
theorem oAdd {a b : Int} (h : kD (.int (a + b))) : op2 .add (.int a) (.int b) kD := h
theorem oSub {a b : Int} (h : kD (.int (a - b))) : op2 .sub (.int a) (.int b) kD := h
theorem oMul {a b : Int} (hm : mulOk a b) (h : kD (.int (a * b))) : op2 .mul (.int a) (.int b) kD := ⟨hm, h⟩
theorem oDiv {a b : Int} (h0 : 0 < b) (hd : divOk b) (h : kD (.int (a / b))) : op2 .fdiv (.int a) (.int b) kD := ⟨h0, hd, h⟩
theorem oMod {a b : Int} (h0 : 0 < b) (h : kD (.int (a % b))) : op2 .mod (.int a) (.int b) kD := ⟨h0, h⟩
theorem oCatT {a b : List D} (hs : small (a.length + b.length)) (h : kD (.tup (a ++ b))) : op2 .add (.tup a) (.tup b) kD := ⟨hs, h⟩
theorem oCatL {a b : List D} (hs : small (a.length + b.length)) (h : kD (.lst (a ++ b))) : op2 .add (.lst a) (.lst b) kD := ⟨hs, h⟩
theorem oNg {a : Int} (h : kD (.int (-a))) : opN (.int a) kD := h
theorem oInt {a : Int} {kI : Int → Prop} (h : kI a) : opInt (.int a) kI := h
theorem oSqT {xs : List D} (h : kL xs) : opSq (.tup xs) kL := h
theorem oSqL {xs : List D} (h : kL xs) : opSq (.lst xs) kL := h
theorem oSqR {ns : List Int} (h : kL (ns.map .int)) : opSq (.scr ns) kL := h
theorem oLt {a b : Int} (h : kB (decide (a < b))) : op1 .lt (.int a) (.int b) kB := h
theorem oLe {a b : Int} (h : kB (decide (a ≤ b))) : op1 .le (.int a) (.int b) kB := h
theorem oGt {a b : Int} (h : kB (decide (b < a))) : op1 .gt (.int a) (.int b) kB := h
theorem oGe {a b : Int} (h : kB (decide (b ≤ a))) : op1 .ge (.int a) (.int b) kB := h
theorem oEq {a b : D} (h1 : D.okq 60 a = true) (h2 : D.okq 60 b = true) (h : kB (D.eqv a b)) : op1 .eq a b kB := ⟨h1, h2, h⟩
theorem oNe {a b : D} (h1 : D.okq 60 a = true) (h2 : D.okq 60 b = true) (h : kB (!D.eqv a b)) : op1 .ne a b kB := ⟨h1, h2, h⟩
theorem oEqI {a b : Int} (h : kB (a == b)) : op1 .eq (.int a) (.int b) kB := ⟨rfl, rfl, h⟩
theorem oNeI {a b : Int} (h : kB (!(a == b))) : op1 .ne (.int a) (.int b) kB := ⟨rfl, rfl, h⟩
theorem oT {d : D} {b : Bool} (e : D.tru d = some b) (h : kB b) : opT d kB := opT_iff.mpr ⟨b, e, h⟩
theorem oI {ty : TY} {d : D} {b : Bool} (e : D.isT ty d = some b) (h : kB b) : opI ty d kB := by unfold opI; rw [e]; exact h
theorem oXT {xs : List D} {i : Int} {d : D} (e : ixd xs i = some d) (h : kD d) : opX (.tup xs) (.int i) kD := by unfold opX; simp only [e]; exact h
theorem oXL {xs : List D} {i : Int} {d : D} (e : ixd xs i = some d) (h : kD d) : opX (.lst xs) (.int i) kD := by unfold opX; simp only [e]; exact h
theorem oXR {xs : List Int} {i : Int} {d : D} (e : ixd (xs.map .int) i = some d) (h : kD d) : opX (.scr xs) (.int i) kD := by unfold opX; simp only [e]; exact h
theorem oItr {p : Bool} {A B : Prop} (ha : p = true → A) (hb : p = false → B) : if p = true then A else B := by
  cases p with
  | true => exact ha rfl
  | false => exact hb rfl
theorem oST {xs : List D} {lo hi : Option Int} (h : kD (.tup (cutd xs lo hi))) : opS (.tup xs) lo hi kD := h
theorem oSL {xs : List D} {lo hi : Option Int} (h : kD (.lst (cutd xs lo hi))) : opS (.lst xs) lo hi kD := h
theorem oZTT {xs ys : List D} (h : kL (zipD xs ys)) : opZp (.tup xs) (.tup ys) kL := h
theorem oZTL {xs ys : List D} (h : kL (zipD xs ys)) : opZp (.tup xs) (.lst ys) kL := h
theorem oZLT {xs ys : List D} (h : kL (zipD xs ys)) : opZp (.lst xs) (.tup ys) kL := h
theorem oZLL {xs ys : List D} (h : kL (zipD xs ys)) : opZp (.lst xs) (.lst ys) kL := h
theorem oET {xs : List D} (h : kL (enumD xs)) : opEn (.tup xs) kL := h
theorem oEL {xs : List D} (h : kL (enumD xs)) : opEn (.lst xs) kL := h
theorem iteT {p : Bool} {A B : Prop} (h : p = true) (a : A) : if p = true then A else B := by rw [if_pos h]; exact a
theorem iteF {p : Bool} {A B : Prop} (h : p = false) (b : B) : if p = true then A else B := by rw [h]; exact b
theorem bLenT {xs : List D} (h : kD (.int xs.length)) : bfun .len (.tup xs) kD := h
theorem bLenL {xs : List D} (h : kD (.int xs.length)) : bfun .len (.lst xs) kD := h
theorem bLenR {xs : List Int} (h : kD (.int xs.length)) : bfun .len (.scr xs) kD := h
theorem bAbs {a : Int} (h : kD (.int (if a < 0 then -a else a))) : bfun .abs (.int a) kD := h
theorem bList {xs : List D} (h : kD (.lst xs)) : bfun .list (.lst xs) kD := h
theorem bListT {xs : List D} (h : kD (.lst xs)) : bfun .list (.tup xs) kD := h
theorem bTup {xs : List D} (h : kD (.tup xs)) : bfun .tuple (.lst xs) kD := h
theorem bTupT {xs : List D} (h : kD (.tup xs)) : bfun .tuple (.tup xs) kD := h
end
theorem lc_map (g : D → D) (F : D → Nat → (Option D → Nat → Prop) → Prop) : ∀ (xs acc : List D) (n : Nat) (K : List D → Nat → Prop), (∀ d ∈ xs, ∀ kk, kk (some (g d)) n → F d n kk) → small (acc.length + xs.length) → K (acc ++ xs.map g) n → lcGo F xs acc n K
  | [], acc, n, K, _, _, h => by simpa [lcGo] using h
  | x :: xs, acc, n, K, hF, hs, h => by
    simp only [lcGo]
    refine hF x List.mem_cons_self _ ⟨?_, lc_map g F xs (acc ++ [g x]) n K (fun d hd => hF d (List.mem_cons_of_mem _ hd)) ?_ ?_⟩
    · unfold small at hs ⊢; simp at hs; omega
    · unfold small at hs ⊢; simp at hs ⊢; omega
    · simpa using h
theorem allInts_map (ns : List Int) : allInts (ns.map D.int) = some ns := by
  induction ns with
  | nil => rfl
  | cons n ns ih => simp [allInts, ih]
theorem allInts_append : ∀ {xs ys : List D} {a b : List Int}, allInts xs = some a → allInts ys = some b → allInts (xs ++ ys) = some (a ++ b)
  | [], ys, a, b, h1, h2 => by simp [allInts] at h1; subst h1; simpa using h2
  | x :: xs, ys, a, b, h1, h2 => by
    cases x <;> simp [allInts] at h1
    obtain ⟨a', h1, rfl⟩ := h1
    simp [allInts, allInts_append h1 h2]
theorem mul_ok {a b : Int} (h : a.natAbs < 2 ^ 200) (h' : b.natAbs < 2 ^ 200) : mulOk a b := ⟨Nat.lt_of_lt_of_le h (Nat.pow_le_pow_right (by decide) (by decide)), Nat.lt_of_lt_of_le h' (Nat.pow_le_pow_right (by decide) (by decide))⟩
theorem div_ok {b : Int} (h : b.natAbs < 2 ^ 200) : divOk b := Nat.lt_of_lt_of_le h (Nat.pow_le_pow_right (by decide) (by decide))
theorem mod_lt {a b : Int} (hb : 0 < b) : 0 ≤ a % b ∧ a % b < b := ⟨Int.emod_nonneg _ (by omega), Int.emod_lt_of_pos _ hb⟩
theorem nab {a : Int} (m : Nat) (h0 : 0 ≤ a) (h : a < (m : Int)) (hm : m ≤ 2 ^ 200) : a.natAbs < 2 ^ 200 := Nat.lt_of_lt_of_le (by omega) hm
/-- what is left to be shown of the law -/
def LawHolds (T : Nat → Option Df) (d : Nat) (body : SL) (N : Nat) : Prop := ∀ ns : List Int, ns.length ≤ 63 → evB (callW T d) body (initE [.scr ns, .st] N) 0 (fun _ _ => False) (fun v _ => v = .bl true) (fun _ _ => False)
end PV
end
section
set_option Elab.async false
set_option linter.all false
set_option maxRecDepth 100000
set_option maxHeartbeats 400000
namespace PV
open PySem
/-! ### states as plain lists -/
inductive GetAt : Nat → Env → Slot → Prop where
  | z {s : Slot} {l : Env} : GetAt 0 (s :: l) s
  | s {i : Nat} {a s : Slot} {l : Env} : GetAt i l s → GetAt (i + 1) (a :: l) s
inductive SetAt : Nat → Slot → Env → Env → Prop where
  | z {v a : Slot} {l : Env} : SetAt 0 v (a :: l) (v :: l)
  | s {i : Nat} {v a : Slot} {l l' : Env} : SetAt i v l l' → SetAt (i + 1) v (a :: l) (a :: l')
inductive KP : Env → List Nat → Env → Prop where
  | nil {e : Env} : KP e [] e
  | cons {e e1 e2 : Env} {v : Nat} {vs : List Nat} : KP e vs e1 → SetAt v .no e1 e2 → KP e (v :: vs) e2
mutual
inductive KT : TG → Env → Env → Prop where
  | nm {i : Nat} {e e' : Env} : SetAt i .no e e' → KT (.nm i) e e'
  | tp {ts : TGL} {e e' : Env} : KTL ts e e' → KT (.tp ts) e e'
inductive KTL : TGL → Env → Env → Prop where
  | nil {e : Env} : KTL .nil e e
  | cons {t : TG} {ts : TGL} {e e1 e2 : Env} : KTL ts e e1 → KT t e1 e2 → KTL (.cons t ts) e e2
end
mutual
inductive AP : TG → D → Env → Env → Prop where
  | nm {i : Nat} {d : D} {e e' : Env} : SetAt i (.val d) e e' → AP (.nm i) d e e'
  | tp {ts : TGL} {ds : List D} {e e' : Env} : APL ts ds e e' → AP (.tp ts) (.tup ds) e e'
inductive APL : TGL → List D → Env → Env → Prop where
  | nil {e : Env} : APL .nil [] e e
  | cons {t : TG} {ts : TGL} {d : D} {ds : List D} {e e1 e2 : Env} : AP t d e e1 → APL ts ds e1 e2 → APL (.cons t ts) (d :: ds) e e2
end
inductive IP : List D → Nat → Env → Prop where
  | n0 : IP [] 0 []
  | ns {n : Nat} {e : Env} : IP [] n e → IP [] (n + 1) (.no :: e)
  | c {d : D} {ds : List D} {n : Nat} {e : Env} : IP ds n e → IP (d :: ds) (n + 1) (.val d :: e)
theorem GetAt.eq {i : Nat} {env : Env} {s : Slot} (h : GetAt i env s) : gt env i = s := by
  induction h with
  | z => rfl
  | s _ ih => exact ih
theorem SetAt.eq {i : Nat} {v : Slot} {e e' : Env} (h : SetAt i v e e') : e' = e.set i v ∧ i < e.length := by
  induction h with
  | z => exact ⟨rfl, by simp⟩
  | s _ ih => exact ⟨by rw [ih.1]; rfl, by simp; exact ih.2⟩
theorem KP.eq {e e' : Env} {vs : List Nat} (h : KP e vs e') : killE e vs = e' := by
  induction h with
  | nil => rfl
  | cons _ h2 ih => rw [killE, ih, ← h2.eq.1]
theorem killE_app (e : Env) (a b : List Nat) : killE e (a ++ b) = killE (killE e b) a := by
  induction a with
  | nil => rfl
  | cons x a ih => simp only [List.cons_append, killE, ih]
mutual
theorem KT.eq : ∀ {t : TG} {e e' : Env}, KT t e e' → killE e t.slots = e'
  | _, _, _, .nm h => by simp only [TG.slots, killE]; exact h.eq.1.symm
  | _, _, _, .tp h => by simp only [TG.slots]; exact KTL.eq h
theorem KTL.eq : ∀ {t : TGL} {e e' : Env}, KTL t e e' → killE e t.slots = e'
  | _, _, _, .nil => rfl
  | _, _, _, .cons h1 h2 => by simp only [TGL.slots, killE_app]; rw [KTL.eq h1, KT.eq h2]
end
mutual
theorem AP.eq : ∀ {t : TG} {d : D} {e e' : Env}, AP t d e e' → asg t d e = some e'
  | _, _, _, _, .nm h => by simp only [asg]; rw [if_pos h.eq.2, h.eq.1]
  | _, _, _, _, .tp h => by simp only [asg]; exact APL.eq h
theorem APL.eq : ∀ {t : TGL} {ds : List D} {e e' : Env}, APL t ds e e' → asgL t ds e = some e'
  | _, _, _, _, .nil => rfl
  | _, _, _, _, .cons h1 h2 => by simp only [asgL, AP.eq h1]; exact APL.eq h2
end
theorem IP.eq {ds : List D} {n : Nat} {e : Env} (h : IP ds n e) : initE ds n = e := by
  unfold initE
  induction h with
  | n0 => rfl
  | @ns n e _ ih => simp at ih ⊢; rw [List.replicate_succ, ih]
  | @c d ds n e _ ih =>
    simp only [List.map_cons, List.length_cons, List.cons_append]
    rw [show n + 1 - (ds.length + 1) = n - ds.length by omega, ih]
section
variable {C : Cal} {env env' : Env} {n : Nat} {k : KD} {kE : Env → Nat → Prop} {r : KD} {x : KX} {t : Bool}
theorem vV {i : Nat} {d : D} (hz : GetAt i env (.val d)) (h : fin t k d n) : evE C (.v i) t env n k x := wV hz.eq h
theorem vVo {i : Nat} {ds : List D} (hz : GetAt i env (.own ds)) (h : k (.bl (!ds.isEmpty)) n) : evE C (.v i) true env n k x := wVo hz.eq h
theorem vAg {i : Nat} {e : X} {z : Int} (hz : GetAt i env (.val (.int z))) (h : evE C e false env n (fun q n' => opInt q fun y => setS i false (.int (z + y)) env fun env' => kE env' n') x) : evS C (.ag i e) env n kE r x := by
  refine wAg hz.eq ?_
  have e0 : (fun (q : D) (n' : Nat) => opInt q fun y => kE (env.set i (.val (.int (z + y)))) n') = fun q n' => opInt q fun y => setS i false (.int (z + y)) env fun env' => kE env' n' := by
    funext q n'
    congr 1
    funext y
    unfold setS
    have hi : i < env.length := by
      clear h
      generalize hs : Slot.val (.int z) = s at hz
      induction hz with
      | z => simp
      | s _ ih => simp; exact ih hs
    simp [hi, slotOf]
  rw [e0]; exact h
theorem vAp {i : Nat} {e : X} {ds : List D} (hz : GetAt i env (.own ds)) (h : evE C e false env n (fun d n' => small (ds.length + 1) ∧ setS i true (.lst (ds ++ [d])) env fun env' => kE env' n') x) : evS C (.ap i e) env n kE r x := by
  refine wAp hz.eq ?_
  have e0 : (fun (d : D) (n' : Nat) => small (ds.length + 1) ∧ kE (env.set i (.own (ds ++ [d]))) n') = fun d n' => small (ds.length + 1) ∧ setS i true (.lst (ds ++ [d])) env fun env' => kE env' n' := by
    funext q n'
    congr 1
    unfold setS
    have hi : i < env.length := by
      clear h
      generalize hs : Slot.own ds = s at hz
      induction hz with
      | z => simp
      | s _ ih => simp; exact ih hs
    simp [hi, slotOf]
  rw [e0]; exact h
theorem vSi {i : Nat} {a e : X} {ds : List D} (hz : GetAt i env (.own ds)) (h : evE C e false env n (fun d n' => evE C a false env n' (fun p n'' => opInt p fun z => 0 ≤ z ∧ z < ds.length ∧ kE (env.set i (.own (ds.set z.toNat d))) n'') x) x) : evS C (.si i a e) env n kE r x := wSi hz.eq h
theorem vOl {i : Nat} {ds : List D} (hz : GetAt i env (.own ds)) (h : fin t k (.int ds.length) n) : evE C (.ol i) t env n k x := wOl hz.eq h
theorem vOi {i : Nat} {a : X} {ds : List D} (hz : GetAt i env (.own ds)) (h : evE C a false env n (fun p n1 => slI (.own ds) p fun r => fin t k r n1) x) : evE C (.oi i a) t env n k x := wOi hz.eq h
theorem vSet {i : Nat} {d : D} {kS : Env → Prop} (hi : SetAt i (.val d) env env') (h : kS env') : setS i false d env kS := by
  obtain ⟨rfl, h2⟩ := hi.eq
  exact ⟨h2, (fun z => nomatch z), by rw [slot_f]; exact h⟩
theorem vSetO {i : Nat} {ds : List D} {kS : Env → Prop} (hi : SetAt i (.own ds) env env') (h : kS env') : setS i true (.lst ds) env kS := by
  obtain ⟨rfl, h2⟩ := hi.eq
  exact ⟨h2, fun _ => ⟨ds, rfl⟩, h⟩
theorem vA {tg : TG} {d : D} {kA : Env → Prop} (e : AP tg d env env') (h : kA env') : opA (asg tg d env) kA := wA e.eq h
theorem freeze_cons {i : Nat} {is : List Nat} : freeze env (i :: is) = (match gt (freeze env is) i with
    | .own ds => (freeze env is).set i (.val (.lst ds))
    | _ => freeze env is) := rfl
inductive FP : Env → List Nat → Env → Prop where
  | nil {e : Env} : FP e [] e
  | cons {e e1 e2 : Env} {v : Nat} {vs : List Nat} {ds : List D} : FP e vs e1 → GetAt v e1 (.own ds) → SetAt v (.val (.lst ds)) e1 e2 → FP e (v :: vs) e2
theorem FP.eq {e e' : Env} {vs : List Nat} (h : FP e vs e') : freeze e vs = e' := by
  induction h with
  | nil => rfl
  | cons _ h2 h3 ih => rw [freeze_cons, ih, h2.eq]; exact h3.eq.1.symm
theorem vFz {is : List Nat} (hf : FP env is env') (h : kE env' n) : evS C (.fz is) env n kE r x := wFz (by rw [hf.eq]; exact h)
end
/-! ### more rules -/
section
variable {C : Cal} {env : Env} {n : Nat} {k : KD} {kE : Env → Nat → Prop} {r : KD} {x : KX} {t : Bool}
theorem wCaF {f : Nat} {es : XL} (h : evL C es env n (fun ds n1 => C f ds n1 k x) x) : evE C (.ca f es) false env n k x := by
  simp only [evE]
  have e : k = fin false k := by funext d n; exact fin_f.symm
  rw [← e]; exact h
end
section
variable {kD : D → Prop} {kB : Bool → Prop} {kL : List D → Prop} {P : Prop}
theorem oIs {a : D} (h : kB a.isNon) : op1 .is a .non kB := h
theorem oIsn {a : D} (h : kB (!a.isNon)) : op1 .isn a .non kB := h
theorem aSm {n : Nat} (h : small n) (p : P) : small n ∧ P := ⟨h, p⟩
theorem aMem {c : Str} {l : List Str} (h : c ∈ l) (p : P) : c ∈ l ∧ P := ⟨h, p⟩
theorem aTop {c : Nat} (h : c ≤ 10000000) (p : P) : c ≤ 10000000 ∧ P := ⟨h, p⟩
theorem allStrs_map : ∀ ys : List Str, allStrs (ys.map D.str) = some ys
  | [] => rfl
  | y :: ys => by simp [allStrs, allStrs_map ys]
theorem oJn {s : Str} {ys : List Str} (hs : (ys.map (·.length)).sum + ys.length * s.length ≤ 16777216) (h : kD (.str (Str.join s ys))) : opJ s (.lst (ys.map D.str)) kD := ⟨ys, allStrs_map ys, hs, h⟩
theorem oMulS {a : Str} {b : Int} (h1 : small (a.length * b.toNat)) (h2 : b.natAbs ≤ 1000000) (h : kD (.str (repS a b.toNat))) : op2 .mul (.str a) (.int b) kD := ⟨h1, h2, h⟩
theorem oCatS {a b : Str} (hs : small (a.length + b.length)) (h : kD (.str (a ++ b))) : op2 .add (.str a) (.str b) kD := ⟨hs, h⟩
theorem bIntS {a : Str} (h1 : a.cps.toList ≠ []) (h2 : ∀ c ∈ a.cps.toList, 48 ≤ c ∧ c ≤ 57) (h3 : a.length ≤ 640) (h : kD (.int (dgv a.cps.toList))) : bfun .int (.str a) kD := ⟨h1, h2, h3, h⟩
theorem bIntI {i : Int} (h : kD (.int i)) : bfun .int (.int i) kD := h
theorem bIntB {b : Bool} (h : kD (.int (if b then 1 else 0))) : bfun .int (.bl b) kD := h
theorem oRng {n : Nat} (h : n ≤ 1000000) (hk : kL ((List.range n).map fun i : Nat => D.int i)) : opR1 (.int n) kL := by
  refine ⟨by omega, by omega, ?_⟩
  rw [Int.toNat_natCast]
  have e : rangeD 0 n = (List.range n).map fun i : Nat => D.int i := by
    unfold rangeD
    refine List.map_congr_left fun i _ => ?_
    rw [Int.zero_add]
  rw [e]; exact hk
theorem oRng2 {a b : Nat} (ha : a ≤ 1000000) (hb : b ≤ 1000000) (hk : kL ((List.range (b - a)).map fun i : Nat => D.int ((a + i : Nat) : Int))) : opR2 (.int a) (.int b) kL := by
  refine ⟨by omega, by omega, by omega, by omega, ?_⟩
  have e : rangeD a ((b : Int) - a).toNat = (List.range (b - a)).map fun i : Nat => D.int ((a + i : Nat) : Int) := by
    unfold rangeD
    have : ((b : Int) - a).toNat = b - a := by omega
    rw [this]
    refine List.map_congr_left fun i _ => ?_
    simp
  rw [e]; exact hk
theorem oRng2s {a b : Nat} (ha : a + 1 ≤ 1000000) (hb : b ≤ 1000000) (hk : kL ((List.range (b - (a + 1))).map fun i : Nat => D.int ((a + 1 + i : Nat) : Int))) : opR2 (.int ((a : Int) + 1)) (.int b) kL := oRng2 (a := a + 1) ha hb hk
end
/-! ### walks over mapped lists -/
theorem zipM {α β : Type} (l : List α) (m : List β) (f : α → D) (g : β → D) : zipD (l.map f) (m.map g) = (l.zip m).map fun p => D.tup [f p.1, g p.2] := by
  unfold zipD
  rw [List.zip_map, List.map_map]; rfl
theorem zipS {α : Type} (l : List α) (f g : α → D) : zipD (l.map f) (l.map g) = l.map fun a => D.tup [f a, g a] := by
  rw [zipM]
  induction l with
  | nil => rfl
  | cons a l ih => simp only [List.zip_cons_cons, List.map_cons, ih]
theorem enumM {α : Type} (l : List α) (f : α → D) : enumD (l.map f) = l.zipIdx.map fun p => D.tup [.int (p.2 : Nat), f p.1] := by
  unfold enumD
  rw [List.zipIdx_map, List.map_map]; rfl
theorem enumR (u : Nat) (f : Nat → D) : enumD ((List.range u).map f) = (List.range u).map fun i => D.tup [.int (i : Nat), f i] := by
  refine List.ext_getElem (by simp [enumD]) fun i h1 h2 => ?_
  simp [enumD]
theorem ixM {α : Type} {l : List α} {f : α → D} {i : Nat} (h : i < l.length) : ixd (l.map f) i = some (f l[i]) := by
  unfold ixd
  rw [if_pos (by omega), Int.toNat_natCast, List.getElem?_map, List.getElem?_eq_getElem h]; rfl
theorem ixR {u : Nat} {f : Nat → D} {i : Nat} (h : i < u) : ixd ((List.range u).map f) i = some (f i) := by
  rw [ixM (by simpa using h)]; simp
theorem ixNat0 {xs : List D} {i : Nat} {d : D} (h : xs[i]? = some d) : ixd xs i = some d := by
  unfold ixd
  rw [if_pos (by omega), Int.toNat_natCast]; exact h
section
variable {kD : D → Prop}
theorem oXMt {α : Type} {l : List α} {f : α → D} {i : Nat} (h : i < l.length) (hk : kD (f l[i])) : opX (.tup (l.map f)) (.int i) kD := oXT (ixM h) hk
theorem oXMl {α : Type} {l : List α} {f : α → D} {i : Nat} (h : i < l.length) (hk : kD (f l[i])) : opX (.lst (l.map f)) (.int i) kD := oXL (ixM h) hk
theorem oXRt {u : Nat} {f : Nat → D} {i : Nat} (h : i < u) (hk : kD (f i)) : opX (.tup ((List.range u).map f)) (.int i) kD := oXT (ixR h) hk
theorem oXRl {u : Nat} {f : Nat → D} {i : Nat} (h : i < u) (hk : kD (f i)) : opX (.lst ((List.range u).map f)) (.int i) kD := oXL (ixR h) hk
theorem bSumM {α : Type} {l : List α} {f : α → Int} (h : kD (.int (l.map f).sum)) : bfun .sum (.lst (l.map fun a => .int (f a))) kD := by
  refine ⟨l.map f, ?_, h⟩
  rw [show (l.map fun a => D.int (f a)) = (l.map f).map D.int by rw [List.map_map]; rfl]; exact allInts_map _
theorem bSumT {α : Type} {l : List α} {f : α → Int} (h : kD (.int (l.map f).sum)) : bfun .sum (.tup (l.map fun a => .int (f a))) kD := by
  refine ⟨l.map f, ?_, h⟩
  rw [show (l.map fun a => D.int (f a)) = (l.map f).map D.int by rw [List.map_map]; rfl]; exact allInts_map _
theorem allBlsM {α : Type} (p : α → Bool) (xs : List α) : allBls (xs.map fun x => .bl (p x)) = some (xs.map p) := by
  induction xs with
  | nil => rfl
  | cons x xs ih => simp [allBls, ih]
theorem bAllM {α : Type} {p : α → Bool} {xs : List α} (h : kD (.bl (xs.all p))) : bfun .all (.lst (xs.map fun x => .bl (p x))) kD := ⟨_, allBlsM p xs, by rw [List.all_map]; exact h⟩
theorem bAnyM {α : Type} {p : α → Bool} {xs : List α} (h : kD (.bl (xs.any p))) : bfun .any (.lst (xs.map fun x => .bl (p x))) kD := ⟨_, allBlsM p xs, by rw [List.any_map]; exact h⟩
end
section
variable {α : Type} {C : Cal} {n : Nat} {x : KX}
/-- a comprehension without test -/
theorem lcM {e : X} {tg : TG} {env : Env} {K : List D → Nat → Prop} {l : List α} {emb res : α → D} {ev : α → Env} (hs : l.length ≤ 1000000) {env1 : Env} (hkt : KT tg env env1) (ha : ∀ a ∈ l, AP tg (emb a) env1 (ev a))
    (hF : ∀ a ∈ l, ∀ kk : KD, kk (res a) n → evE C e false (ev a) n kk (fun _ _ => False)) (h : K (l.map res) n) : lcGo (lcF C e tg .no env) (l.map emb) [] n K := by
  have key : ∀ (l2 : List α) (acc : List D), (∀ a ∈ l2, a ∈ l) → acc.length + l2.length ≤ 1000000 → K (acc ++ l2.map res) n → lcGo (lcF C e tg .no env) (l2.map emb) acc n K := by
    intro l2
    induction l2 with
    | nil => intro acc _ _ h; simpa [lcGo] using h
    | cons a l2 ih =>
      intro acc hm hl h
      simp only [List.map_cons, lcGo, lcF]
      refine wA (by rw [hkt.eq]; exact (ha a (hm a List.mem_cons_self)).eq) (wC0 ?_)
      rw [if_pos rfl]
      refine hF a (hm a List.mem_cons_self) _ ⟨?_, ih _ (fun b hb => hm b (List.mem_cons_of_mem _ hb)) ?_ ?_⟩
      · unfold small; simp at hl; omega
      · simp at hl ⊢; omega
      · simpa using h
  exact key l [] (fun a h => h) (by simpa using hs) (by simpa using h)
/-- .. with a test -/
theorem lcT {e c : X} {tg : TG} {env : Env} {K : List D → Nat → Prop} {l : List α} {emb res : α → D} {p : α → Bool} {ev : α → Env} (hs : l.length ≤ 1000000) {env1 : Env} (hkt : KT tg env env1) (ha : ∀ a ∈ l, AP tg (emb a) env1 (ev a))
    (hC : ∀ a ∈ l, ∀ kk : KD, kk (.bl (p a)) n → evE C c true (ev a) n kk (fun _ _ => False))
    (hF : ∀ a ∈ l, p a = true → ∀ kk : KD, kk (res a) n → evE C e false (ev a) n kk (fun _ _ => False)) (h : K ((l.filter p).map res) n) : lcGo (lcF C e tg (.so c) env) (l.map emb) [] n K := by
  have key : ∀ (l2 : List α) (acc : List D), (∀ a ∈ l2, a ∈ l) → acc.length + l2.length ≤ 1000000 → K (acc ++ (l2.filter p).map res) n → lcGo (lcF C e tg (.so c) env) (l2.map emb) acc n K := by
    intro l2
    induction l2 with
    | nil => intro acc _ _ h; simpa [lcGo] using h
    | cons a l2 ih =>
      intro acc hm hl h
      simp only [List.map_cons, lcGo, lcF]
      refine wA (by rw [hkt.eq]; exact (ha a (hm a List.mem_cons_self)).eq) (wC ?_)
      refine hC a (hm a List.mem_cons_self) _ ?_
      refine wKb ?_
      by_cases hp : p a = true
      · rw [if_pos hp]
        refine hF a (hm a List.mem_cons_self) hp _ ⟨?_, ih _ (fun b hb => hm b (List.mem_cons_of_mem _ hb)) ?_ ?_⟩
        · unfold small; simp at hl; omega
        · simp at hl ⊢; omega
        · rw [List.filter_cons_of_pos hp] at h; simpa using h
      · rw [if_neg hp]
        refine ih _ (fun b hb => hm b (List.mem_cons_of_mem _ hb)) ?_ ?_
        · simp at hl ⊢; omega
        · rw [List.filter_cons_of_neg hp] at h; exact h
  exact key l [] (fun a h => h) (by simpa using hs) (by simpa using h)
/-- .. that draws -/
theorem lcD {β : Type} (P : β → Prop) (emb2 : β → D) (c : Nat) {e : X} {tg : TG} {env : Env} {K : List D → Nat → Prop} {l : List α} {emb : α → D} {ev : α → Env} (hs : l.length ≤ 1000000) {env1 : Env} (hkt : KT tg env env1) (ha : ∀ a ∈ l, AP tg (emb a) env1 (ev a))
    (hF : ∀ a ∈ l, ∀ m, n ≤ m → m + c ≤ n + c * l.length → ∀ kk : KD, (∀ b m2, P b → m ≤ m2 → m2 ≤ m + c → kk (emb2 b) m2) → evE C e false (ev a) m kk (fun _ _ => False))
    (h : ∀ (bs : List β) (m : Nat), bs.length = l.length → (∀ b ∈ bs, P b) → n ≤ m → m ≤ n + c * l.length → K (bs.map emb2) m) : lcGo (lcF C e tg .no env) (l.map emb) [] n K := by
  have key : ∀ (l2 : List α) (acc : List β) (m : Nat), (∀ a ∈ l2, a ∈ l) → (∀ b ∈ acc, P b) → acc.length + l2.length = l.length → n ≤ m → m + c * l2.length ≤ n + c * l.length → lcGo (lcF C e tg .no env) (l2.map emb) (acc.map emb2) m K := by
    intro l2
    induction l2 with
    | nil =>
      intro acc m _ hP hl h1 h2
      simp only [List.map_nil, lcGo]
      exact h acc m (by simpa using hl) hP h1 (by simpa using h2)
    | cons a l2 ih =>
      intro acc m hm hP hl h1 h2
      simp only [List.map_cons, lcGo, lcF]
      rw [List.length_cons, Nat.mul_succ] at h2
      refine wA (by rw [hkt.eq]; exact (ha a (hm a List.mem_cons_self)).eq) (wC0 ?_)
      rw [if_pos rfl]
      refine hF a (hm a List.mem_cons_self) m h1 (by omega) _ fun b m2 hb h3 h4 => ⟨?_, ?_⟩
      · unfold small; simp at hl ⊢; omega
      · have := ih (acc ++ [b]) m2 (fun b hb => hm b (List.mem_cons_of_mem _ hb)) (fun b2 hb2 => by
          rcases List.mem_append.mp hb2 with q | q
          · exact hP _ q
          · rw [List.mem_singleton] at q; subst q; exact hb) (by simp at hl ⊢; omega) (by omega) (by omega)
        simpa using this
  exact key l [] n (fun a h => h) (fun b hb => by cases hb) (by simp) (Nat.le_refl _) (Nat.le_refl _)
/-- a loop that leaves the state as it was -/
theorem forC {t : TG} {body : SL} {r : KD} {kl : List Nat} {env env0 : Env} {K : Env → Nat → Prop} {l : List α} {emb : α → D} (he : KP env0 kl env)
    (hF : ∀ a ∈ l, ∀ kk : Env → Nat → Prop, (∀ env', KP env' kl env → kk env' n) → forF C t body r x (emb a) env n kk) (h : K env n) : forGo (forF C t body r x) kl (l.map emb) env0 n K := by
  have key : ∀ (l2 : List α) (env1 : Env), (∀ a ∈ l2, a ∈ l) → killE env1 kl = env → forGo (forF C t body r x) kl (l2.map emb) env1 n K := by
    intro l2
    induction l2 with
    | nil => intro env1 _ he; simp only [List.map_nil, forGo]; rw [he]; exact h
    | cons a l2 ih =>
      intro env1 hm he
      simp only [List.map_cons, forGo]
      rw [he]
      exact hF a (hm a List.mem_cons_self) _ fun env' he' => ih env' (fun b hb => hm b (List.mem_cons_of_mem _ hb)) he'.eq
  exact key l env0 (fun a h => h) he.eq
/-- .. that draws -/
theorem forD (c : Nat) {t : TG} {body : SL} {r : KD} {kl : List Nat} {env env0 : Env} {K : Env → Nat → Prop} {l : List α} {emb : α → D} (he : KP env0 kl env)
    (hF : ∀ a ∈ l, ∀ m, n ≤ m → m + c ≤ n + c * l.length → ∀ kk : Env → Nat → Prop, (∀ env' m2, KP env' kl env → m ≤ m2 → m2 ≤ m + c → kk env' m2) → forF C t body r x (emb a) env m kk) (h : ∀ m, n ≤ m → m ≤ n + c * l.length → K env m) : forGo (forF C t body r x) kl (l.map emb) env0 n K := by
  have key : ∀ (l2 : List α) (env1 : Env) (m : Nat), (∀ a ∈ l2, a ∈ l) → killE env1 kl = env → n ≤ m → m + c * l2.length ≤ n + c * l.length → forGo (forF C t body r x) kl (l2.map emb) env1 m K := by
    intro l2
    induction l2 with
    | nil => intro env1 m _ he h1 h2; simp only [List.map_nil, forGo]; rw [he]; exact h m h1 (by simpa using h2)
    | cons a l2 ih =>
      intro env1 m hm he h1 h2
      simp only [List.map_cons, forGo]
      rw [List.length_cons, Nat.mul_succ] at h2
      rw [he]
      exact hF a (hm a List.mem_cons_self) m h1 (by omega) _ fun env' m2 he' h3 h4 => ih env' m2 (fun b hb => hm b (List.mem_cons_of_mem _ hb)) he'.eq (by omega) (by omega)
  exact key l env0 n (fun a h => h) he.eq (Nat.le_refl _) (Nat.le_refl _)
/-- a loop that appends -/
theorem forA (E : List D → Env) (res : α → List D) {acc0 : List D} {t : TG} {body : SL} {r : KD} {kl : List Nat} {env0 : Env} {K : Env → Nat → Prop} {l : List α} {emb : α → D} (he : KP env0 kl (E acc0))
    (hF : ∀ acc, ∀ a ∈ l, acc.length + (res a).length ≤ acc0.length + (l.flatMap res).length → ∀ kk : Env → Nat → Prop, (∀ env', KP env' kl (E (acc ++ res a)) → kk env' n) → forF C t body r x (emb a) (E acc) n kk) (h : K (E (acc0 ++ l.flatMap res)) n) : forGo (forF C t body r x) kl (l.map emb) env0 n K := by
  have key : ∀ (l2 : List α) (env1 : Env) (acc : List D), (∀ a ∈ l2, a ∈ l) → killE env1 kl = E acc → acc ++ l2.flatMap res = acc0 ++ l.flatMap res → forGo (forF C t body r x) kl (l2.map emb) env1 n K := by
    intro l2
    induction l2 with
    | nil => intro env1 acc _ he hq; simp only [List.map_nil, forGo]; rw [he]; rw [← hq] at h; simpa using h
    | cons a l2 ih =>
      intro env1 acc hm he hq
      simp only [List.map_cons, forGo]
      rw [he]
      refine hF acc a (hm a List.mem_cons_self) ?_ _ fun env' he' => ih env' (acc ++ res a) (fun b hb => hm b (List.mem_cons_of_mem _ hb)) he'.eq (by rw [← hq]; simp)
      have := congrArg List.length hq
      simp only [List.length_append, List.flatMap_cons] at this ⊢
      omega
  exact key l env0 acc0 (fun a h => h) he.eq rfl
/-- a loop with a state -/
theorem forS {σ : Type} (E : σ → Env) (f : σ → α → σ) (I : σ → Prop) {s0 : σ} {t : TG} {body : SL} {r : KD} {kl : List Nat} {env0 : Env} {K : Env → Nat → Prop} {l : List α} {emb : α → D} (he : KP env0 kl (E s0)) (h0 : I s0) (hI : ∀ s, I s → ∀ a ∈ l, I (f s a))
    (hF : ∀ s, I s → ∀ a ∈ l, ∀ kk : Env → Nat → Prop, (∀ env', KP env' kl (E (f s a)) → kk env' n) → forF C t body r x (emb a) (E s) n kk) (h : I (l.foldl f s0) → K (E (l.foldl f s0)) n) : forGo (forF C t body r x) kl (l.map emb) env0 n K := by
  have key : ∀ (l2 : List α) (env1 : Env) (s : σ), (∀ a ∈ l2, a ∈ l) → killE env1 kl = E s → I s → l2.foldl f s = l.foldl f s0 → forGo (forF C t body r x) kl (l2.map emb) env1 n K := by
    intro l2
    induction l2 with
    | nil => intro env1 s _ he hi hq; simp only [List.map_nil, forGo]; rw [he]; rw [← hq] at h; exact h hi
    | cons a l2 ih =>
      intro env1 s hm he hi hq
      simp only [List.map_cons, forGo]
      rw [he]
      exact hF s hi a (hm a List.mem_cons_self) _ fun env' he' => ih env' _ (fun b hb => hm b (List.mem_cons_of_mem _ hb)) he'.eq (hI s hi a (hm a List.mem_cons_self)) hq
  exact key l env0 s0 (fun a h => h) he.eq h0 rfl
end
section
variable {C : Cal} {n : Nat} {x : KX}
theorem forCI {t : TG} {body : SL} {r : KD} {kl : List Nat} {env env0 : Env} {K : Env → Nat → Prop} {xs : List D} (he : KP env0 kl env)
    (hF : ∀ a ∈ xs, ∀ kk : Env → Nat → Prop, (∀ env', KP env' kl env → kk env' n) → forF C t body r x a env n kk) (h : K env n) : forGo (forF C t body r x) kl xs env0 n K := by
  have := forC (l := xs) (emb := id) (K := K) he hF h
  rwa [List.map_id] at this
theorem lcMI {e : X} {tg : TG} {env : Env} {K : List D → Nat → Prop} {xs : List D} {res : D → D} {ev : D → Env} (hs : xs.length ≤ 1000000) {env1 : Env} (hkt : KT tg env env1) (ha : ∀ a ∈ xs, AP tg a env1 (ev a))
    (hF : ∀ a ∈ xs, ∀ kk : KD, kk (res a) n → evE C e false (ev a) n kk (fun _ _ => False)) (h : K (xs.map res) n) : lcGo (lcF C e tg .no env) xs [] n K := by
  have := lcM (l := xs) (emb := id) (K := K) hs hkt ha hF h
  rwa [List.map_id] at this
end
theorem cut_one (xs : List D) : cutd xs (some 1) none = xs.drop 1 := by
  unfold cutd cutIx
  cases xs with
  | nil => rfl
  | cons x xs => simp
theorem oST1 {xs : List D} {kD : D → Prop} (h : kD (.tup (xs.drop 1))) : opS (.tup xs) (some 1) none kD := oST (by rw [cut_one]; exact h)
theorem oSL1 {xs : List D} {kD : D → Prop} (h : kD (.lst (xs.drop 1))) : opS (.lst xs) (some 1) none kD := oSL (by rw [cut_one]; exact h)
/-! ### dicts of one's own -/
section
variable {C : Cal} {env env' : Env} {n : Nat} {k : KD} {kE : Env → Nat → Prop} {r : KD} {x : KX} {t : Bool}
theorem vOgD {i : Nat} {a b : X} {lk : Bool} {kvs : List (List Int × D)} (hz : GetAt i env (.dct lk kvs)) (h : evE C a false env n (fun p n1 => evE C b false env n1 (fun q n2 => ∃ s, dkey p = some s ∧ fin t k ((dvl kvs s).getD q) n2) x) x) : evE C (.og i a b) t env n k x := by
  simp only [evE, hz.eq, dctK]; exact h
theorem vOgx {i : Nat} {a : X} {lk : Bool} {kvs : List (List Int × D)} (hz : GetAt i env (.dct lk kvs)) (h : evE C a false env n (fun p n1 => ∃ s d, dkey p = some s ∧ dvl kvs s = some d ∧ fin t k d n1) x) : evE C (.ogx i a) t env n k x := by
  simp only [evE, hz.eq, dctK]; exact h
theorem vDk {i : Nat} {kvs : List (List Int × D)} {kI : List D → Nat → Prop} (hz : GetAt i env (.dct true kvs)) (h : kI (dkD kvs) n) : evI C (.dk i) env n kI x := by
  simp only [evI, hz.eq, dctK]; exact ⟨trivial, h⟩
theorem vDn {i : Nat} (hz : SetAt i (.dct false []) env env') (h : kE env' n) : evS C (.dn i) env n kE r x := by
  simp only [evS]
  exact ⟨hz.eq.2, by rw [← hz.eq.1]; exact h⟩
theorem vDs {i : Nat} {a e : X} {kvs : List (List Int × D)} (hz : GetAt i env (.dct false kvs)) (h : evE C e false env n (fun d n' => evE C a false env n' (fun p n'' => ∃ s, dkey p = some s ∧ small kvs.length ∧ kE (env.set i (.dct false (dput kvs s d))) n'') x) x) : evS C (.ds i a e) env n kE r x := by
  simp only [evS]
  exact ⟨kvs, hz.eq, h⟩
theorem vLk {i : Nat} {kvs : List (List Int × D)} (hz : GetAt i env (.dct false kvs)) (hs : SetAt i (.dct true kvs) env env') (h : kE env' n) : evS C (.lk i) env n kE r x := by
  simp only [evS]
  exact ⟨kvs, hz.eq, by rw [← hs.eq.1]; exact h⟩
end
section
variable {C : Cal} {env env' env2 : Env} {n : Nat} {k : KD} {kE : Env → Nat → Prop} {r : KD} {x : KX} {t : Bool}
theorem wLirL {it : IT} (h : evI C it env n (fun xs n1 => small xs.length ∧ fin t k (.lst xs) n1) x) : evE C (.lir false it) t env n k x := by simp only [evE]; simpa using h
theorem wLirT {it : IT} (h : evI C it env n (fun xs n1 => small xs.length ∧ fin t k (.tup xs) n1) x) : evE C (.lir true it) t env n k x := by simp only [evE]; simpa using h
theorem wJn {s : Str} {a : X} (h : evE C a false env n (fun p n1 => opJ s p fun r => fin t k r n1) x) : evE C (.jn s a) t env n k x := by simp only [evE]; exact h
theorem wMn {a b : X} (h : evE C a false env n (fun p n1 => evE C b false env n1 (fun q n2 => opMn p q fun r => fin t k r n2) x) x) : evE C (.mn a b) t env n k x := by simp only [evE]; exact h
theorem wDg {a b c : X} (h : evE C a false env n (fun p n1 => opD p fun kvs => evE C b false env n1 (fun q n2 => evE C c false env n2 (fun r n3 => ∃ s, dkey q = some s ∧ fin t k ((dvl kvs s).getD r) n3) x) x) x) : evE C (.dg a b c) t env n k x := by simp only [evE]; exact h
theorem oMn {i j : Int} {kD : D → Prop} (h : kD (.int (if j < i then j else i))) : opMn (.int i) (.int j) kD := h
theorem wDa {i : Nat} {e : X} (h : evE C e false env n (fun d n' => opD d fun kvs => i < env.length ∧ kE (env.set i (.dct false kvs)) n') x) : evS C (.da i e) env n kE r x := by simp only [evS]; exact h
theorem vPd {i j : Nat} {oj : Bool} {e : X} (hz : SetAt i (.dct false []) env env') (h : evE C e false env n (fun d n' => setS j oj d env' fun env2 => kE env2 n') x) : evS C (.pd i j oj e) env n kE r x := by
  simp only [evS]
  obtain ⟨e1, e2⟩ := hz.eq
  rw [e1] at h
  have : (fun d n' => i < env.length ∧ setS j oj d (env.set i (.dct false [])) fun env2 => kE env2 n') = fun d n' => setS j oj d (env.set i (.dct false [])) fun env2 => kE env2 n' := by
    funext d n'
    exact propext ⟨fun q => q.2, fun q => ⟨e2, q⟩⟩
  rw [this]
  exact h
theorem vOin {i : Nat} {a : X} {lk : Bool} {kvs : List (List Int × D)} (hz : GetAt i env (.dct lk kvs)) (h : evE C a false env n (fun p n1 => ∃ s, dkey p = some s ∧ k (.bl (dvl kvs s).isSome) n1) x) : evE C (.oin i a) t env n k x := by
  simp only [evE, hz.eq, dctK]; exact h
end
end PV
end
section
set_option Elab.async false
set_option linter.all false
set_option maxRecDepth 100000
set_option maxHeartbeats 4000000
/-! tuples made anew, told with their object where one asks for it -/
namespace PV
open PySem PySem.Spec PyProof.Rows L2
def PTo (b : Bool) (o : Obj) (xs : List V) : HO := if b then .frz o (.tup xs) else .tup xs
/-- a tuple at a; with b its object is known to have no attributes -/
def PTh (b : Bool) (G : Hp) (a : Addr) (xs : List V) : Prop := ∃ o : Obj, o.dict = none ∧ G a = some (PTo b o xs)
theorem PTh.mono {b : Bool} {G G' : Hp} {a : Addr} {xs : List V} (h : PTh b G a xs) (e : Same G G') : PTh b G' a xs := let ⟨o, h1, h2⟩ := h; ⟨o, h1, e _ _ h2⟩
theorem PTh.rd {b : Bool} {G H : Hp} {a : Addr} {xs : List V} (h : PTh b G a xs) (e : Same G H) : Rd H a (.tup xs) := by
  obtain ⟨o, _, h⟩ := h
  cases b with
  | false => exact .inl (e _ _ h)
  | true => exact .inr ⟨o, e _ _ h⟩
theorem PTh.at0 {G : Hp} {a : Addr} {xs : List V} (h : PTh false G a xs) : G a = some (.tup xs) := let ⟨_, _, h⟩ := h; h
theorem PTh.of0 {G : Hp} {a : Addr} {xs : List V} (h : G a = some (.tup xs)) : PTh false G a xs := ⟨{ cls := .none, data := .seq #[] 0 }, rfl, h⟩
theorem PTh.ne {b : Bool} {G : Hp} {a : Addr} {xs : List V} (h : PTh b G a xs) {u : HO} (e : G a = some u) (n1 : ∀ ys, u ≠ .tup ys) (n2 : ∀ o ys, u ≠ .frz o (.tup ys)) : False := by
  obtain ⟨o, _, h⟩ := h
  rw [e] at h
  cases b with
  | false => exact n1 _ (Option.some.inj h)
  | true => exact n2 _ _ (Option.some.inj h)
theorem PTh.inj {b b' : Bool} {G : Hp} {a : Addr} {xs ys : List V} (h : PTh b G a xs) (h' : PTh b' G a ys) : xs = ys := by
  obtain ⟨o, _, h⟩ := h
  obtain ⟨o', _, h'⟩ := h'
  rw [h] at h'
  cases b <;> cases b' <;> (have e := Option.some.inj h'; simp [PTo] at e)
  · exact e
  · exact e.2
section
variable {P : Program} {w : World} {H : Hp} {h : Heap} {a : Addr} {xs : List V} {its : List Value} {b : Bool} {ob : Obj}
theorem okT (e : h.get? a = some ob) (hc : ob.cls = .type "tuple") {n : Nat} (hd : ob.data = .seq its.toArray n) (hz : xs.length ≤ sizeLine) (r : Vals xs its) : ObjOk P w H h a (PTo b ob xs) := by
  cases b with
  | false => exact ⟨hz, its, r, ob, e, hc, n, hd⟩
  | true => exact ⟨e, hz, its, r, ob, e, hc, n, hd⟩
end
abbrev newT (H : Hp) (Q : VK) (ys : List V) : Prop := ∃ b : Bool, ∀ p o, H p = none → o.dict = none → Q (.ref p) (upd H p (PTo b o ys))
section
variable {X : Cx} {es : List Expr} {t : TA} {pos : Pos}
def tTupB (t : TA) : TE := fun σ H Q => t σ H fun xs H1 => xs.length ≤ sizeLine ∧ newT H1 Q xs
theorem pe_tupB {x1} (h : PA X es t) : PE X (.Tuple es x1 pos) (tTupB t) := by
  refine ⟨fun pins s σ H Q I hq => ?_⟩
  refine wpAny_Tuple_spliced (thn (h.run pos pins s σ H _ I hq) fun us s1 ⟨xs, H1, I1, r, z, b, q⟩ => ⟨by rw [← r.length]; exact z, ?_⟩)
  have hf : H1 s1.heap.objs.size = none := I1.hok.fresh (Nat.le_refl _)
  exact ⟨.ref s1.heap.objs.size, _, I1.laid (t' := s1.toks) (fun b u e => Heap.get?_push_of_some _ e) (Nat.le_refl _) (okT (b := b) (Heap.get?_push_size _ rfl) rfl rfl z r), rfl, q _ _ hf rfl⟩
theorem call_tuple_ofB : CallR X (.type "tuple") (fun xs H Q => ∃ p ys, xs = [.ref p] ∧ ((SqL X.K H p ys ∧ newT H Q ys) ∨ (SqT X.K H p ys ∧ Q (.ref p) H))) := by
  intro pins s σ H xs us Q I r h
  obtain ⟨p, ys, rfl, h⟩ := h
  obtain ⟨u, rfl, rx⟩ := vals1 r
  cases rx
  rcases h with ⟨hq, b, q⟩ | ⟨hq, q⟩
  · obtain ⟨its, r', pl, hz⟩ := I.list hq
    have hlen := r'.length
    refine call_tuple_list pl.isList (fun h' kp => ?_) (by simp only [List.size_toArray] <;> omega)
    have I1 : Inv X pins σ H { s with heap := h' } := I.kept (t' := s.toks) kp
    exact ⟨.ref h'.objs.size, _, I1.laid (t' := s.toks) (fun b o e => Heap.get?_push_of_some _ e) (Nat.le_refl _) (okT (b := b) (Heap.get?_push_size _ rfl) rfl rfl hz r'), rfl, q _ _ (I1.hok.fresh (Nat.le_refl _)) rfl⟩
  · obtain ⟨its, r', pl, hz⟩ := I.tuple hq
    exact call_tuple_same pl ⟨.ref p, H, I, rfl, q⟩
def rCatB (K : PySem.W.Frag) : R2 := fun x y H Q => ∃ a b xs ys, x = .ref a ∧ y = .ref b ∧ SqT K H a xs ∧ SqT K H b ys ∧ xs.length + ys.length ≤ sizeLine ∧
  (xs = [] → Q (.ref b) H) ∧ (xs ≠ [] → ys = [] → Q (.ref a) H) ∧ (xs ≠ [] → ys ≠ [] → newT H Q (xs ++ ys))
theorem op_catB : OpR X (binaryOp .Add) (rCatB X.K) := by
  intro pins s σ H x y v u Q I rx ry h
  obtain ⟨a, b, xs, ys, rfl, rfl, ha, hb, hz, q0, q1, q2⟩ := h
  by_cases hx : xs = []
  · subst hx
    cases rx
    cases ry
    obtain ⟨its, r1, p1, _⟩ := I.tuple ha
    obtain ⟨its2, r2, p2, _⟩ := I.tuple hb
    cases r1
    exact cat_tup0 p1 p2 ⟨.ref b, H, I, rfl, q0 rfl⟩
  · cases rx
    cases ry
    obtain ⟨its, r1, p1, _⟩ := I.tuple ha
    obtain ⟨its2, r2, p2, _⟩ := I.tuple hb
    refine HT.cat_tup p1 p2 (fun z => hx (r1.nil_iff.mp z)) (fun z => ⟨.ref a, H, I, rfl, q1 hx (r2.nil_iff.mp z)⟩) (fun z => ?_) (by rw [← r1.length, ← r2.length]; exact hz)
    obtain ⟨bb, q2⟩ := q2 hx (fun w => z (r2.nil_iff.mpr w))
    exact ⟨.ref s.heap.objs.size, _, I.laid (t' := s.toks) (fun b ob q => Heap.get?_push_of_some _ q) (Nat.le_refl _) (okT (b := bb) (Heap.get?_push_size _ rfl) rfl rfl (by rw [List.length_append]; exact hz) (r1.append r2)), rfl, q2 _ _ (I.hok.fresh (Nat.le_refl _)) rfl⟩
def rSlB (K : PySem.W.Frag) : V → Option Int → Option Int → Hp → VK → Prop := fun x lo hi H Q => ∃ a xs, x = .ref a ∧ SqT K H a xs ∧
  (HT.sIx xs.length 0 lo = 0 ∧ HT.sIx xs.length xs.length hi = xs.length → Q (.ref a) H) ∧ (¬ (HT.sIx xs.length 0 lo = 0 ∧ HT.sIx xs.length xs.length hi = xs.length) → newT H Q (cutV xs lo hi))
theorem sl_tupB : SlR X (rSlB X.K) := by
  intro pins s σ H x v vl vu lo hi sl Q I rx hs pl pu h
  obtain ⟨a, xs, rfl, hx, q1, q2⟩ := h
  by_cases hw : HT.sIx xs.length 0 lo = 0 ∧ HT.sIx xs.length xs.length hi = xs.length
  · cases rx
    obtain ⟨its, r, ht, hz⟩ := I.tuple hx
    have hlen : its.toArray.size = xs.length := by rw [List.size_toArray]; exact r.length.symm
    refine ⟨"tuple", _, PyProof.Rows.slot_tuple_getitem.lookup, ht.typeIs, ?_⟩
    exact getItem_tuple_whole ht hs pl pu (by rw [hlen]; exact hw) ⟨.ref a, H, I, rfl, q1 hw⟩
  · obtain ⟨b, q⟩ := q2 hw
    cases rx
    obtain ⟨its, r, ht, hz⟩ := I.tuple hx
    have hlen : its.toArray.size = xs.length := by rw [List.size_toArray]; exact r.length.symm
    refine ⟨"tuple", _, PyProof.Rows.slot_tuple_getitem.lookup, ht.typeIs, ?_⟩
    refine HT.getItem_tuple_cut ht hs pl pu (by rw [hlen]; exact hw) ?_ (by rw [hlen]; exact hz)
    rw [hlen]
    exact ⟨.ref s.heap.objs.size, _, I.laid (t' := s.toks) (fun b ob q => Heap.get?_push_of_some _ q) (Nat.le_refl _) (okT (b := b) (Heap.get?_push_size _ rfl) rfl rfl (Nat.le_trans (cutV_length xs lo hi) hz) ((r.drop (HT.sIx xs.length 0 lo)).take (HT.sIx xs.length xs.length hi - HT.sIx xs.length 0 lo))), rfl, q _ _ (I.hok.fresh (Nat.le_refl _)) rfl⟩
def rRepB (K : PySem.W.Frag) : R2 := fun x y H Q => ∃ l k xs, x = .ref l ∧ y = .int k ∧ SqT K H l xs ∧ xs ≠ [] ∧ 2 ≤ k ∧ k ≤ 1000 ∧ xs.length ≤ 1000 ∧ newT H Q (List.replicate k.toNat xs).flatten
theorem op_repB : OpR X (binaryOp .Mult) (rRepB X.K) := by
  intro pins s σ H x y v u Q I rx ry h
  obtain ⟨l, k, xs, rfl, rfl, hT, hne, h1, h2, hz, b, q⟩ := h
  cases rx
  obtain ⟨t, rfl⟩ := ry
  obtain ⟨its, r, ⟨⟨cls, dd, data, sl⟩, ho, hc, n, hd⟩, hs⟩ := I.tuple hT
  simp only at hc hd
  subst hc hd
  have hle : its.length = xs.length := r.length.symm
  have hn : its ≠ [] := fun e => hne (by
    rw [e] at hle
    exact List.eq_nil_of_length_eq_zero hle.symm)
  have hi : its.toArray.isEmpty = false := by
    cases its with
    | nil => exact absurd rfl hn
    | cons a b => rfl
  have hsz0 : its.toArray.size = xs.length := by rw [List.size_toArray, hle]
  have hm : ((its.toArray.size : Nat) : Int) * k ≤ 1000000 := by
    rw [hsz0]
    have a1 : ((xs.length : Nat) : Int) * k ≤ 1000 * k := Int.mul_le_mul_of_nonneg_right (by omega) (by omega)
    omega
  have flen : (List.replicate k.toNat its).flatten.length ≤ sizeLine := by
    rw [PyProof.Rows.lm_len_rep_flat, hle, sizeLine_eq]
    have a1 : k.toNat * xs.length ≤ 1000 * 1000 := Nat.mul_le_mul (by omega) hz
    omega
  have c0 : (decide (k < -(2 ^ 63)) || decide (k ≥ 2 ^ 63)) = false := by
    rw [decide_eq_false (by omega), decide_eq_false (by omega)] <;> rfl
  have c1 : (its.toArray.isEmpty || k == 1) = false := by
    rw [hi, Bool.false_or]
    exact beq_eq_false_iff_ne.mpr (by omega)
  have c2 : (decide (k ≤ 0) || its.toArray.isEmpty) = false := by
    rw [hi, Bool.or_false]
    exact decide_eq_false (by omega)
  have c4 : Builtin.Tuple.tupleTooMany (((its.toArray.size : Nat) : Int) * k) = false := by
    unfold Builtin.Tuple.tupleTooMany
    rw [sizeLine_eq]
    exact decide_eq_false (by omega)
  refine wpAny_binaryOp_repeat_ref (T := "tuple") (U := "int") (by decide) ⟨_, ho, rfl⟩ (fun s' => typeIs_int s' k t) noFill_tuple_mul F.fills_int_mul F.slot_int_rmul repeat_tuple F.slot_int_index.lookup
    (call_meets F.slot_int_rmul (typeIs_int s k t) F.entry_int_rmul (F.args_int_rmul_2 _ _) (int_rmul_tuple k t l its.toArray n dd sl)
      ⟨ho, rfl, ⟨_, ho, rfl⟩, call_meets F.slot_tuple_mul ⟨_, ho, rfl⟩ F.entry_tuple_mul (F.args_tuple_mul_2 _ _) (tuple_mulW l its.toArray n dd sl k t c0 c1 c2 (by omega) c4 (by rw [size_rep, List.size_toArray]; exact flen)) ⟨ho, ?_⟩⟩)
  rw [size_rep]
  exact ⟨.ref s.heap.objs.size, _, I.laid (t' := s.toks) (fun b ob q => Heap.get?_push_of_some _ q) (Nat.le_refl _) (okT (b := b) (Heap.get?_push_size _ rfl) rfl rfl (by rw [PyProof.Rows.lm_len_rep_flat, sizeLine_eq]; have a1 : k.toNat * xs.length ≤ 1000 * 1000 := Nat.mul_le_mul (by omega) hz; omega) (r.rep k.toNat)), rfl, q _ _ (I.hok.fresh (Nat.le_refl _)) rfl⟩
end
end PV
end
section
set_option Elab.async false
set_option linter.all false
set_option maxRecDepth 100000
set_option maxHeartbeats 2000000
namespace PV
open PySem PySem.Spec PyProof.Rows L2

mutual
/-- v stands for the datum, by what is frozen in G -/
inductive Rep (c : Addr) (G : Hp) : V → D → Prop
  | non : Rep c G .non .non
  | bl (b : Bool) : Rep c G (.bl b) (.bl b)
  | int (i : Int) : Rep c G (.int i) (.int i)
  | str (x : Str) : Rep c G (.str x) (.str x)
  | lst {a : Addr} {xs : List V} {ds : List D} : G a = some (.lst xs) → RepL c G xs ds → Rep c G (.ref a) (.lst ds)
  | tup {a : Addr} {xs : List V} {ds : List D} : PTh (isP ds) G a xs → RepL c G xs ds → Rep c G (.ref a) (.tup ds)
  | st : Rep c G (.ref c) .st
  | scr {a : Addr} {o : Obj} {ns : List Int} : G a = some (.frz o (.lst (ns.map V.int))) → Rep c G (.ref a) (.scr ns)
inductive RepL (c : Addr) (G : Hp) : List V → List D → Prop
  | nil : RepL c G [] []
  | cons {v : V} {vs : List V} {d : D} {ds : List D} : Rep c G v d → RepL c G vs ds → RepL c G (v :: vs) (d :: ds)
end

section
variable {c : Addr} {G G' H H' : Hp}
mutual
theorem Rep.mono (e : Same G G') : ∀ {v : V} {d : D}, Rep c G v d → Rep c G' v d
  | _, _, .non => .non
  | _, _, .bl b => .bl b
  | _, _, .int i => .int i
  | _, _, .str x => .str x
  | _, _, .lst h r => .lst (e _ _ h) (RepL.mono e r)
  | _, _, .tup h r => .tup (h.mono e) (RepL.mono e r)
  | _, _, .st => .st
  | _, _, .scr h => .scr (e _ _ h)
theorem RepL.mono (e : Same G G') : ∀ {vs : List V} {ds : List D}, RepL c G vs ds → RepL c G' vs ds
  | _, _, .nil => .nil
  | _, _, .cons h r => .cons (Rep.mono e h) (RepL.mono e r)
end
theorem RepL.length : ∀ {vs : List V} {ds : List D}, RepL c G vs ds → vs.length = ds.length
  | _, _, .nil => rfl
  | _, _, .cons _ r => by simp [RepL.length r]
theorem RepL.get : ∀ {vs : List V} {ds : List D} {i : Nat} {d : D}, RepL c G vs ds → ds[i]? = some d → ∃ v, vs[i]? = some v ∧ Rep c G v d
  | _, _, _, _, .nil, e => by simp at e
  | _, _, 0, _, .cons h _, e => by simp at e; subst e; exact ⟨_, rfl, h⟩
  | _, _, i + 1, _, .cons _ r, e => by
    obtain ⟨v, h1, h2⟩ := RepL.get (i := i) r (by simpa using e)
    exact ⟨v, by simpa using h1, h2⟩
theorem RepL.get' : ∀ {vs : List V} {ds : List D} {i : Nat} {v : V}, RepL c G vs ds → vs[i]? = some v → ∃ d, ds[i]? = some d ∧ Rep c G v d
  | _, _, _, _, .nil, e => by simp at e
  | _, _, 0, _, .cons h _, e => by simp at e; subst e; exact ⟨_, rfl, h⟩
  | _, _, i + 1, _, .cons _ r, e => by
    obtain ⟨v, h1, h2⟩ := RepL.get' (i := i) r (by simpa using e)
    exact ⟨v, by simpa using h1, h2⟩
theorem RepL.append : ∀ {vs ws : List V} {ds es : List D}, RepL c G vs ds → RepL c G ws es → RepL c G (vs ++ ws) (ds ++ es)
  | _, _, _, _, .nil, s => s
  | _, _, _, _, .cons h r, s => .cons h (RepL.append r s)
theorem RepL.take : ∀ {vs : List V} {ds : List D} (n : Nat), RepL c G vs ds → RepL c G (vs.take n) (ds.take n)
  | _, _, 0, _ => by simp; exact .nil
  | _, _, _ + 1, .nil => by simp; exact .nil
  | _, _, n + 1, .cons h r => by simp; exact .cons h (RepL.take n r)
theorem RepL.drop : ∀ {vs : List V} {ds : List D} (n : Nat), RepL c G vs ds → RepL c G (vs.drop n) (ds.drop n)
  | _, _, 0, r => by simpa using r
  | _, _, _ + 1, .nil => by simp; exact .nil
  | _, _, n + 1, .cons h r => by simpa using RepL.drop n r
theorem RepL.ints : ∀ (ns : List Int), RepL c G (ns.map V.int) (ns.map D.int)
  | [] => .nil
  | n :: ns => .cons (.int n) (RepL.ints ns)
theorem RepL.set {v : V} {d : D} (h : Rep c G v d) : ∀ {vs : List V} {ds : List D} (i : Nat), RepL c G vs ds → RepL c G (vs.set i v) (ds.set i d)
  | _, _, _, .nil => .nil
  | _, _, 0, .cons _ r => .cons h r
  | _, _, i + 1, .cons h' r => .cons h' (RepL.set h i r)
theorem RepL.eraseIdx : ∀ {vs : List V} {ds : List D} (i : Nat), RepL c G vs ds → RepL c G (vs.eraseIdx i) (ds.eraseIdx i)
  | _, _, _, .nil => .nil
  | _, _, 0, .cons _ r => r
  | _, _, i + 1, .cons h' r => .cons h' (RepL.eraseIdx i r)
theorem RepL.rep {vs : List V} {ds : List D} (h : RepL c G vs ds) : ∀ k : Nat, RepL c G (List.replicate k vs).flatten (List.replicate k ds).flatten
  | 0 => .nil
  | k + 1 => by rw [List.replicate_succ, List.replicate_succ, List.flatten_cons, List.flatten_cons]; exact RepL.append h (RepL.rep h k)
theorem RepL.reverse {vs : List V} {ds : List D} : RepL c G vs ds → RepL c G vs.reverse ds.reverse
  | .nil => .nil
  | .cons h r => by rw [List.reverse_cons, List.reverse_cons]; exact RepL.append (RepL.reverse r) (.cons h .nil)
theorem RepL.allInts : ∀ {vs : List V} {ds : List D} {ns : List Int}, RepL c G vs ds → allInts ds = some ns → vs = ns.map V.int
  | _, _, ns, .nil, e => by cases e; rfl
  | _, _, ns, .cons (d := d) h r, e => by
    cases d with
    | int i =>
      cases h
      simp only [PV.allInts, Option.map_eq_some_iff] at e
      obtain ⟨m, e1, e2⟩ := e
      subst e2
      rw [RepL.allInts r e1]; rfl
    | _ => simp [PV.allInts] at e
theorem RepL.allBls : ∀ {vs : List V} {ds : List D} {ns : List Bool}, RepL c G vs ds → allBls ds = some ns → vs = ns.map V.bl
  | _, _, ns, .nil, e => by cases e; rfl
  | _, _, ns, .cons (d := d) h r, e => by
    cases d with
    | bl i =>
      cases h
      simp only [PV.allBls, Option.map_eq_some_iff] at e
      obtain ⟨m, e1, e2⟩ := e
      subst e2
      rw [RepL.allBls r e1]; rfl
    | _ => simp [PV.allBls] at e

/-! ### the cell of the draws -/
def CellAt (c : Addr) (n : Nat) (H : Hp) : Prop := ∃ ns : List Int, H c = some (.lst (ns.map V.int)) ∧ ns.length = n
/-- frozen G in H beside the cell -/
structure Base (c : Addr) (G H : Hp) (n : Nat) : Prop where
  gh : Same G H
  gc : G c = none
  cell : CellAt c n H
/-- from (G, H) to (G', H'): what was frozen is frozen, what stood (but the cell) stands, what is newly frozen is new -/
structure Ev (c : Addr) (G H G' H' : Hp) : Prop where
  g : Same G G'
  h : ∀ a o, H a = some o → a ≠ c → H' a = some o
  nw : ∀ a o, G' a = some o → (∃ o', G a = some o') ∨ H a = none ∨ ∃ xs, H a = some (.tup xs)
  nc : G' c = none
theorem Ev.refl (gc : G c = none) : Ev c G H G H := ⟨fun _ _ h => h, fun _ _ h _ => h, fun _ o h => .inl ⟨o, h⟩, gc⟩
theorem Ev.trans {G1 H1 : Hp} (a : Ev c G H G1 H1) (b : Ev c G1 H1 G' H') : Ev c G H G' H' := by
  refine ⟨a.g.trans b.g, fun x o h n => b.h x o (a.h x o h n) n, fun x o h => ?_, b.nc⟩
  rcases b.nw x o h with ⟨o', h'⟩ | h' | ⟨xs, h'⟩
  · exact a.nw x o' h'
  · cases q : H x with
    | none => exact .inr (.inl rfl)
    | some u =>
      by_cases hx : x = c
      · subst hx; rw [b.nc] at h; cases h
      · have := a.h x u q hx
        rw [this] at h'; cases h'
  · cases q : H x with
    | none => exact .inr (.inl rfl)
    | some u =>
      by_cases hx : x = c
      · subst hx; rw [b.nc] at h; cases h
      · have := a.h x u q hx
        rw [this] at h'; cases h'; exact .inr (.inr ⟨xs, rfl⟩)
/-- a new object is laid and frozen -/
theorem Ev.laid {p : Addr} {o : HO} (gh : Same G H) (gc : G c = none) (hc : H c ≠ none) (hp : H p = none) : Ev c G H (upd G p o) (upd H p o) := by
  have hpc : p ≠ c := fun e => hc (e ▸ hp)
  have gp : G p = none := by
    cases q : G p with
    | none => rfl
    | some u => have := gh p u q; rw [hp] at this; cases this
  refine ⟨fun a u h => ?_, fun a u h _ => ?_, fun a u h => ?_, by rw [upd_ne (Ne.symm hpc)]; exact gc⟩
  · rw [upd_ne (ne_of_none h gp)]; exact h
  · rw [upd_ne (ne_of_none h hp)]; exact h
  · by_cases e : a = p
    · subst e; exact .inr (.inl hp)
    · rw [upd_ne e] at h; exact .inl ⟨u, h⟩
theorem Base.laid {p : Addr} {o : HO} {n : Nat} (b : Base c G H n) (hp : H p = none) : Base c (upd G p o) (upd H p o) n := by
  obtain ⟨ns, h1, h2⟩ := b.cell
  have hpc : p ≠ c := fun e => by rw [e, h1] at hp; cases hp
  refine ⟨fun a u h => ?_, by rw [upd_ne (Ne.symm hpc)]; exact b.gc, ns, by rw [upd_ne (Ne.symm hpc)]; exact h1, h2⟩
  by_cases e : a = p
  · subst e; rw [upd_same] at h ⊢; exact h
  · rw [upd_ne e] at h ⊢; exact b.gh a u h
theorem Base.ev {p : Addr} {o : HO} {n : Nat} (b : Base c G H n) (hp : H p = none) : Ev c G H (upd G p o) (upd H p o) := by
  refine Ev.laid b.gh b.gc ?_ hp
  obtain ⟨ns, h1, _⟩ := b.cell
  rw [h1]; intro z; cases z
theorem Base.gp {p : Addr} {n : Nat} (b : Base c G H n) (hp : H p = none) : G p = none := by
  cases q : G p with
  | none => rfl
  | some u => have := b.gh p u q; rw [hp] at this; cases this
theorem Base.gSame {p : Addr} {o : HO} {n : Nat} (b : Base c G H n) (hp : H p = none) : Same G (upd G p o) := fun a u h => by
  rw [upd_ne (ne_of_none h (b.gp hp))]; exact h

/-! ### the slots -/
/-- the dict's cell: open and one's own, or locked and frozen -/
def HasD (c : Addr) (H0 G H : Hp) (a : Addr) (lk : Bool) (kv : List (List L2.Key × V)) : Prop := match lk with
  | false => H a = some (.dT kv) ∧ G a = none ∧ H0 a = none ∧ a ≠ c
  | true => ∃ o, G a = some (.frz o (.dT kv))
abbrev RepK (c : Addr) (G : Hp) : List (List L2.Key × V) → List (List Int × D) → Prop := Paired fun p q => p.1 = q.1.map Sum.inl ∧ Rep c G p.2 q.2
def DctR (c : Addr) (H0 : Hp) (σ : L2.St) (G H : Hp) (i : Nat) (lk : Bool) (kvs : List (List Int × D)) : Prop := ∃ a kv, σ[i]? = some (some (.ref a)) ∧ HasD c H0 G H a lk kv ∧ RepK c G kv kvs
theorem RepK.mono {c : Addr} {G G' : Hp} {kv : List (List L2.Key × V)} {kvs : List (List Int × D)} (h : RepK c G kv kvs) (e : Same G G') : RepK c G' kv kvs := by
  unfold RepK at h ⊢
  induction h with
  | nil => exact .nil
  | cons h _ ih => exact .cons ⟨h.1, h.2.mono e⟩ ih
theorem DctR.map {c : Addr} {H0 H0' : Hp} {σ : L2.St} {G G' H H' : Hp} {i : Nat} {lk : Bool} {kvs : List (List Int × D)} (h : DctR c H0 σ G H i lk kvs) (e : Same G G') (m : ∀ a kv, H a = some (.dT kv) → G a = none → H0 a = none → a ≠ c → H' a = some (.dT kv) ∧ G' a = none ∧ H0' a = none) : DctR c H0' σ G' H' i lk kvs := by
  obtain ⟨a, kv, h1, h2, h3⟩ := h
  refine ⟨a, kv, h1, ?_, h3.mono e⟩
  cases lk with
  | false =>
    obtain ⟨p1, p2, p3, p4⟩ := h2
    obtain ⟨q1, q2, q3⟩ := m a kv p1 p2 p3 p4
    exact ⟨q1, q2, q3, p4⟩
  | true => obtain ⟨o, q⟩ := h2; exact ⟨o, e _ _ q⟩
structure EnvR (c : Addr) (H0 : Hp) (env : Env) (σ : L2.St) (G H : Hp) : Prop where
  len : env.length = σ.length
  val : ∀ i d, gt env i = .val d → ∃ v, σ[i]? = some (some v) ∧ Rep c G v d
  own : ∀ i ds, gt env i = .own ds → ∃ a vs, σ[i]? = some (some (.ref a)) ∧ H a = some (.lst vs) ∧ G a = none ∧ H0 a = none ∧ a ≠ c ∧ RepL c G vs ds
  sep : ∀ i j a ds es, gt env i = .own ds → gt env j = .own es → σ[i]? = some (some (.ref a)) → σ[j]? = some (some (.ref a)) → i = j
  dct : ∀ i lk kvs, gt env i = .dct lk kvs → DctR c H0 σ G H i lk kvs
  sepd : ∀ i j a lk lk' kvs kvs', gt env i = .dct lk kvs → gt env j = .dct lk' kvs' → σ[i]? = some (some (.ref a)) → σ[j]? = some (some (.ref a)) → i = j
theorem EnvR.ev {H0 : Hp} {env : Env} {σ : L2.St} (r : EnvR c H0 env σ G H) (e : Ev c G H G' H') : EnvR c H0 env σ G' H' := by
  refine ⟨r.len, fun i d h => ?_, fun i ds h => ?_, r.sep, fun i lk kvs h => ?_, r.sepd⟩
  · obtain ⟨v, h1, h2⟩ := r.val i d h
    exact ⟨v, h1, h2.mono e.g⟩
  · obtain ⟨a, vs, h1, h2, h3, h4, h5, h6⟩ := r.own i ds h
    refine ⟨a, vs, h1, e.h a _ h2 h5, ?_, h4, h5, h6.mono e.g⟩
    cases q : G' a with
    | none => rfl
    | some o =>
      rcases e.nw a o q with ⟨o', h'⟩ | h' | ⟨_, h'⟩
      · rw [h3] at h'; cases h'
      · rw [h2] at h'; cases h'
      · rw [h2] at h'; cases h'
  · refine (r.dct i lk kvs h).map e.g fun a kv h2 h3 h4 h5 => ⟨e.h a _ h2 h5, ?_, h4⟩
    cases q : G' a with
    | none => rfl
    | some o =>
      rcases e.nw a o q with ⟨o', h'⟩ | h' | ⟨xs, h'⟩
      · rw [h3] at h'; cases h'
      · rw [h2] at h'; cases h'
      · rw [h2] at h'; cases h'
end

/-! ### readings by meanings -/
abbrev ME := Env → Nat → KD → KX → Prop
section
variable (K : PySem.W.Frag) (W : WX)
def xOk (c : Addr) (σ : L2.St) (G H : Hp) (x : KX) : Prop := ∀ nm n' G' H', Ev c G H G' H' → Base c G' H' n' → x nm n' → W (.ref (He.ga K nm)) none σ H'
def vOk (c : Addr) (G H : Hp) (k : KD) (Q : VK) : Prop := ∀ v d n' G' H', Ev c G H G' H' → Base c G' H' n' → Rep c G' v d → k d n' → Q v H'
structure Pre (c : Addr) (H0 : Hp) (env : Env) (σ : L2.St) (G H : Hp) (n : Nat) : Prop where
  b : Base c G H n
  r : EnvR c H0 env σ G H
def tX (f : ME) : TE := fun σ H Q => ∃ c H0 G env n k x, Pre c H0 env σ G H n ∧ f env n k x ∧ vOk c G H k Q ∧ xOk K W c σ G H x
def tXT (f : ME) : TT := fun σ H Q => ∃ c H0 G env n k x, Pre c H0 env σ G H n ∧ f env n k x ∧ (∀ b n' G' H', Ev c G H G' H' → Base c G' H' n' → k (.bl b) n' → Q b H') ∧ xOk K W c σ G H x
def tXL (f : Env → Nat → (List D → Nat → Prop) → KX → Prop) : TA := fun σ H Q => ∃ c H0 G env n k x, Pre c H0 env σ G H n ∧ f env n k x ∧ (∀ vs ds n' G' H', Ev c G H G' H' → Base c G' H' n' → RepL c G' vs ds → k ds n' → Q vs H') ∧ xOk K W c σ G H x
end
theorem xOk.ev {K : PySem.W.Frag} {W : WX} {c : Addr} {σ : L2.St} {G H G' H' : Hp} {x : KX} (h : xOk K W c σ G H x) (e : Ev c G H G' H') : xOk K W c σ G' H' x :=
  fun nm n' G2 H2 e2 b hx => h nm n' G2 H2 (e.trans e2) b hx
theorem Pre.ev {c : Addr} {H0 : Hp} {env : Env} {σ : L2.St} {G H G' H' : Hp} {n n' : Nat} (p : Pre c H0 env σ G H n) (e : Ev c G H G' H') (b : Base c G' H' n') : Pre c H0 env σ G' H' n' := ⟨b, p.r.ev e⟩

section
variable {X : Cx} {a b e : Expr} {t t' : TE}
theorem PEi (h : PE X e t) (w : ∀ σ H Q, t' σ H Q → t σ H Q) : PE X e t' := ⟨fun pins s σ H Q I q => h.run pins s σ H Q I (w σ H Q q)⟩
theorem PTi {t t' : TT} (h : PT X e t) (w : ∀ σ H Q, t' σ H Q → t σ H Q) : PT X e t' := ⟨fun pins s σ H Q I q => h.run pins s σ H Q I (w σ H Q q)⟩
theorem PAi {es : List Expr} {t t' : TA} (h : PA X es t) (w : ∀ σ H Q, t' σ H Q → t σ H Q) : PA X es t' := ⟨fun pos pins s σ H Q I q => h.run pos pins s σ H Q I (w σ H Q q)⟩

/-- two parts in a row, then an operation by values -/
theorem tX_op {K : PySem.W.Frag} {W : WX} {f g : ME} {r : R2} {m : D → D → Nat → KD → Prop} {σ : L2.St} {H : Hp} {Q : VK}
    (h : tX K W (fun env n k x => f env n (fun p n1 => g env n1 (fun q n2 => m p q n2 k) x) x) σ H Q)
    (hr : ∀ c p q d1 d2 n k G H Q, Base c G H n → Rep c G p d1 → Rep c G q d2 → m d1 d2 n k → vOk c G H k Q → r p q H Q) : tOp r (tX K W f) (tX K W g) σ H Q := by
  obtain ⟨c, H0, G, env, n, k, x, pre, hf, hv, hx⟩ := h
  refine ⟨c, H0, G, env, n, _, x, pre, hf, fun p d1 n1 G1 H1 e1 b1 r1 h1 => ?_, hx⟩
  refine ⟨c, H0, G1, env, n1, _, x, pre.ev e1 b1, h1, fun q d2 n2 G2 H2 e2 b2 r2 h2 => ?_, hx.ev e1⟩
  exact hr c p q d1 d2 n2 k G2 H2 Q b2 (r1.mono e2.g) r2 h2 fun v d n' G' H' e3 b3 r3 hk => hv v d n' G' H' ((e1.trans e2).trans e3) b3 r3 hk
theorem tX_un {K : PySem.W.Frag} {W : WX} {f : ME} {r : V → Hp → VK → Prop} {m : D → Nat → KD → Prop} {σ : L2.St} {H : Hp} {Q : VK}
    (h : tX K W (fun env n k x => f env n (fun p n1 => m p n1 k) x) σ H Q)
    (hr : ∀ c p d1 n k G H Q, Base c G H n → Rep c G p d1 → m d1 n k → vOk c G H k Q → r p H Q) : tUn r (tX K W f) σ H Q := by
  obtain ⟨c, H0, G, env, n, k, x, pre, hf, hv, hx⟩ := h
  refine ⟨c, H0, G, env, n, _, x, pre, hf, fun p d1 n1 G1 H1 e1 b1 r1 h1 => ?_, hx⟩
  exact hr c p d1 n1 k G1 H1 Q b1 r1 h1 fun v d n' G' H' e3 b3 r3 hk => hv v d n' G' H' (e1.trans e3) b3 r3 hk
theorem vOk.same {c : Addr} {G H : Hp} {k : KD} {Q : VK} {n : Nat} {v : V} {d : D} (h : vOk c G H k Q) (b : Base c G H n) (r : Rep c G v d) (hk : k d n) : Q v H := h v d n G H (Ev.refl b.gc) b r hk
theorem vOk.new {c : Addr} {G H : Hp} {k : KD} {Q : VK} {n : Nat} {p : Addr} {o : HO} {d : D} (h : vOk c G H k Q) (b : Base c G H n) (hp : H p = none) (r : Rep c (upd G p o) (.ref p) d) (hk : k d n) : Q (.ref p) (upd H p o) :=
  h _ d n _ _ (b.ev hp) (b.laid hp) r hk
end
end PV
end
section
set_option Elab.async false
set_option linter.all false
set_option maxRecDepth 100000
set_option maxHeartbeats 2000000
namespace PV
open PySem PySem.Spec PyProof.Rows L2

/-! ### data for == -/
mutual
theorem eqv_py : ∀ a b : D, PyData.eqv a.py b.py = D.eqv a b
  | .tup xs, b => by cases b <;> first | exact eqvL_py xs _ | rfl
  | .lst xs, b => by cases b <;> first | exact eqvL_py xs _ | rfl
  | .non, b => by cases b <;> rfl
  | .bl _, b => by cases b <;> rfl
  | .int _, b => by cases b <;> rfl
  | .str _, b => by cases b <;> rfl
  | .st, b => by cases b <;> rfl
  | .scr _, b => by cases b <;> rfl
theorem eqvL_py : ∀ xs ys : List D, PyData.eqvAll (D.pys xs) (D.pys ys) = D.eqvL xs ys
  | [], [] => rfl
  | [], _ :: _ => rfl
  | _ :: _, [] => rfl
  | x :: xs, y :: ys => by
    show (PyData.eqv x.py y.py && PyData.eqvAll (D.pys xs) (D.pys ys)) = (D.eqv x y && D.eqvL xs ys)
    rw [eqv_py x y, eqvL_py xs ys]
end
mutual
theorem okq_lay : ∀ (m : Nat) (d : D), D.okq m d = true → d.py.canLay0 = true ∧ d.py.depth ≤ m + 1
  | _, .non, _ => ⟨rfl, by simp [D.py, PyData.depth]⟩
  | _, .bl _, _ => ⟨rfl, by simp [D.py, PyData.depth]⟩
  | _, .int _, _ => ⟨rfl, by simp [D.py, PyData.depth]⟩
  | m, .str x, h => ⟨by cases m <;> simpa [D.py, PyData.canLay0, PyData.strOk, D.okq] using h, by simp [D.py, PyData.depth]⟩
  | 0, .tup _, h => by simp [D.okq] at h
  | 0, .lst _, h => by simp [D.okq] at h
  | m + 1, .tup xs, h => by
    obtain ⟨a, b⟩ := okqL_lay m xs h
    exact ⟨a, by simp only [D.py, PyData.depth]; omega⟩
  | m + 1, .lst xs, h => by
    obtain ⟨a, b⟩ := okqL_lay m xs h
    exact ⟨a, by simp only [D.py, PyData.depth]; omega⟩
  | m, .st, h => by cases m <;> simp [D.okq] at h
  | m, .scr _, h => by cases m <;> simp [D.okq] at h
theorem okqL_lay : ∀ (m : Nat) (ds : List D), D.okqL m ds = true → PyData.canLayAll0 (D.pys ds) = true ∧ PyData.depthAll (D.pys ds) ≤ m + 1
  | _, [], _ => ⟨rfl, by simp [D.pys, PyData.depthAll]⟩
  | m, d :: ds, h => by
    simp only [D.okqL, Bool.and_eq_true] at h
    obtain ⟨a1, b1⟩ := okq_lay m d h.1
    obtain ⟨a2, b2⟩ := okqL_lay m ds h.2
    refine ⟨?_, ?_⟩
    · show (d.py.canLay0 && PyData.canLayAll0 (D.pys ds)) = true
      rw [a1, a2]; rfl
    · simp only [D.pys, PyData.depthAll]; omega
end
theorem pys_any (d : D) : ∀ ds : List D, ((D.pys ds).any fun z => PyData.eqv z d.py) = ds.any fun z => D.eqv z d
  | [] => rfl
  | x :: xs => by
    show (PyData.eqv x.py d.py || _) = (D.eqv x d || _)
    rw [eqv_py, pys_any d xs]
mutual
theorem Rep.dp {X : Cx} {G H : Hp} {c : Addr} (gh : Same G H) : ∀ (m : Nat) (d : D) (v : V), Rep c G v d → D.okq m d = true → Dp X.K H v d.py
  | _, .non, _, h, _ => by cases h; exact .non
  | _, .bl b, _, h, _ => by cases h; exact .bl b
  | _, .int i, _, h, _ => by cases h; exact .int i
  | _, .str x, _, h, _ => by cases h; exact .str x
  | 0, .tup ds, _, _, q => by simp [D.okq] at q
  | 0, .lst ds, _, _, q => by simp [D.okq] at q
  | m + 1, .tup ds, _, h, q => by cases h with
      | tup h r => exact .tup (.inl (h.rd gh)) (Rep.dpL gh m ds _ r q)
  | m + 1, .lst ds, _, h, q => by cases h with
      | lst h r => exact .lst (.inl (.inl (gh _ _ h))) (Rep.dpL gh m ds _ r q)
  | m, .st, _, _, q => by cases m <;> simp [D.okq] at q
  | m, .scr _, _, _, q => by cases m <;> simp [D.okq] at q
theorem Rep.dpL {X : Cx} {G H : Hp} {c : Addr} (gh : Same G H) : ∀ (m : Nat) (ds : List D) (vs : List V), RepL c G vs ds → D.okqL m ds = true → DpAll X.K H vs (D.pys ds)
  | _, [], _, h, _ => by cases h; exact .nil
  | m, d :: ds, _, h, q => by
    cases h with
    | cons h r =>
      simp only [D.okqL, Bool.and_eq_true] at q
      exact .cons (Rep.dp gh m d _ h q.1) (Rep.dpL gh m ds _ r q.2)
end
theorem okq_shaped {d : D} (h : D.okq 60 d = true) : SeqAt.shaped d.py = true := by
  obtain ⟨a, b⟩ := okq_lay 60 d h
  unfold SeqAt.shaped
  rw [a, Bool.true_and]
  exact decide_eq_true (by omega)

/-! ### two-place operations by data -/
def rD2 (m : D → D → (D → Prop) → Prop) : R2 := fun x y H Q => ∃ c G n d1 d2 k, Base c G H n ∧ Rep c G x d1 ∧ Rep c G y d2 ∧ m d1 d2 (fun r => k r n) ∧ vOk c G H k Q
def toOp : O2 → Operator
  | .add => .Add
  | .sub => .Sub
  | .mul => .Mult
  | .fdiv => .FloorDiv
  | .mod => .Mod
def toCmp : OC → CmpOp
  | .eq => .Eq
  | .ne => .NotEq
  | .lt => .Lt
  | .le => .LtE
  | .gt => .Gt
  | .ge => .GtE
  | .is => .Is
  | .isn => .IsNot
  | .in_ => .In
  | .nin => .NotIn
theorem line_small {n : Nat} (h : small n) : n ≤ sizeLine := by
  unfold small at h
  rw [sizeLine_eq]; omega
theorem pow_log2 {a : Int} {m : Nat} (hm : 0 < m) (h : a.natAbs < 2 ^ m) : a.natAbs.log2 < m := PySem.Flt.log2_lt_of hm h
section
variable {X : Cx} {c : Addr} {G H : Hp} {n : Nat} {k : KD} {Q : VK}
theorem vOk.tupNewB {xs : List V} {ds : List D} (h : vOk c G H k Q) (b : Base c G H n) (r : RepL c G xs ds) (hk : k (.tup ds) n) : newT H Q xs :=
  ⟨isP ds, fun p o hp ho => h.new b hp (.tup ⟨o, ho, upd_same⟩ (r.mono (b.gSame hp))) hk⟩
theorem vOk.tupNew {xs : List V} {ds : List D} (h : vOk c G H k Q) (b : Base c G H n) (r : RepL c G xs ds) (h0 : isP ds = false) (hk : k (.tup ds) n) : ∀ p, H p = none → Q (.ref p) (upd H p (.tup xs)) :=
  fun p hp => h.new b hp (.tup (by rw [h0]; exact .of0 upd_same) (r.mono (b.gSame hp))) hk
theorem vOk.lstNew {xs : List V} {ds : List D} (h : vOk c G H k Q) (b : Base c G H n) (r : RepL c G xs ds) (hk : k (.lst ds) n) : ∀ p, H p = none → Q (.ref p) (upd H p (.lst xs)) :=
  fun p hp => h.new b hp (.lst upd_same (r.mono (b.gSame hp))) hk
theorem RepL.nil_iff {vs : List V} {ds : List D} (r : RepL c G vs ds) : vs = [] ↔ ds = [] := by
  cases r with
  | nil => simp
  | cons => simp
theorem op_addD : OpR X (binaryOp .Add) (rD2 (op2 .add)) := by
  intro pins s σ H x y v u Q I rx ry ⟨c, G, n, d1, d2, k, b, r1, r2, m, hv⟩
  cases d1 <;> cases d2 <;> first
    | exact (show False from m).elim
    | skip
  · rename_i a i
    cases r1; cases r2; cases rx
    obtain ⟨t, rfl⟩ := ry
    exact PySem.IntBool.add_bool_int ⟨.int _, H, I.tok _, ⟨_, rfl⟩, hv.same b (.int _) m⟩
  · cases r1; cases r2
    exact op_add pins s σ H _ _ v u Q I rx ry ⟨_, _, rfl, rfl, hv.same b (.int _) m⟩
  · rename_i a b'
    cases r1; cases r2
    exact op_add_str pins s σ H _ _ v u Q I rx ry ⟨_, _, rfl, rfl, line_small m.1, hv.same b (.str _) m.2⟩
  · obtain ⟨hs, m⟩ := m
    cases r1 with
    | tup h1 q1 => cases r2 with
      | tup h2 q2 =>
        refine op_catB pins s σ H _ _ v u Q I rx ry ⟨_, _, _, _, rfl, rfl, .inl (h1.rd b.gh), .inl (h2.rd b.gh), ?_, fun e => ?_, fun e1 e2 => ?_, fun e1 e2 => ?_⟩
        · rw [q1.length, q2.length]; exact line_small hs
        · have e' := q1.nil_iff.mp e
          subst e'
          exact hv.same b (.tup h2 q2) m
        · have e' := q2.nil_iff.mp e2
          subst e'
          rw [List.append_nil] at m
          exact hv.same b (.tup h1 q1) m
        · exact hv.tupNewB b (q1.append q2) m
  · obtain ⟨hs, m⟩ := m
    cases r1 with
    | lst h1 q1 => cases r2 with
      | lst h2 q2 =>
        refine op_cat pins s σ H _ _ v u Q I rx ry ⟨_, _, _, _, rfl, rfl, b.gh _ _ h1, b.gh _ _ h2, ?_, hv.lstNew b (q1.append q2) m⟩
        rw [q1.length, q2.length]; exact line_small hs
theorem op_subD : OpR X (binaryOp .Sub) (rD2 (op2 .sub)) := by
  intro pins s σ H x y v u Q I rx ry ⟨c, G, n, d1, d2, k, b, r1, r2, m, hv⟩
  cases d1 <;> cases d2 <;> first
    | exact (show False from m).elim
    | skip
  · cases r1; cases r2; cases rx
    obtain ⟨t, rfl⟩ := ry
    exact PySem.IntBool.sub_bool_int ⟨.int _, H, I.tok _, ⟨_, rfl⟩, hv.same b (.int _) m⟩
  · cases r1; cases r2
    exact op_sub pins s σ H _ _ v u Q I rx ry ⟨_, _, rfl, rfl, hv.same b (.int _) m⟩
theorem foldl_cat : ∀ (l : List (Array Nat)) (a : Array Nat), (l.foldl (· ++ ·) a).toList = a.toList ++ (l.map (·.toList)).flatten
  | [], a => by simp
  | x :: l, a => by
    rw [List.foldl_cons, foldl_cat l]
    simp
theorem mulS_eq {a : Str} {b : Int} : Txt.mul a b = repS a b.toNat := by
  have key : ∀ n, ((List.replicate n a.cps).foldl (· ++ ·) #[]) = (List.replicate n a.cps.toList).flatten.toArray := fun n => by
    apply Array.toList_inj.mp
    rw [foldl_cat]
    simp
  unfold Txt.mul repS
  by_cases h : b < 1
  · rw [if_pos h]
    have e : b.toNat = 0 := by omega
    rw [e]; rfl
  · rw [if_neg h]
    by_cases h2 : (b == 1 || a.length == 0) = true
    · rw [if_pos h2]
      rw [Bool.or_eq_true] at h2
      rcases h2 with h2 | h2
      · have e : b = 1 := by simpa using h2
        subst e
        simp
      · have e : a.length = 0 := by simpa using h2
        have e2 : a.cps = #[] := Array.eq_empty_of_size_eq_zero e
        obtain ⟨c⟩ := a
        subst e2
        simp
    · rw [if_neg h2, key]
theorem mulS_ok {a : Str} {b : Int} (h1 : small (a.length * b.toNat)) (h2 : b.natAbs ≤ 1000000) : MulOk a b := by
  unfold small at h1
  have e63 : (2 : Int) ^ 63 = 9223372036854775808 := by decide
  unfold MulOk
  rw [e63]
  refine ⟨?_, fun h3 _ => ?_, fun h3 _ => ?_⟩
  · have p1 : ¬ b < -9223372036854775808 := by omega
    have p2 : ¬ b ≥ 9223372036854775808 := by omega
    rw [decide_eq_false p1, decide_eq_false p2]; rfl
  · intro h
    have h4 : (a.length : Int) * b ≤ 1000000 := by
      have : ((a.length * b.toNat : Nat) : Int) ≤ 1000000 := (show ∀ m : Nat, m ≤ 1000000 → (m : Int) ≤ 1000000 from fun m h => by omega) _ h1
      rw [Int.natCast_mul, Int.toNat_of_nonneg (by omega)] at this
      exact this
    have h5 : (a.length : Int) ≤ 1000000 := Int.le_trans (by
      have := Int.mul_le_mul_of_nonneg_left (show (1 : Int) ≤ b by omega) (Int.natCast_nonneg a.length)
      omega) h4
    have h6 : (1000000 : Int) ≤ (9223372036854775808 - 1) / b := by
      rw [Int.le_ediv_iff_mul_le (by omega)]
      omega
    omega
  · have : a.length * b.toNat ≤ sizeLine := by rw [sizeLine_eq]; omega
    exact decide_eq_false (Nat.not_lt.mpr this)
theorem op_mulD : OpR X (binaryOp .Mult) (rD2 (op2 .mul)) := by
  intro pins s σ H x y v u Q I rx ry ⟨c, G, n, d1, d2, k, b, r1, r2, m, hv⟩
  cases d1 <;> cases d2 <;> first
    | exact (show False from m).elim
    | skip
  · cases r1; cases r2
    obtain ⟨⟨m1, m2⟩, m⟩ := m
    exact op_mulW pins s σ H _ _ v u Q I rx ry ⟨_, _, rfl, rfl, wide_mul m1 m2 (by decide) (by decide) (by decide), hv.same b (.int _) m⟩
  · cases r1; cases r2
    obtain ⟨m1, m2, m⟩ := m
    obtain ⟨t1, rfl⟩ := rx
    obtain ⟨t2, rfl⟩ := ry
    refine SB.mul (mulS_ok m1 m2) fun t' k' => ⟨.str _, H, I.tok _, ⟨_, by rw [mulS_eq]⟩, hv.same b (.str _) m⟩
  · cases r2
    obtain ⟨m0, m1, m2, m3, m⟩ := m
    cases r1 with
    | tup h1 q1 =>
      exact op_repB pins s σ H _ _ v u Q I rx ry ⟨_, _, _, rfl, rfl, .inl (h1.rd b.gh), fun e => m0 (q1.nil_iff.mp e), m1, m2, by rw [q1.length]; exact m3, hv.tupNewB b (q1.rep _) m⟩
  · cases r2
    obtain ⟨m0, m1, m⟩ := m
    cases r1 with
    | lst h1 q1 =>
      exact op_rep pins s σ H _ _ v u Q I rx ry ⟨_, _, _, rfl, rfl, b.gh _ _ h1, by omega, by omega, by rw [q1.length]; exact line_small m0, hv.lstNew b (q1.rep _) m⟩
theorem op_fdivD : OpR X (binaryOp .FloorDiv) (rD2 (op2 .fdiv)) := by
  intro pins s σ H x y v u Q I rx ry ⟨c, G, n, d1, d2, k, b, r1, r2, m, hv⟩
  cases d1 <;> cases d2 <;> first
    | exact (show False from m).elim
    | skip
  cases r1; cases r2
  obtain ⟨m1, m2, m⟩ := m
  exact op_fdivW pins s σ H _ _ v u Q I rx ry ⟨_, _, rfl, rfl, wide_div m1 m2 (by decide) (by decide), hv.same b (.int _) m⟩
theorem op_modD : OpR X (binaryOp .Mod) (rD2 (op2 .mod)) := by
  intro pins s σ H x y v u Q I rx ry ⟨c, G, n, d1, d2, k, b, r1, r2, m, hv⟩
  cases d1 <;> cases d2 <;> first
    | exact (show False from m).elim
    | skip
  cases r1; cases r2
  obtain ⟨m1, m⟩ := m
  exact op_mod pins s σ H _ _ v u Q I rx ry ⟨_, _, rfl, rfl, m1, hv.same b (.int _) m⟩
theorem lexAt_shift (e r : Nat → Bool) (z : Bool) : ∀ (k i : Nat), Ob.lexAt e r z (i + 1) k = Ob.lexAt (fun j => e (j + 1)) (fun j => r (j + 1)) z i k
  | 0, _ => rfl
  | k + 1, i => by rw [Ob.lexAt_succ, Ob.lexAt_succ, lexAt_shift e r z k (i + 1)]
def eAt (xs ys : List D) (j : Nat) : Bool := match xs[j]?, ys[j]? with
  | some x, some y => D.eqv x y
  | _, _ => false
def lAt (xs ys : List D) (j : Nat) : Bool := match xs[j]?, ys[j]? with
  | some x, some y => (D.lt x y).getD false
  | _, _ => false
theorem ltL_lex : ∀ (xs ys : List D) (r : Bool), D.ltL xs ys = some r → Ob.lexAt (eAt xs ys) (lAt xs ys) (decide (xs.length < ys.length)) 0 (min xs.length ys.length) = r ∧
    ∀ (j : Nat) (x y : D), xs[j]? = some x → ys[j]? = some y → ∃ b, D.lt x y = some b
  | [], [], r, h => by simp [D.ltL] at h; subst h; exact ⟨rfl, by simp⟩
  | [], _ :: _, r, h => by simp [D.ltL] at h; subst h; exact ⟨by simp [Ob.lexAt], by simp⟩
  | _ :: _, [], r, h => by simp [D.ltL] at h; subst h; exact ⟨by simp [Ob.lexAt], by simp⟩
  | x :: xs, y :: ys, r, h => by
    simp only [D.ltL] at h
    cases h1 : D.lt x y with
    | none => rw [h1] at h; simp at h
    | some b =>
      cases h2 : D.ltL xs ys with
      | none => rw [h1, h2] at h; simp at h
      | some r' =>
        rw [h1, h2] at h
        obtain ⟨e1, e2⟩ := ltL_lex xs ys r' h2
        refine ⟨?_, fun j x' y' hx hy => ?_⟩
        · have hm : min (x :: xs).length (y :: ys).length = min xs.length ys.length + 1 := by simp only [List.length_cons]; omega
          have hd : decide ((x :: xs).length < (y :: ys).length) = decide (xs.length < ys.length) := by simp
          rw [hm, hd, Ob.lexAt_succ, lexAt_shift]
          have ee : (fun j => eAt (x :: xs) (y :: ys) (j + 1)) = eAt xs ys := by funext j; simp [eAt]
          have el : (fun j => lAt (x :: xs) (y :: ys) (j + 1)) = lAt xs ys := by funext j; simp [lAt]
          rw [ee, el, e1]
          have e0 : eAt (x :: xs) (y :: ys) 0 = D.eqv x y := rfl
          have l0 : lAt (x :: xs) (y :: ys) 0 = b := by simp [lAt, h1]
          rw [e0, l0]
          exact Option.some.inj h
        · cases j with
          | zero => simp at hx hy; subst hx; subst hy; exact ⟨b, h1⟩
          | succ j => exact e2 j x' y' (by simpa using hx) (by simpa using hy)
theorem rcLt {X : Cx} {pins : List (Addr × Obj)} {σ : L2.St} {G H : Hp} {s : Shared} {c : Addr} (I : Inv X pins σ H s) (gh : Same G H) : ∀ (m : Nat) (d1 d2 : D) (v1 v2 : V) (u1 u2 : Value) (A : Around) (r : Bool),
    Rep c G v1 d1 → Rep c G v2 d2 → RelV v1 u1 → RelV v2 u2 → D.okq m d1 = true → D.okq m d2 = true → A.units + 2 * m + 80 < cLine → D.lt d1 d2 = some r → Ob.RcOp .Lt A s u1 u2 r := by
  intro m
  induction m with
  | zero =>
    intro d1 d2 v1 v2 u1 u2 A r r1 r2 q1 q2 o1 o2 hA h
    cases d1 <;> cases d2 <;> simp only [D.lt] at h <;> try (cases h; done)
    · cases r1; cases r2; obtain ⟨t, rfl⟩ := q1; obtain ⟨t', rfl⟩ := q2; cases h; exact Ob.RcOp.lt_int _ _ _ _
    · cases r1; cases r2; obtain ⟨t, rfl⟩ := q1; obtain ⟨t', rfl⟩ := q2; cases h; exact fun prog w E Q hq => DT.rcLt_str A s _ t _ t' prog w E Q hq
    · simp [D.okq] at o1
  | succ m ih =>
    intro d1 d2 v1 v2 u1 u2 A r r1 r2 q1 q2 o1 o2 hA h
    cases d1 <;> cases d2 <;> simp only [D.lt] at h <;> try (cases h; done)
    · cases r1; cases r2; obtain ⟨t, rfl⟩ := q1; obtain ⟨t', rfl⟩ := q2; cases h; exact Ob.RcOp.lt_int _ _ _ _
    · cases r1; cases r2; obtain ⟨t, rfl⟩ := q1; obtain ⟨t', rfl⟩ := q2; cases h; exact fun prog w E Q hq => DT.rcLt_str A s _ t _ t' prog w E Q hq
    · rename_i xs ys
      cases r1 with
      | tup g1 l1 => cases r2 with
        | tup g2 l2 =>
          cases q1; cases q2
          obtain ⟨its1, rv1, p1, _⟩ := I.tuple (.inl (g1.rd gh))
          obtain ⟨its2, rv2, p2, _⟩ := I.tuple (.inl (g2.rd gh))
          obtain ⟨e1, e2⟩ := ltL_lex xs ys r h
          have n1 : its1.toArray.size = xs.length := by rw [List.size_toArray, ← rv1.length, l1.length]
          have n2 : its2.toArray.size = ys.length := by rw [List.size_toArray, ← rv2.length, l2.length]
          have o1' : D.okqL m xs = true := o1
          have o2' : D.okqL m ys = true := o2
          have oat : ∀ {zs : List D} {j : Nat} {z : D}, D.okqL m zs = true → zs[j]? = some z → D.okq m z = true := by
            intro zs
            induction zs with
            | nil => intro j z _ e; simp at e
            | cons w zs ihz =>
              intro j z o e
              simp only [D.okqL, Bool.and_eq_true] at o
              cases j with
              | zero => simp at e; subst e; exact o.1
              | succ j => exact ihz o.2 (by simpa using e)
          have at1 : ∀ j (h1 : j < its1.toArray.size), ∃ x v, xs[j]? = some x ∧ Rep c G v x ∧ RelV v its1.toArray[j] ∧ D.okq m x = true := fun j h1 => by
            have hx : j < xs.length := by omega
            obtain ⟨v, hv, rv⟩ := l1.get (List.getElem?_eq_getElem hx)
            obtain ⟨u, hu, ru⟩ := rv1.get hv
            have : its1.toArray[j] = u := by simpa using (List.getElem?_eq_some_iff.mp hu).2
            exact ⟨_, v, List.getElem?_eq_getElem hx, rv, by rw [this]; exact ru, oat o1' (List.getElem?_eq_getElem hx)⟩
          have at2 : ∀ j (h1 : j < its2.toArray.size), ∃ x v, ys[j]? = some x ∧ Rep c G v x ∧ RelV v its2.toArray[j] ∧ D.okq m x = true := fun j h1 => by
            have hx : j < ys.length := by omega
            obtain ⟨v, hv, rv⟩ := l2.get (List.getElem?_eq_getElem hx)
            obtain ⟨u, hu, ru⟩ := rv2.get hv
            have : its2.toArray[j] = u := by simpa using (List.getElem?_eq_some_iff.mp hu).2
            exact ⟨_, v, List.getElem?_eq_getElem hx, rv, by rw [this]; exact ru, oat o2' (List.getElem?_eq_getElem hx)⟩
          have R := Ob.RcOp.tuples_lt (A := A) (s := s) (e := eAt xs ys) (r := lAt xs ys) p1 p2 (by omega) (fun j h1 h2 => ?_) (fun j h1 h2 _ => ?_)
          · rw [n1, n2, e1] at R; exact R
          · obtain ⟨x, v, hx, rx, ux, ox⟩ := at1 j h1
            obtain ⟨y, w', hy, ry, uy, oy⟩ := at2 j h2
            obtain ⟨as, R1⟩ := Dp.reads I x.py v _ (Rep.dp (X := X) gh m x v rx ox) ux
            obtain ⟨bs, R2⟩ := Dp.reads I y.py w' _ (Rep.dp (X := X) gh m y w' ry oy) uy
            have he : eAt xs ys j = PyData.eqv x.py y.py := by rw [eqv_py]; simp [eAt, hx, hy]
            rw [he]
            obtain ⟨c1, b1⟩ := okq_lay m x ox
            obtain ⟨c2, b2⟩ := okq_lay m y oy
            refine SeqAt.eqAt_reads _ _ _ _ _ _ as bs R1 R2 c1 c2 ?_
            have : A.in1.units = A.units + 1 := rfl
            omega
          · obtain ⟨x, v, hx, rx, ux, ox⟩ := at1 j h1
            obtain ⟨y, w', hy, ry, uy, oy⟩ := at2 j h2
            obtain ⟨b, hb⟩ := e2 j x y hx hy
            have he : lAt xs ys j = b := by simp [lAt, hx, hy, hb]
            rw [he]
            refine ih x y v w' _ _ A.in1 b rx ry ux uy ox oy ?_ hb
            have : A.in1.units = A.units + 1 := rfl
            omega

/-! ### comparisons by data -/
def rC2 (m : D → D → (Bool → Prop) → Prop) : R2 := rD2 fun a b k => m a b fun r => k (.bl r)
theorem rep_non {v : V} {d : D} (h : Rep c G v d) : (decide (v = V.non)) = d.isNon := by
  cases h <;> simp [D.isNon]
theorem op1D (hu : X.A.units + 300 < cLine) (o : OC) : OpR X (compareOp (toCmp o)) (rC2 (op1 o)) := by
  intro pins s σ H x y v u Q I rx ry ⟨c, G, n, d1, d2, k, b, r1, r2, m, hv⟩
  have B : ∀ r : Bool, k (.bl r) n → Q (.bl r) H := fun r h => hv.same b (.bl r) h
  cases o
  · obtain ⟨q1, q2, m⟩ := m
    refine op_eqD (by omega) pins s σ H x y v u Q I rx ry ⟨_, _, Rep.dp b.gh 60 d1 x r1 q1, Rep.dp b.gh 60 d2 y r2 q2, okq_shaped q1, okq_shaped q2, ?_⟩
    rw [eqv_py]; exact B _ m
  · obtain ⟨q1, q2, m⟩ := m
    refine op_neD (by omega) pins s σ H x y v u Q I rx ry ⟨_, _, Rep.dp b.gh 60 d1 x r1 q1, Rep.dp b.gh 60 d2 y r2 q2, okq_shaped q1, okq_shaped q2, ?_⟩
    rw [eqv_py]; exact B _ m
  · cases d1 <;> cases d2 <;> first
      | exact (show False from m).elim
      | skip
    · cases r1; cases r2; exact op_lt pins s σ H _ _ v u Q I rx ry ⟨_, _, rfl, rfl, B _ m⟩
    · rename_i xs ys
      obtain ⟨r, e, q1, q2, m⟩ := m
      have R := rcLt I b.gh 61 (.tup xs) (.tup ys) x y v u X.A r r1 r2 rx ry q1 q2 (by omega) (by simpa [D.lt] using e)
      exact R X.prog X.w X.xe (EP X pins σ Q) ⟨.bl r, H, I, rfl, B _ m⟩
  · cases d1 <;> cases d2 <;> first
      | exact (show False from m).elim
      | skip
    · cases r1; cases r2; exact op_le pins s σ H _ _ v u Q I rx ry ⟨_, _, rfl, rfl, B _ m⟩
    · cases r1; cases r2; exact op_le_str pins s σ H _ _ v u Q I rx ry ⟨_, _, rfl, rfl, B _ m⟩
  · cases d1 <;> cases d2 <;> first
      | exact (show False from m).elim
      | skip
    cases r1; cases r2; exact op_gt pins s σ H _ _ v u Q I rx ry ⟨_, _, rfl, rfl, B _ m⟩
  · cases d1 <;> cases d2 <;> first
      | exact (show False from m).elim
      | skip
    cases r1; cases r2; exact op_ge pins s σ H _ _ v u Q I rx ry ⟨_, _, rfl, rfl, B _ m⟩
  · cases d2 <;> first
      | exact (show False from m).elim
      | skip
    cases r2
    refine op_isN pins s σ H _ _ v u Q I rx ry ⟨rfl, ?_⟩
    rw [rep_non r1]; exact B _ m
  · cases d2 <;> first
      | exact (show False from m).elim
      | skip
    cases r2
    refine op_notN pins s σ H _ _ v u Q I rx ry ⟨rfl, ?_⟩
    rw [rep_non r1]; exact B _ m
  all_goals
    cases d2 <;> first
      | exact (show False from m).elim
      | skip
    all_goals
      obtain ⟨q1, q2, m⟩ := m
      obtain ⟨c1, b1⟩ := okq_lay 60 d1 q1
      obtain ⟨c2, b2⟩ := okqL_lay 60 _ q2
      obtain ⟨as, R1⟩ := Dp.reads I d1.py x v (Rep.dp b.gh 60 d1 x r1 q1) rx
      obtain ⟨bs, R2⟩ := Dp.reads I _ y u (Rep.dp b.gh 61 _ y r2 (show D.okq 61 _ = true from q2)) ry
      have hr : ∀ n : Nat, X.A.units + 1 + min n d1.py.depth < cLine := fun n => by
        have : min n d1.py.depth ≤ d1.py.depth := Nat.min_le_right _ _
        omega
      first
        | exact SeqAt.in_tuple_reads R2 R1 c2 c1 (hr _) ⟨.bl _, H, I, rfl, by rw [pys_any]; exact B _ m⟩
        | exact SeqAt.in_list_reads R2 R1 c2 c1 (hr _) ⟨.bl _, H, I, rfl, by rw [pys_any]; exact B _ m⟩
        | exact SeqAt.notIn_tuple_reads R2 R1 c2 c1 (hr _) ⟨.bl _, H, I, rfl, by rw [pys_any]; exact B _ m⟩
        | exact SeqAt.notIn_list_reads R2 R1 c2 c1 (hr _) ⟨.bl _, H, I, rfl, by rw [pys_any]; exact B _ m⟩
theorem op2D (o : O2) : OpR X (binaryOp (toOp o)) (rD2 (op2 o)) := by
  cases o
  · exact op_addD
  · exact op_subD
  · exact op_mulD
  · exact op_fdivD
  · exact op_modD
end
end PV
end
section
set_option Elab.async false
set_option linter.all false
set_option maxRecDepth 100000
set_option maxHeartbeats 2000000
namespace PV
open PySem PySem.Spec PyProof.Rows L2
/-! ### one-place built-ins by data -/
def rB (m : D → (D → Prop) → Prop) : List V → Hp → VK → Prop := fun xs H Q => ∃ c G n d k v, xs = [v] ∧ Base c G H n ∧ Rep c G v d ∧ m d (fun r => k r n) ∧ vOk c G H k Q
section
variable {X : Cx}
theorem cb_len : CallR X (.builtin "len") (rB (bfun .len)) := by
  intro pins s σ H xs us Q I r ⟨c, G, n, d, k, v, e, b, rp, m, hv⟩
  subst e
  cases d <;> first
    | exact (show False from m).elim
    | skip
  · rename_i x
    cases rp
    exact call_len_str pins s σ H _ us Q I r ⟨_, rfl, line_small m.1, hv.same b (.int _) m.2⟩
  · cases rp with
    | tup h q =>
      refine call_len_seq pins s σ H _ us Q I r ⟨_, _, rfl, .inr (.inl (h.rd b.gh)), ?_⟩
      rw [q.length]; exact hv.same b (.int _) m
  · cases rp with
    | lst h q =>
      refine call_len_seq pins s σ H _ us Q I r ⟨_, _, rfl, .inl (.inl (.inl (b.gh _ _ h))), ?_⟩
      rw [q.length]; exact hv.same b (.int _) m
  · cases rp with
    | scr h =>
      refine call_len_seq pins s σ H _ us Q I r ⟨_, _, rfl, .inl (.inl (.inr ⟨_, b.gh _ _ h⟩)), ?_⟩
      rw [List.length_map]; exact hv.same b (.int _) m
theorem cb_abs : CallR X (.builtin "abs") (rB (bfun .abs)) := by
  intro pins s σ H xs us Q I r ⟨c, G, n, d, k, v, e, b, rp, m, hv⟩
  subst e
  cases d <;> first
    | exact (show False from m).elim
    | skip
  cases rp
  exact call_abs pins s σ H _ us Q I r ⟨_, rfl, hv.same b (.int _) m⟩
theorem sum_tup {prog : Program} {w : World} {A : Around} {E : Value → Shared → Prop} {s : Shared} {t : Addr} {vs : List Value} {ns : List Int} {Q : Value → Shared → Prop} (hh : A.handled = none) (ht : IsTup s.heap t vs.toArray) (hi : IntsAre vs ns)
    (h : ∀ h' tk t', (∀ b o, s.heap.get? b = some o → h'.get? b = some o) → Q (.int ns.sum t') { s with heap := h', toks := tk }) :
    wpAny (model prog w) A (call (.builtin "sum") [.ref t]) Q E s := by
  have hl : s.heap.IsTuple t vs.toArray := ht
  obtain ⟨xs, hx⟩ := hi.allInts.items
  have hn : numsOf vs.toArray.toList = ns := by rw [show vs.toArray.toList = vs from rfl, hi.numsOf]
  rw [hx] at hl hn
  rw [nums_intItems] at hn
  refine PySem.W.ktm_sumG hh hl fun h' tk t' hk => ?_
  have := h h' tk t' hk
  rw [preSum_eq, List.take_of_length_le (by simp), hn]
  exact this
theorem cb_sum (hc : X.calm = true) : CallR X (.builtin "sum") (rB (bfun .sum)) := by
  intro pins s σ H xs us Q I r ⟨c, G, n, d, k, v, e, b, rp, m, hv⟩
  subst e
  cases d <;> first
    | exact (show False from m).elim
    | skip
  · obtain ⟨ns, e, m⟩ := m
    cases rp with
    | tup h q =>
      have e2 := q.allInts e
      subst e2
      obtain ⟨u, e1, r1⟩ := vals1 r
      subst e1
      cases r1
      obtain ⟨its, rv, ht, _⟩ := I.tuple (.inl (h.rd b.gh))
      exact sum_tup (I.ok.hd hc) ht rv.ints fun h' tk t' hk => ⟨.int _, H, I.kept (t' := tk) hk, ⟨_, rfl⟩, hv.same b (.int _) m⟩
  · obtain ⟨ns, e, m⟩ := m
    cases rp with
    | lst h q =>
      have e2 := q.allInts e
      subst e2
      exact cr_sum hc pins s σ H _ us Q I r ⟨_, ns, rfl, .inl (.inl (b.gh _ _ h)), hv.same b (.int _) m⟩
theorem cb_max (hc : X.calm = true) : CallR X (.builtin "max") (rB (bfun .max)) := by
  intro pins s σ H xs us Q I r ⟨c, G, n, d, k, v, e, b, rp, m, hv⟩
  subst e
  cases d <;> first
    | exact (show False from m).elim
    | skip
  obtain ⟨ns, e, ne, m⟩ := m
  cases rp with
  | lst h q =>
    have e2 := q.allInts e
    subst e2
    exact cr_max hc pins s σ H _ us Q I r ⟨_, ns, rfl, .inl (.inl (b.gh _ _ h)), List.length_pos_iff.mpr ne, fun y hy hm => hv.same b (.int _) (m y hy hm)⟩
theorem cb_min (hc : X.calm = true) : CallR X (.builtin "min") (rB (bfun .min)) := by
  intro pins s σ H xs us Q I r ⟨c, G, n, d, k, v, e, b, rp, m, hv⟩
  subst e
  cases d <;> first
    | exact (show False from m).elim
    | skip
  obtain ⟨ns, e, ne, m⟩ := m
  cases rp with
  | lst h q =>
    have e2 := q.allInts e
    subst e2
    exact cr_min hc pins s σ H _ us Q I r ⟨_, ns, rfl, .inl (.inl (b.gh _ _ h)), List.length_pos_iff.mpr ne, fun y hy hm => hv.same b (.int _) (m y hy hm)⟩
theorem cb_all (hc : X.calm = true) : CallR X (.builtin "all") (rB (bfun .all)) := by
  intro pins s σ H xs us Q I r ⟨c, G, n, d, k, v, e, b, rp, m, hv⟩
  subst e
  cases d <;> first
    | exact (show False from m).elim
    | skip
  obtain ⟨ns, e, m⟩ := m
  cases rp with
  | lst h q =>
    have e2 := q.allBls e
    subst e2
    exact cr_all hc pins s σ H _ us Q I r ⟨_, ns, rfl, .inl (.inl (b.gh _ _ h)), hv.same b (.bl _) m⟩
theorem cb_any (hc : X.calm = true) : CallR X (.builtin "any") (rB (bfun .any)) := by
  intro pins s σ H xs us Q I r ⟨c, G, n, d, k, v, e, b, rp, m, hv⟩
  subst e
  cases d <;> first
    | exact (show False from m).elim
    | skip
  obtain ⟨ns, e, m⟩ := m
  cases rp with
  | lst h q =>
    have e2 := q.allBls e
    subst e2
    exact cr_any hc pins s σ H _ us Q I r ⟨_, ns, rfl, .inl (.inl (b.gh _ _ h)), hv.same b (.bl _) m⟩
theorem cb_list : CallR X (.type "list") (rB (bfun .list)) := by
  intro pins s σ H xs us Q I r ⟨c, G, n, d, k, v, e, b, rp, m, hv⟩
  subst e
  cases d <;> first
    | exact (show False from m).elim
    | skip
  · cases rp with
    | tup h q => exact call_list_of pins s σ H _ us Q I r ⟨_, _, rfl, .inr (.inl (h.rd b.gh)), hv.lstNew b q m⟩
  · cases rp with
    | lst h q => exact call_list_of pins s σ H _ us Q I r ⟨_, _, rfl, .inl (.inl (.inl (b.gh _ _ h))), hv.lstNew b q m⟩
theorem cb_tuple : CallR X (.type "tuple") (rB (bfun .tuple)) := by
  intro pins s σ H xs us Q I r ⟨c, G, n, d, k, v, e, b, rp, m, hv⟩
  subst e
  cases d <;> first
    | exact (show False from m).elim
    | skip
  · cases rp with
    | tup h q => exact call_tuple_ofB pins s σ H _ us Q I r ⟨_, _, rfl, .inr ⟨.inl (h.rd b.gh), hv.same b (.tup h q) m⟩⟩
  · cases rp with
    | lst h q => exact call_tuple_ofB pins s σ H _ us Q I r ⟨_, _, rfl, .inl ⟨.inl (.inl (b.gh _ _ h)), hv.tupNewB b q m⟩⟩
theorem cb_int : CallR X (.type "int") (rB (bfun .int)) := by
  intro pins s σ H xs us Q I r ⟨c, G, n, d, k, v, e, b, rp, m, hv⟩
  subst e
  cases d <;> first
    | exact (show False from m).elim
    | skip
  · cases rp; exact call_int1 pins s σ H _ us Q I r (.inr ⟨_, rfl, hv.same b (.int _) m⟩)
  · cases rp; exact call_int1 pins s σ H _ us Q I r (.inl ⟨_, rfl, hv.same b (.int _) m⟩)
  · cases rp
    obtain ⟨m1, m2, m3, m⟩ := m
    exact call_int_str pins s σ H _ us Q I r ⟨_, _, rfl, intText_digits m2 m1 (by omega), m3, hv.same b (.int _) m⟩
theorem cb_str : CallR X (.type "str") (rB (bfun .str)) := by
  intro pins s σ H xs us Q I r ⟨c, G, n, d, k, v, e, b, rp, m, hv⟩
  subst e
  cases d <;> first
    | exact (show False from m).elim
    | skip
  · rename_i q
    cases rp
    obtain ⟨u, e1, r1⟩ := vals1 r
    subst e1
    cases r1
    exact P.str_of_bool ⟨.str _, H, I.tok _, ⟨_, rfl⟩, hv.same b (.str _) m⟩
  · cases rp
    exact call_str_int pins s σ H _ us Q I r ⟨_, rfl, Nat.lt_trans (pow_log2 (by decide) m.1) (by decide), hv.same b (.str _) m.2⟩
end
end PV
end
section
set_option Elab.async false
set_option linter.all false
set_option maxRecDepth 100000
set_option maxHeartbeats 2000000
namespace PV
open PySem PySem.Spec PyProof.Rows L2

mutual
theorem rep_fun {c : Addr} {G : Hp} (gc : G c = none) : ∀ {v : V} {d d' : D}, Rep c G v d → Rep c G v d' → d = d'
  | _, _, _, .non, h => by cases h; rfl
  | _, _, _, .bl _, h => by cases h; rfl
  | _, _, _, .int _, h => by cases h; rfl
  | _, _, _, .str _, h => by cases h; rfl
  | _, _, _, .lst g r, h => by
    cases h with
    | lst g' r' => rw [g] at g'; cases g'; rw [repL_fun gc r r']
    | tup g' r' => exact (g'.ne g (fun _ z => nomatch z) fun _ _ z => nomatch z).elim
    | st => rw [gc] at g; cases g
    | scr g' => rw [g] at g'; cases g'
  | _, _, _, .tup g r, h => by
    cases h with
    | lst g' r' => exact (g.ne g' (fun _ z => nomatch z) fun _ _ z => nomatch z).elim
    | tup g' r' => cases g.inj g'; rw [repL_fun gc r r']
    | st => obtain ⟨o, _, g⟩ := g; rw [gc] at g; cases g
    | scr g' => exact (g.ne g' (fun _ z => nomatch z) fun _ _ z => by injection z with _ z; exact nomatch z).elim
  | _, _, _, .st, h => by
    cases h with
    | lst g' r' => rw [gc] at g'; cases g'
    | tup g' r' => obtain ⟨o, _, g'⟩ := g'; rw [gc] at g'; cases g'
    | st => rfl
    | scr g' => rw [gc] at g'; cases g'
  | _, _, _, .scr g, h => by
    cases h with
    | lst g' r' => rw [g] at g'; cases g'
    | tup g' r' => exact (g'.ne g (fun _ z => nomatch z) fun _ _ z => by injection z with _ z; exact nomatch z).elim
    | st => rw [gc] at g; cases g
    | scr g' =>
      rw [g] at g'
      injection g' with g'
      injection g' with e1 e2
      injection e2 with e2
      have : ∀ (a b : List Int), a.map V.int = b.map V.int → a = b := by
        intro a
        induction a with
        | nil => intro b e; cases b with | nil => rfl | cons => simp at e
        | cons x a ih => intro b e; cases b with
          | nil => simp at e
          | cons y b => simp only [List.map_cons, List.cons.injEq] at e; obtain ⟨e1, e2⟩ := e; cases e1; rw [ih b e2]
      rw [this _ _ e2]
theorem repL_fun {c : Addr} {G : Hp} (gc : G c = none) : ∀ {vs : List V} {ds ds' : List D}, RepL c G vs ds → RepL c G vs ds' → ds = ds'
  | _, _, _, .nil, h => by cases h; rfl
  | _, _, _, .cons h r, h' => by
    cases h' with
    | cons h2 r2 => rw [rep_fun gc h h2, repL_fun gc r r2]
end

/-! ### ranks -/
def rkD (ds : List D) (d : D) : Nat := (ds.filter fun z => D.ltb z d).length
theorem filter_le {α : Type} {p q : α → Bool} : ∀ l : List α, (∀ x ∈ l, p x = true → q x = true) → (l.filter p).length ≤ (l.filter q).length
  | [], _ => Nat.le_refl _
  | x :: l, h => by
    have ih := filter_le l fun y hy => h y (List.mem_cons_of_mem _ hy)
    by_cases e : p x = true
    · have e2 := h x List.mem_cons_self e
      rw [List.filter_cons_of_pos e, List.filter_cons_of_pos e2]
      simpa using ih
    · rw [List.filter_cons_of_neg e]
      by_cases e2 : q x = true
      · rw [List.filter_cons_of_pos e2]; exact Nat.le_succ_of_le ih
      · rw [List.filter_cons_of_neg e2]; exact ih
theorem filter_lt {α : Type} {p q : α → Bool} : ∀ l : List α, (∀ x ∈ l, p x = true → q x = true) → (∃ x ∈ l, q x = true ∧ p x = false) → (l.filter p).length < (l.filter q).length
  | [], _, ⟨x, h, _⟩ => absurd h (by simp)
  | x :: l, h, ⟨y, hy, e1, e2⟩ => by
    have hl : ∀ y ∈ l, p y = true → q y = true := fun y hy => h y (List.mem_cons_of_mem _ hy)
    rcases List.mem_cons.mp hy with e | hy
    · subst e
      rw [List.filter_cons_of_pos e1, List.filter_cons_of_neg (by rw [e2]; simp)]
      exact Nat.lt_succ_of_le (filter_le l hl)
    · have ih := filter_lt l hl ⟨y, hy, e1, e2⟩
      by_cases e : p x = true
      · rw [List.filter_cons_of_pos e, List.filter_cons_of_pos (h x List.mem_cons_self e)]; simpa using ih
      · rw [List.filter_cons_of_neg e]
        by_cases e3 : q x = true
        · rw [List.filter_cons_of_pos e3]; exact Nat.lt_succ_of_lt ih
        · rw [List.filter_cons_of_neg e3]; exact ih
theorem SortPre.irr {ds : List D} (h : SortPre ds) {x : D} (hx : x ∈ ds) : D.ltb x x = false := by
  cases e : D.ltb x x with
  | false => rfl
  | true => exact (h.asym x hx x hx e).symm.trans e |>.symm ▸ rfl
theorem rk_iff {ds : List D} (h : SortPre ds) {x y : D} (hx : x ∈ ds) (hy : y ∈ ds) : decide (rkD ds x < rkD ds y) = D.ltb x y := by
  cases e : D.ltb x y with
  | true =>
    refine decide_eq_true (filter_lt ds (fun z hz hzx => ?_) ⟨x, hx, e, h.irr hx⟩)
    cases q : D.ltb z y with
    | true => rfl
    | false =>
      have a := h.asym x hx y hy e
      -- ¬ y < x → .. z < y false, y < x false: z < x false
      have := h.ntr x hx y hy z hz a q
      rw [this] at hzx; cases hzx
  | false =>
    refine decide_eq_false (Nat.not_lt.mpr (filter_le ds fun z hz hzy => ?_))
    cases q : D.ltb z x with
    | true => rfl
    | false =>
      have := h.ntr y hy x hx z hz e q
      rw [this] at hzy; cases hzy

/-! ### the values' data -/
open Classical in
noncomputable def decV (c : Addr) (G : Hp) (ds : List D) (u : Value) : Option D := if h : ∃ d, d ∈ ds ∧ ∃ x, RelV x u ∧ Rep c G x d then some (Classical.choose h) else none
theorem decV_eq {c : Addr} {G : Hp} (gc : G c = none) {ds : List D} {u : Value} {x : V} {d : D} (hd : d ∈ ds) (hx : RelV x u) (hr : Rep c G x d) : decV c G ds u = some d := by
  unfold decV
  have h : ∃ d, d ∈ ds ∧ ∃ x, RelV x u ∧ Rep c G x d := ⟨d, hd, x, hx, hr⟩
  rw [dif_pos h]
  obtain ⟨_, y, hy, ry⟩ := Classical.choose_spec h
  have e : y = x := hy.inj hx
  subst e
  exact congrArg some (rep_fun gc ry hr)
noncomputable def ltV (c : Addr) (G : Hp) (ds : List D) (v u : Value) : Bool := decide (((decV c G ds v).map (rkD ds)).getD 0 < ((decV c G ds u).map (rkD ds)).getD 0)
theorem ltV_swo (c : Addr) (G : Hp) (ds : List D) : SrtO.Swo (ltV c G ds) := by
  refine ⟨fun x y h => ?_, fun x y z h1 h2 => ?_⟩
  · have := of_decide_eq_true h
    exact decide_eq_false (by omega)
  · have a := of_decide_eq_false h1
    have b := of_decide_eq_false h2
    exact decide_eq_false (by omega)
theorem ltV_eq {c : Addr} {G : Hp} (gc : G c = none) {ds : List D} (h : SortPre ds) {u v : Value} {x y : V} {d e : D} (hd : d ∈ ds) (he : e ∈ ds) (hx : RelV x u) (hy : RelV y v) (rx : Rep c G x d) (ry : Rep c G y e) : ltV c G ds u v = D.ltb d e := by
  unfold ltV
  rw [decV_eq gc hd hx rx, decV_eq gc he hy ry]
  exact rk_iff h hd he

/-! ### one comparison of the sort, of two tuples -/
section
variable {X : Cx} {pins : List (Addr × Obj)} {σ : L2.St} {G H : Hp} {s : Shared} {c : Addr}
theorem okqL_at {m : Nat} : ∀ {zs : List D} {j : Nat} {z : D}, D.okqL m zs = true → zs[j]? = some z → D.okq m z = true
  | [], j, z, _, e => by simp at e
  | w :: zs, j, z, o, e => by
    simp only [D.okqL, Bool.and_eq_true] at o
    cases j with
    | zero => simp at e; subst e; exact o.1
    | succ j => exact okqL_at (zs := zs) (j := j) o.2 (by simpa using e)
theorem okqL_mem {m : Nat} {zs : List D} {z : D} (o : D.okqL m zs = true) (h : z ∈ zs) : D.okq m z = true := by
  obtain ⟨j, hj, e⟩ := List.mem_iff_getElem.mp h
  exact okqL_at (j := j) o (by rw [List.getElem?_eq_getElem hj, e])
/-- the pairs of two tuples, as the sort walks them -/
theorem katLex (I : Inv X pins σ H s) (gh : Same G H) {prog : Program} {w : World} {A : Around} (hA : A.units + 240 < cLine) : ∀ (m : Nat), m ≤ 60 → ∀ (xs ys : List D) (vs ws : List V) (us us2 : List Value) (b : Bool) (i : Nat) (fin : Bool) (r : Bool) (Q : Bool → Shared → Prop),
    RepL c G vs xs → RepL c G ws ys → Vals vs us → Vals ws us2 → D.okqL m xs = true → D.okqL m ys = true → D.ltL xs ys = some r →
    Q r s → (b = true → i = 0 → ∀ x y, xs.head? = some x → ys.head? = some y → ∃ p q, x = .int p ∧ y = .int q) → fin = decide (us.length < us2.length) → PySem.W.KatLex prog w A b fin Q (us.zip us2) i s := by
  intro m hm xs
  induction xs with
  | nil =>
    intro ys vs ws us us2 b i fin r Q r1 r2 v1 v2 o1 o2 h hQ _ hf
    cases r1; cases v1
    cases ys with
    | nil =>
      cases r2; cases v2
      simp [D.ltL] at h; subst h
      rw [hf]; exact PySem.W.kat_nil hQ
    | cons y ys =>
      simp [D.ltL] at h; subst h
      cases r2 with
      | cons _ _ => cases v2 with
        | cons _ _ => rw [hf]; exact PySem.W.kat_nil (by simpa using hQ)
  | cons x xs ih =>
    intro ys vs ws us us2 b i fin r Q r1 r2 v1 v2 o1 o2 h hQ hb hf
    cases ys with
    | nil =>
      cases r2; cases v2
      simp [D.ltL] at h; subst h
      rw [List.zip_nil_right, hf]
      exact PySem.W.kat_nil (by simpa using hQ)
    | cons y ys =>
      cases r1 with
      | cons rx r1 => cases r2 with
        | cons ry r2 => cases v1 with
          | cons ux v1 => cases v2 with
            | cons uy v2 =>
              rename_i v vs' w' ws' u us' u2 us2'
              simp only [D.okqL, Bool.and_eq_true] at o1 o2
              simp only [D.ltL] at h
              cases h1 : D.lt x y with
              | none => rw [h1] at h; simp at h
              | some b1 =>
                cases h2 : D.ltL xs ys with
                | none => rw [h1, h2] at h; simp at h
                | some r' =>
                  rw [h1, h2] at h
                  have h : (if D.eqv x y = true then r' else b1) = r := Option.some.inj h
                  obtain ⟨as, R1⟩ := Dp.reads I x.py v u (Rep.dp (X := X) gh m x v rx o1.1) ux
                  obtain ⟨bs, R2⟩ := Dp.reads I y.py w' u2 (Rep.dp (X := X) gh m y w' ry o2.1) uy
                  obtain ⟨c1, d1⟩ := okq_lay m x o1.1
                  obtain ⟨c2, d2⟩ := okq_lay m y o2.1
                  have E := SeqAt.eqAt_reads x.py y.py A s u u2 as bs R1 R2 c1 c2 (by omega)
                  rw [eqv_py] at E
                  refine PySem.W.kat_cons (E prog w _ _ ?_)
                  refine PySem.W.kat_go (fun e => PySem.W.kat_yes ?_) (fun e => PySem.W.kat_no ?_)
                  · rw [if_pos e] at h
                    subst h
                    refine ih ys vs' ws' us' us2' b (i + 1) fin r' Q r1 r2 v1 v2 o1.2 o2.2 h2 hQ (fun _ z => nomatch z) ?_
                    simpa using hf
                  · rw [if_neg (by rw [e]; simp)] at h
                    subst h
                    have L := rcLt I gh m x y v w' u u2 A b1 rx ry ux uy o1.1 o2.1 (by omega) h1
                    by_cases hbi : (b && i == 0) = true
                    · simp only [Bool.and_eq_true, beq_iff_eq] at hbi
                      obtain ⟨p, q, e1, e2⟩ := hb hbi.1 hbi.2 x y rfl rfl
                      subst e1; subst e2
                      cases rx; cases ry
                      obtain ⟨t, rfl⟩ := ux
                      obtain ⟨t', rfl⟩ := uy
                      rw [hbi.1, hbi.2]
                      simp [D.lt] at h1
                      subst h1
                      exact oneLt_int hQ
                    · have hbf : (b && i == 0) = false := by simpa using hbi
                      rw [hbf]
                      refine PySem.W.kat_one _ _ ?_
                      exact L prog w _ _ hQ
end

/-! ### the kind of tuples -/
section
variable {M : Model} {A : Around} {E : Value → Shared → Prop} {s : Shared}
def TupHd (h : Heap) : List Value → List (Option Value) → Prop
  | [], [] => True
  | v :: vs, f :: fs => (∃ a o xs n, v = .ref a ∧ h.get? a = some o ∧ o.cls = .type "tuple" ∧ o.data = .seq xs n ∧ xs[0]? = f) ∧ TupHd h vs fs
  | _, _ => False
theorem tup_firsts : ∀ (vs : List Value) (fs : List (Option Value)) {Q : List (Option Value) → Shared → Prop}, TupHd s.heap vs fs → Q fs s → wpAny M A (vs.mapM firstOfTuple') Q E s
  | [], [], _, _, h => by rw [List.mapM_nil]; exact wpAny_pure h
  | [], _ :: _, _, t, _ => t.elim
  | _ :: _, [], _, t, _ => t.elim
  | v :: vs, f :: fs, Q, t, h => by
    obtain ⟨⟨a, o, xs, n, rfl, ho, hc, hd, hf⟩, t⟩ := t
    rw [List.mapM_cons]
    refine wpAny_bind ?_
    rw [PySem.W.kas_first_eq]
    refine wpAny_bind (PySem.W.Looks.here (show PySem.W.Looks M s.heap (typeOf (.ref a)) o.cls from (PySem.W.Looks.ld ho).andThen .now) ?_)
    rw [hc, if_neg (by first | decide | simp)]
    refine wpAny_bind (listItems_at ho hd (wpAny_pure ?_))
    rw [hf]
    exact wpAny_bind (tup_firsts vs fs (Q := fun bs s' => wpAny M A (pure (f :: bs)) Q E s') t (wpAny_pure h))
theorem tup_kind {vs : List Value} {fs : List (Option Value)} {Q : SortKind → Shared → Prop} (t : TupHd s.heap vs fs) (h0 : vs ≠ []) (hn : none ∈ fs) (hT : ∀ v ∈ vs, PySem.W.Looks M s.heap (typeOf v) (.type "tuple"))
    (h1 : Q (if (fs.toArray[0]?.bind id).isSome = true then general' else oneType') s) : wpAny M A (keyKind' vs.toArray) Q E s := by
  rw [kat_kind_eq, List.mapM_toArray, map_eq_pure_bind]
  refine wpAny_bind (wpAny_bind (tup_firsts vs fs t (wpAny_pure ?_)))
  have hall : ¬ ((fs.toArray.all fun x => x.isSome) = true) := by
    intro z
    simp only [List.all_toArray, List.all_eq_true] at z
    have := z none hn
    simp at this
  rw [if_neg hall]
  split
  · rename_i hh
    rw [if_pos hh] at h1
    exact wpAny_pure h1
  · rename_i hh
    rw [if_neg hh] at h1
    obtain ⟨v₁, rest, rfl⟩ : ∃ v₁ rest, vs = v₁ :: rest := by
      cases vs with
      | nil => exact absurd rfl h0
      | cons v r => exact ⟨v, r, rfl⟩
    rw [oneTypeOnly'_eq, List.mapM_toArray, map_eq_pure_bind]
    refine wpAny_bind (wpAny_bind (wpAny_bind (PySem.W.kas_mapM (r := Value.type "tuple") _ (fun v hv Q' hq => (hT v hv).here hq) (wpAny_pure ?_))))
    have hall2 : ((List.map (fun _ => Value.type "tuple") (v₁ :: rest)).toArray.all fun x => x == Value.type "tuple") = true := by
      simp only [List.all_toArray, List.all_map, List.all_eq_true]
      intro _ _
      rfl
    have h0 : (List.map (fun _ => Value.type "tuple") (v₁ :: rest)).toArray[0]? = some (Value.type "tuple") := by simp
    rw [h0]
    simp only [hall2, if_true]
    exact wpAny_pure (wpAny_pure h1)
end
section
variable {X : Cx} {pins : List (Addr × Obj)} {σ : L2.St} {G H : Hp} {s : Shared} {c : Addr}
theorem tup_type (I : Inv X pins σ H s) (gh : Same G H) {M : Model} {v : V} {u : Value} {xs : List D} (r : Rep c G v (.tup xs)) (ru : RelV v u) : PySem.W.Looks M s.heap (typeOf u) (.type "tuple") := by
  cases r with
  | tup g l =>
    cases ru
    obtain ⟨its, rv, ⟨o, ho, hc, n, hd⟩, _⟩ := I.tuple (.inl (g.rd gh))
    have z : PySem.W.Looks M s.heap (typeOf (.ref _)) o.cls := (PySem.W.Looks.ld ho).andThen .now
    rw [hc] at z
    exact z
theorem firsts_of (I : Inv X pins σ H s) (gh : Same G H) : ∀ (ds : List D) (vs : List V) (us : List Value), RepL c G vs ds → Vals vs us → (∀ d ∈ ds, ∃ xs, d = .tup xs) →
    ∃ fs : List (Option Value), TupHd s.heap us fs ∧ fs.length = ds.length ∧ ∀ j : Nat, ∀ xs, ds[j]? = some (.tup xs) → ∃ f, fs[j]? = some f ∧ ((xs = [] ∧ f = none) ∨ ∃ x v u, xs.head? = some x ∧ f = some u ∧ RelV v u ∧ Rep c G v x)
  | [], _, _, r, v, _ => by
    cases r; cases v
    exact ⟨[], trivial, rfl, fun j xs h => by simp at h⟩
  | d :: ds, _, _, r, v, ht => by
    cases r with
    | cons r1 r2 => cases v with
      | cons v1 v2 =>
        obtain ⟨xs, rfl⟩ := ht d List.mem_cons_self
        obtain ⟨fs, h1, h2, h3⟩ := firsts_of I gh ds _ _ r2 v2 fun e he => ht e (List.mem_cons_of_mem _ he)
        cases r1 with
        | tup g l =>
          cases v1
          obtain ⟨its, rv, ⟨o, ho, hc, n, hd⟩, _⟩ := I.tuple (.inl (g.rd gh))
          refine ⟨its.toArray[0]? :: fs, ⟨⟨_, o, its.toArray, n, rfl, ho, hc, hd, rfl⟩, h1⟩, by simp [h2], fun j ys hj => ?_⟩
          cases j with
          | zero =>
            simp at hj
            subst hj
            refine ⟨_, rfl, ?_⟩
            cases l with
            | nil => cases rv; exact .inl ⟨rfl, rfl⟩
            | cons l1 l2 => cases rv with
              | cons w1 w2 => exact .inr ⟨_, _, _, rfl, rfl, w1, l1⟩
          | succ j =>
            obtain ⟨f, e1, e2⟩ := h3 j ys (by simpa using hj)
            exact ⟨f, by simpa using e1, e2⟩
theorem TupHd.kat {h : Heap} : ∀ {us : List Value} {fs : List (Option Value)} {gs : List Value}, TupHd h us fs → fs = gs.map some → PySem.W.KatTups h us gs
  | [], [], [], _, _ => trivial
  | [], [], _ :: _, _, e => by simp at e
  | [], _ :: _, _, t, _ => t.elim
  | _ :: _, [], _, t, _ => t.elim
  | u :: us, f :: fs, [], _, e => by simp at e
  | u :: us, f :: fs, g :: gs, t, e => by
    simp only [List.map_cons, List.cons.injEq] at e
    obtain ⟨e1, e2⟩ := e
    subst e1
    obtain ⟨⟨a, o, xs, n, h1, h2, h3, h4, h5⟩, t⟩ := t
    exact ⟨⟨a, o, xs, n, h1, h2, h3, h4, h5⟩, TupHd.kat t e2⟩
theorem somes_of {fs : List (Option Value)} (h : none ∉ fs) : ∃ gs : List Value, fs = gs.map some := by
  induction fs with
  | nil => exact ⟨[], rfl⟩
  | cons f fs ih =>
    simp only [List.mem_cons, not_or] at h
    obtain ⟨gs, e⟩ := ih h.2
    cases f with
    | none => exact absurd rfl h.1
    | some g => exact ⟨g :: gs, by rw [e]; rfl⟩
/-- tuples compared as the sort does, in each of its kinds -/
theorem tup_sortable (I : Inv X pins σ H s) (gh : Same G H) (gc : G c = none) {A : Around} (hA : A.units + 260 < cLine) {a : Addr} {ds : List D} {vs : List V} {us : List Value} (r : RepL c G vs ds) (v : Vals vs us) (sp : SortPre ds) (ht : firstsOk ds = true) (h2 : us ≠ []) (s1 : Shared)
    (hk : ∀ b o, s.heap.get? b = some o → b ≠ a ∧ s1.heap.get? b = some o) (hs : ∀ h' : Heap, (∀ b o, s.heap.get? b = some o → h'.get? b = some o) → Inv X pins σ H { s1 with heap := h' }) :
    SrtO.SortableO X.prog X.w A s1 a us (ltV c G ds) := by
  intro h' keep
  have I' := hs h' fun b o e => keep b o (hk b o e).1 (hk b o e).2
  have allT : ∀ d ∈ ds, ∃ xs, d = .tup xs := fun d hd => by
    have : d.isTup = true := by
      unfold firstsOk at ht
      rw [Bool.or_eq_true] at ht
      rcases ht with z | z
      · have := List.all_eq_true.mp z d hd
        cases d <;> first | rfl | (simp at this)
      · have := List.all_eq_true.mp z d hd
        cases d <;> first | rfl | (simp at this)
    cases d with
    | tup xs => exact ⟨xs, rfl⟩
    | _ => simp [D.isTup] at this
  have at_ : ∀ u ∈ us, ∃ v d, RelV v u ∧ Rep c G v d ∧ d ∈ ds := fun u hu => by
    obtain ⟨j, hj, e⟩ := List.mem_iff_getElem.mp hu
    have hlv : j < vs.length := by rw [v.length]; exact hj
    obtain ⟨u', hu', ru⟩ := v.get (List.getElem?_eq_getElem hlv)
    obtain ⟨d, hd, rd⟩ := r.get' (List.getElem?_eq_getElem hlv)
    have e2 : u' = u := by rw [List.getElem?_eq_getElem hj] at hu'; rw [← e]; exact (Option.some.inj hu').symm
    subst e2
    exact ⟨_, d, ru, rd, List.mem_of_getElem? hd⟩
  have ltE : ∀ u ∈ us, ∀ w' ∈ us, ∃ x y xs ys, RelV x u ∧ RelV y w' ∧ Rep c G x (.tup xs) ∧ Rep c G y (.tup ys) ∧ D.tup xs ∈ ds ∧ D.tup ys ∈ ds ∧ D.ltL xs ys = some (ltV c G ds u w') := fun u hu w' hw => by
    obtain ⟨x, d, r1, r2, r3⟩ := at_ u hu
    obtain ⟨y, e, q1, q2, q3⟩ := at_ w' hw
    obtain ⟨xs, rfl⟩ := allT d r3
    obtain ⟨ys, rfl⟩ := allT e q3
    refine ⟨x, y, xs, ys, r1, q1, r2, q2, r3, q3, ?_⟩
    rw [ltV_eq gc sp r3 q3 r1 q1 r2 q2]
    have := sp.some _ r3 _ q3
    unfold D.ltb
    have e1 : D.lt (.tup xs) (.tup ys) = D.ltL xs ys := rfl
    rw [e1] at this ⊢
    cases z : D.ltL xs ys with
    | none => rw [z] at this; simp at this
    | some b => rfl
  have okT : ∀ xs, D.tup xs ∈ ds → D.okqL 59 xs = true := fun xs h => okqL_mem sp.okq h
  obtain ⟨fs, f1, f2, f3⟩ := firsts_of I' gh ds vs us r v allT
  by_cases hn : none ∈ fs
  · -- general or one type
    have lt0 : ∀ u ∈ us, ∀ w' ∈ us, Ob.RcOp .Lt A { s1 with heap := h' } u w' (ltV c G ds u w') := fun u hu w' hw => by
      obtain ⟨x, y, xs, ys, r1, q1, r2, q2, r3, q3, e⟩ := ltE u hu w' hw
      exact rcLt I' gh 60 (.tup xs) (.tup ys) x y u w' A _ r2 q2 r1 q1 (okT xs r3) (okT ys q3) (by omega) e
    have gen : SrtO.Cmp X.prog X.w A { s1 with heap := h' } general' (fun p => p.1 ∈ us) (SrtO.lt2 (ltV c G ds)) := fun p q hp hq => by
      show wpAny _ _ (oneLt' false p.1 q.1) _ _ _
      exact PySem.W.kat_one _ _ (lt0 _ hp _ hq _ _ _ _ ⟨rfl, rfl⟩)
    have one : SrtO.Cmp X.prog X.w A { s1 with heap := h' } oneType' (fun p => p.1 ∈ us) (SrtO.lt2 (ltV c G ds)) := fun p q hp hq => by
      obtain ⟨x, y, xs, ys, r1, q1, r2, q2, r3, q3, e⟩ := ltE _ hp _ hq
      rw [keyLt'_oneType, oneLt'_eq]
      simp only [if_true]
      cases r2 with
      | tup g1 l1 => cases q2 with
        | tup g2 l2 =>
          have k1 : p.1 = .ref _ := r1
          have k2 : q.1 = .ref _ := q1
          rw [k1, k2] at e ⊢
          obtain ⟨its1, rv1, ⟨⟨cls, dd, data, sl⟩, ho1, hc1, n1, hd1⟩, _⟩ := I'.tuple (.inl (g1.rd gh))
          obtain ⟨its2, rv2, ⟨⟨cls2, dd2, data2, sl2⟩, ho2, hc2, n2, hd2⟩, _⟩ := I'.tuple (.inl (g2.rd gh))
          simp only at hc1 hd1 hc2 hd2
          subst hc1 hd1 hc2 hd2
          obtain ⟨e1, e2⟩ := ltL_lex xs ys _ e
          refine wpAny_bind (wpAny_cRoomFor (by omega) ?_)
          refine wpAny_bind (wpAny_callSpecialIfBound?_slot (T := "tuple") ⟨_, ho1, rfl⟩ PySem.F.slot_tuple_lt ?_)
          have l1' : its1.toArray.size = xs.length := by rw [List.size_toArray, ← rv1.length, l1.length]
          have l2' : its2.toArray.size = ys.length := by rw [List.size_toArray, ← rv2.length, l2.length]
          have at1 : ∀ j (h1 : j < its1.toArray.size), ∃ x v, xs[j]? = some x ∧ Rep c G v x ∧ RelV v its1.toArray[j] ∧ D.okq 59 x = true := fun j h1 => by
            have hx : j < xs.length := by omega
            obtain ⟨v, hv, rv⟩ := l1.get (List.getElem?_eq_getElem hx)
            obtain ⟨u, hu, ru⟩ := rv1.get hv
            have : its1.toArray[j] = u := by simpa using (List.getElem?_eq_some_iff.mp hu).2
            exact ⟨_, v, List.getElem?_eq_getElem hx, rv, by rw [this]; exact ru, okqL_at (okT xs r3) (List.getElem?_eq_getElem hx)⟩
          have at2 : ∀ j (h1 : j < its2.toArray.size), ∃ x v, ys[j]? = some x ∧ Rep c G v x ∧ RelV v its2.toArray[j] ∧ D.okq 59 x = true := fun j h1 => by
            have hx : j < ys.length := by omega
            obtain ⟨v, hv, rv⟩ := l2.get (List.getElem?_eq_getElem hx)
            obtain ⟨u, hu, ru⟩ := rv2.get hv
            have : its2.toArray[j] = u := by simpa using (List.getElem?_eq_some_iff.mp hu).2
            exact ⟨_, v, List.getElem?_eq_getElem hx, rv, by rw [this]; exact ru, okqL_at (okT ys q3) (List.getElem?_eq_getElem hx)⟩
          refine call_meets PySem.F.slot_tuple_lt ⟨_, ho1, rfl⟩ PySem.F.entry_tuple_lt (PySem.F.args_tuple_lt_2 _ _) (Ob.tuple_ltAt _ _ _ _ _ _ _ _ _ _ (eAt xs ys) (lAt xs ys)) ⟨ho1, ho2, fun j h1 h2 => ?_, fun j h1 h2 _ => ?_, ?_⟩
          · obtain ⟨x, v, hx, rx, ux, ox⟩ := at1 j h1
            obtain ⟨y, w', hy, ry, uy, oy⟩ := at2 j h2
            obtain ⟨as, R1⟩ := Dp.reads I' x.py v _ (Rep.dp (X := X) gh 59 x v rx ox) ux
            obtain ⟨bs, R2⟩ := Dp.reads I' y.py w' _ (Rep.dp (X := X) gh 59 y w' ry oy) uy
            have he : eAt xs ys j = PyData.eqv x.py y.py := by rw [eqv_py]; simp [eAt, hx, hy]
            rw [he]
            obtain ⟨c1, b1⟩ := okq_lay 59 x ox
            obtain ⟨c2, b2⟩ := okq_lay 59 y oy
            refine SeqAt.eqAt_reads _ _ _ _ _ _ as bs R1 R2 c1 c2 ?_
            have : A.in1.units = A.units + 1 := rfl
            omega
          · obtain ⟨x, v, hx, rx, ux, ox⟩ := at1 j h1
            obtain ⟨y, w', hy, ry, uy, oy⟩ := at2 j h2
            obtain ⟨b, hb⟩ := e2 j x y hx hy
            have he : lAt xs ys j = b := by simp [lAt, hx, hy, hb]
            rw [he]
            refine rcLt I' gh 59 x y v w' _ _ A.in1 b rx ry ux uy ox oy ?_ hb
            have : A.in1.units = A.units + 1 := rfl
            omega
          · rw [l1', l2', e1]
            exact wpAny_truthy_bool ⟨rfl, by show _ = ltV c G ds p.1 q.1; rw [k1, k2]⟩
    refine ⟨if (fs.toArray[0]?.bind id).isSome = true then general' else oneType', fun Q E hq => tup_kind f1 h2 hn (fun u hu => ?_) hq, ?_⟩
    · obtain ⟨y, d, r1, r2, r3⟩ := at_ u hu
      obtain ⟨xs, rfl⟩ := allT d r3
      exact tup_type I' gh r2 r1
    · split
      · exact gen
      · exact one
  · obtain ⟨gs, e⟩ := somes_of hn
    have kt := f1.kat e
    have hlen : 0 < gs.length := by
      have : fs.length = gs.length := by rw [e]; simp
      have h3 : ds.length = us.length := by rw [← r.length, v.length]
      have : us.length ≠ 0 := fun z => h2 (List.eq_nil_of_length_eq_zero z)
      omega
    -- the first items
    have gat : ∀ g ∈ gs, ∃ j : Nat, ∃ xs x v, ds[j]? = some (.tup xs) ∧ xs.head? = some x ∧ RelV v g ∧ Rep c G v x := fun g hg => by
      obtain ⟨j, hj, eg⟩ := List.mem_iff_getElem.mp hg
      have hfj : fs[j]? = some (some g) := by rw [e, List.getElem?_map, List.getElem?_eq_getElem hj, eg]; rfl
      have hjl : j < ds.length := by rw [← f2, e, List.length_map]; exact hj
      obtain ⟨xs, ex⟩ := allT ds[j] (List.getElem_mem hjl)
      have ed : ds[j]? = some (.tup xs) := by rw [List.getElem?_eq_getElem hjl, ex]
      obtain ⟨f, e1, e2⟩ := f3 j xs ed
      rw [hfj] at e1
      have e1 := Option.some.inj e1
      subst e1
      rcases e2 with ⟨_, z⟩ | ⟨x, v, u, q1, q2, q3, q4⟩
      · cases z
      · cases q2; exact ⟨j, xs, x, v, ed, q1, q3, q4⟩
    have ne : ∀ xs, D.tup xs ∈ ds → xs ≠ [] := fun xs hx => by
      obtain ⟨j, hj, ej⟩ := List.mem_iff_getElem.mp hx
      obtain ⟨f, e1, e2⟩ := f3 j xs (by rw [List.getElem?_eq_getElem hj, ej])
      rcases e2 with ⟨_, z⟩ | ⟨x, v, u, q1, q2, q3, q4⟩
      · subst z; exact absurd (List.mem_of_getElem? e1) hn
      · intro z; subst z; simp at q1
    have cmp : ∀ b : Bool, (b = true → ∀ xs, D.tup xs ∈ ds → ∃ p r, xs = .int p :: r) → SrtO.Cmp X.prog X.w A { s1 with heap := h' } (tuples' b) (fun p => p.1 ∈ us) (SrtO.lt2 (ltV c G ds)) := fun b hb p q hp hq => by
      obtain ⟨x, y, xs, ys, r1, q1, r2, q2, r3, q3, e⟩ := ltE _ hp _ hq
      cases r2 with
      | tup g1 l1 => cases q2 with
        | tup g2 l2 =>
          have k1 : p.1 = .ref _ := r1
          have k2 : q.1 = .ref _ := q1
          show wpAny _ _ (keyLt' (tuples' b) p.1 q.1) (fun r s' => s' = _ ∧ r = ltV c G ds p.1 q.1) _ _
          rw [k1, k2] at e ⊢
          obtain ⟨its1, rv1, ⟨o1, ho1, hc1, n1, hd1⟩, _⟩ := I'.tuple (.inl (g1.rd gh))
          obtain ⟨its2, rv2, ⟨o2, ho2, hc2, n2, hd2⟩, _⟩ := I'.tuple (.inl (g2.rd gh))
          refine PySem.W.kat_lt ho1 hd1 ho2 hd2 ?_
          refine katLex I' gh (by omega) 59 (by decide) xs ys _ _ its1 its2 b 0 _ _ _ l1 l2 rv1 rv2 (okT xs r3) (okT ys q3) e ⟨rfl, rfl⟩ (fun hb1 _ x y hx hy => ?_) (by simp)
          obtain ⟨p1, t1, e1⟩ := hb hb1 xs r3
          obtain ⟨p2, t2, e2⟩ := hb hb1 ys q3
          subst e1; subst e2
          simp at hx hy
          exact ⟨p1, p2, hx.symm, hy.symm⟩
    unfold firstsOk at ht
    rw [Bool.or_eq_true] at ht
    rcases ht with z | z
    · have fi : ∀ xs, D.tup xs ∈ ds → ∃ p r, xs = .int p :: r := fun xs hx => by
        have := List.all_eq_true.mp z _ hx
        have nn := ne xs hx
        cases xs with
        | nil => exact absurd rfl nn
        | cons x r => cases x <;> first | exact ⟨_, _, rfl⟩ | (simp at this)
      refine ⟨tuples' true, fun Q E hq => PySem.W.kat_kind (T := .type "int") kt hlen (fun g hg => ?_) rfl ?_, cmp true fun _ => fi⟩
      · obtain ⟨j, xs, x, v, ed, q1, q3, q4⟩ := gat g hg
        obtain ⟨p, r, e2⟩ := fi xs (List.mem_of_getElem? ed)
        subst e2
        simp at q1
        subst q1
        cases q4
        obtain ⟨t, rfl⟩ := q3
        exact PySem.W.Looks.now
      · have e3 : (Value.type "int" != Value.type "tuple") = true := by first | decide +kernel | rfl | decide
        rw [e3]; exact hq
    · have fi : ∀ xs, D.tup xs ∈ ds → ∃ p r, xs = .tup p :: r := fun xs hx => by
        have := List.all_eq_true.mp z _ hx
        have nn := ne xs hx
        cases xs with
        | nil => exact absurd rfl nn
        | cons x r => cases x <;> first | exact ⟨_, _, rfl⟩ | (simp at this)
      refine ⟨tuples' false, fun Q E hq => PySem.W.kat_kind (T := .type "tuple") kt hlen (fun g hg => ?_) rfl ?_, cmp false fun z => nomatch z⟩
      · obtain ⟨j, xs, x, v, ed, q1, q3, q4⟩ := gat g hg
        obtain ⟨p, r, e2⟩ := fi xs (List.mem_of_getElem? ed)
        subst e2
        simp at q1
        subst q1
        exact tup_type I' gh q4 q3
      · have e3 : (Value.type "tuple" != Value.type "tuple") = false := by first | rfl | decide | simp
        rw [e3]; exact hq
theorem cb_sorted (hu : X.A.units + 300 < cLine) : CallR X (.builtin "sorted") (rB (bfun .sorted)) := by
  intro pins s σ H xs us Q I r ⟨c, G, n, d, k, v, e, b, rp, m, hv⟩
  subst e
  cases d <;> first
    | exact (show False from m).elim
    | skip
  rename_i ds
  obtain ⟨hsm, sp, m⟩ := m
  cases rp with
  | lst g q =>
    by_cases hi : (allInts ds).isSome = true
    · obtain ⟨ns, hns⟩ := Option.isSome_iff_exists.mp hi
      have e1 := q.allInts hns
      subst e1
      refine cr_sortedI pins s σ H _ us Q I r ⟨_, ns, rfl, .inl (.inl (b.gh _ _ g)), fun ns' p hp hw hpn => ?_⟩
      have allI : ∀ {l : List D} {ms : List Int}, allInts l = some ms → l = ms.map D.int := by
        intro l
        induction l with
        | nil => intro ms h; simp [allInts] at h; subst h; rfl
        | cons x l ih =>
          intro ms h
          cases x <;> simp only [allInts, Option.map_eq_some_iff, reduceCtorEq] at h
          obtain ⟨ms', h1, h2⟩ := h
          subst h2
          rw [ih h1]; rfl
      have e2 := allI hns
      refine hv.lstNew b (RepL.ints ns') (m _ ?_ ?_) p hpn
      · rw [e2]; exact hp.map _
      · rw [List.pairwise_map]
        exact hw.imp fun {x y} h => by simp [D.ltb, D.lt]; omega
    · have ht : firstsOk ds = true := sp.kind.resolve_left hi
      obtain ⟨its, rv, hl, hz⟩ := I.list (.inl (.inl (b.gh _ _ g)))
      rw [Vals.ref1 r]
      have allT : ∀ d ∈ ds, ∃ xs, d = .tup xs := fun d hd => by
        unfold firstsOk at ht
        rw [Bool.or_eq_true] at ht
        rcases ht with z | z
        · have := List.all_eq_true.mp z d hd
          cases d <;> first | exact ⟨_, rfl⟩ | (simp at this)
        · have := List.all_eq_true.mp z d hd
          cases d <;> first | exact ⟨_, rfl⟩ | (simp at this)
      refine SrtO.sorted_ord (ltV_swo c G ds) hl.isList (by rw [← rv.length]; exact hz) (fun h2 h₁ a ha kk => ?_) fun out hs hb => ?_
      · refine tup_sortable I b.gh b.gc (by show X.A.units + 1 + 1 + 260 < cLine; omega) q rv sp ht (fun z => by rw [z] at h2; simp at h2) _ kk fun h' kh => ?_
        exact I.kept (t' := s.toks) kh
      · -- the values' data
        have datum : ∀ u ∈ its, ∃ (a : Addr) (d : D), u = Value.ref a ∧ Rep c G (.ref a) d ∧ d ∈ ds := fun u hu => by
          obtain ⟨j, hj, ej⟩ := List.mem_iff_getElem.mp hu
          have hlv : j < its.length := hj
          have hvl := rv.length
          have hjx : j < ds.length := by rw [← q.length, hvl]; exact hj
          obtain ⟨x, hx, rx⟩ := q.get (List.getElem?_eq_getElem hjx)
          obtain ⟨u', hu', ru⟩ := rv.get hx
          rw [List.getElem?_eq_getElem hj, ej] at hu'
          have hu' := Option.some.inj hu'
          subst hu'
          obtain ⟨ys, ey⟩ := allT ds[j] (List.getElem_mem hjx)
          rw [ey] at rx
          cases rx with
          | tup g1 l1 =>
            exact ⟨_, _, ru, .tup g1 l1, by rw [← ey]; exact List.getElem_mem hjx⟩
        have its_ds : its.map (fun u => (decV c G ds u).getD .non) = ds := by
          refine List.ext_getElem (by rw [List.length_map, ← rv.length, q.length]) fun j h1 h2 => ?_
          have hjx : j < ds.length := h2
          obtain ⟨x, hx, rx⟩ := q.get (List.getElem?_eq_getElem hjx)
          obtain ⟨u', hu', ru⟩ := rv.get hx
          have hj : j < its.length := by rw [List.length_map] at h1; exact h1
          rw [List.getElem?_eq_getElem hj] at hu'
          have hu' := Option.some.inj hu'
          rw [List.getElem_map, hu', decV_eq b.gc (List.getElem_mem hjx) ru rx]; rfl
        obtain ⟨ep, he'⟩ := PyProof.Rows.sortedAll_at s.heap its out.toArray
        have h3 : ∀ u ∈ out, ∃ a, u = Value.ref a := fun u hu => by
          obtain ⟨a, d, e1, _, _⟩ := datum u (hb.perm.mem_iff.mp hu)
          exact ⟨a, e1⟩
        have repO : ∀ (l : List Value), (∀ u ∈ l, u ∈ its) → RepL c G (l.map bkV) (l.map fun u => (decV c G ds u).getD .non) := by
          intro l
          induction l with
          | nil => intro _; exact .nil
          | cons u l ih =>
            intro h
            obtain ⟨a, d, e1, e2, e3⟩ := datum u (h u List.mem_cons_self)
            subst e1
            refine .cons ?_ (ih fun w hw => h w (List.mem_cons_of_mem _ hw))
            show Rep c G (bkV (Value.ref a)) ((decV c G ds (Value.ref a)).getD D.non)
            rw [decV_eq b.gc e3 (show RelV (.ref a) (.ref a) from rfl) e2]
            exact e2
        have ro := repO out fun u hu => hb.perm.mem_iff.mp hu
        have hlen : (out.map bkV).length ≤ sizeLine := by
          rw [List.length_map, hb.perm.length_eq, ← rv.length]; exact hz
        have pm : (out.map fun u => (decV c G ds u).getD .non).Perm ds := by
          have := hb.perm.map fun u => (decV c G ds u).getD .non
          rw [its_ds] at this
          exact this
        have pw : (out.map fun u => (decV c G ds u).getD .non).Pairwise fun x y => D.ltb y x = false := by
          rw [List.pairwise_map]
          have mm : ∀ u ∈ out, u ∈ its := fun u hu => hb.perm.mem_iff.mp hu
          have hs' : out.Pairwise fun u v => ltV c G ds v u = false := hs
          refine List.Pairwise.imp_of_mem (fun {u v} hu hw h => ?_) hs'
          obtain ⟨a1, d1, e1, e2, e3⟩ := datum u (mm u hu)
          obtain ⟨a2, d2, q1, q2, q3⟩ := datum v (mm v hw)
          subst e1; subst q1
          rw [decV_eq b.gc e3 (show RelV (.ref a1) (.ref a1) from rfl) e2, decV_eq b.gc q3 (show RelV (.ref a2) (.ref a2) from rfl) q2]
          rw [ltV_eq b.gc sp q3 e3 (show RelV (.ref a2) (.ref a2) from rfl) (show RelV (.ref a1) (.ref a1) from rfl) q2 e2] at h
          exact h
        have hf : H (s.heap.objs.size + 1) = none := I.hok.fresh (Nat.le_succ _)
        exact ⟨.ref _, upd H (s.heap.objs.size + 1) (.lst (out.map bkV)), I.laid (t' := s.toks) (fun _ _ => PyProof.Rows.sortedAll_old) (Nat.le_succ _) ⟨hlen, out, ep, bkV_vals h3, he'⟩, rfl, hv.lstNew b ro (m _ pm pw) _ hf⟩
end
end PV
end
section
set_option Elab.async false
set_option linter.all false
set_option maxRecDepth 100000
set_option maxHeartbeats 2000000
namespace PV
open PySem PySem.Spec PyProof.Rows L2

/-! ### slots set, killed -/
theorem gt_set {env : Env} {i j : Nat} {s : Slot} (h : i < env.length) : gt (env.set i s) j = if j = i then s else gt env j := by
  unfold gt
  by_cases e : j = i
  · subst e; rw [if_pos rfl, List.getD_eq_getElem?_getD, List.getElem?_set_self h]; rfl
  · rw [if_neg e, List.getD_eq_getElem?_getD, List.getElem?_set_ne (Ne.symm e), ← List.getD_eq_getElem?_getD]
theorem gt_set_no {env : Env} {i j : Nat} : gt (env.set i .no) j = if j = i then .no else gt env j := by
  by_cases h : i < env.length
  · exact gt_set h
  · have : env.set i .no = env := List.set_eq_of_length_le (Nat.le_of_not_lt h)
    rw [this]
    by_cases e : j = i
    · subst e; rw [if_pos rfl]; unfold gt; rw [List.getD_eq_getElem?_getD, List.getElem?_eq_none (Nat.le_of_not_lt h)]; rfl
    · rw [if_neg e]
theorem gt_kill {env : Env} {j : Nat} : ∀ {l : List Nat}, gt (killE env l) j = if j ∈ l then .no else gt env j
  | [] => by simp [killE]
  | v :: vs => by
    unfold killE
    rw [gt_set_no, gt_kill (l := vs)]
    by_cases e : j = v
    · simp [e]
    · by_cases e2 : j ∈ vs <;> simp [e, e2]
theorem kill_length (env : Env) : ∀ l : List Nat, (killE env l).length = env.length
  | [] => rfl
  | v :: vs => by unfold killE; rw [List.length_set, kill_length env vs]
section
variable {c : Addr} {G G' H H' H0 : Hp} {env env' : Env} {σ σ' : L2.St}
theorem EnvR.kill (r : EnvR c H0 env σ G H) (l : List Nat) (hl : σ'.length = σ.length) (hs : ∀ j, j ∉ l → σ'[j]? = σ[j]?) : EnvR c H0 (killE env l) σ' G H := by
  have g : ∀ {j s}, gt (killE env l) j = s → s ≠ .no → gt env j = s ∧ j ∉ l := fun {j s} h n => by
    rw [gt_kill] at h
    by_cases e : j ∈ l
    · rw [if_pos e] at h; exact absurd h.symm n
    · rw [if_neg e] at h; exact ⟨h, e⟩
  refine ⟨by rw [kill_length, hl]; exact r.len, fun i d h => ?_, fun i ds h => ?_, fun i j a ds es h1 h2 h3 h4 => ?_, fun i lk kvs h => ?_, fun i j a lk lk' kvs kvs' h1 h2 h3 h4 => ?_⟩
  · obtain ⟨h, n⟩ := g h (by simp)
    rw [hs i n]; exact r.val i d h
  · obtain ⟨h, n⟩ := g h (by simp)
    rw [hs i n]; exact r.own i ds h
  · obtain ⟨h1, n1⟩ := g h1 (by simp)
    obtain ⟨h2, n2⟩ := g h2 (by simp)
    rw [hs i n1] at h3
    rw [hs j n2] at h4
    exact r.sep i j a ds es h1 h2 h3 h4
  · obtain ⟨h, n⟩ := g h (by simp)
    unfold DctR
    rw [hs i n]; exact r.dct i lk kvs h
  · obtain ⟨h1, n1⟩ := g h1 (by simp)
    obtain ⟨h2, n2⟩ := g h2 (by simp)
    rw [hs i n1] at h3
    rw [hs j n2] at h4
    exact r.sepd i j a lk lk' kvs kvs' h1 h2 h3 h4
theorem DctR.at {i : Nat} {lk : Bool} {kvs : List (List Int × D)} {j : Nat} {v : Option V} (h : DctR c H0 σ G H j lk kvs) (z : j ≠ i) : DctR c H0 (σ.set i v) G H j lk kvs := by
  unfold DctR at h ⊢
  rw [List.getElem?_set_ne (Ne.symm z)]; exact h
theorem EnvR.set {i : Nat} {v : V} {d : D} (r : EnvR c H0 env σ G H) (hi : i < env.length) (h : Rep c G v d) : EnvR c H0 (env.set i (.val d)) (σ.set i (some v)) G H := by
  have hiσ : i < σ.length := by rw [← r.len]; exact hi
  refine ⟨by simp [r.len], fun j e hj => ?_, fun j ds hj => ?_, fun j k a ds es h1 h2 h3 h4 => ?_, fun j lk kvs hj => ?_, fun j k a lk lk' kvs kvs' h1 h2 h3 h4 => ?_⟩
  · rw [gt_set hi] at hj
    by_cases z : j = i
    · subst z; rw [if_pos rfl] at hj; cases hj; exact ⟨v, by rw [List.getElem?_set_self hiσ], h⟩
    · rw [if_neg z] at hj; rw [List.getElem?_set_ne (Ne.symm z)]; exact r.val j e hj
  · rw [gt_set hi] at hj
    by_cases z : j = i
    · subst z; rw [if_pos rfl] at hj; cases hj
    · rw [if_neg z] at hj; rw [List.getElem?_set_ne (Ne.symm z)]; exact r.own j ds hj
  · rw [gt_set hi] at h1 h2
    by_cases z : j = i
    · subst z; rw [if_pos rfl] at h1; cases h1
    · by_cases z2 : k = i
      · subst z2; rw [if_pos rfl] at h2; cases h2
      · rw [if_neg z] at h1; rw [if_neg z2] at h2
        rw [List.getElem?_set_ne (Ne.symm z)] at h3; rw [List.getElem?_set_ne (Ne.symm z2)] at h4
        exact r.sep j k a ds es h1 h2 h3 h4
  · rw [gt_set hi] at hj
    by_cases z : j = i
    · subst z; rw [if_pos rfl] at hj; cases hj
    · rw [if_neg z] at hj; exact (r.dct j lk kvs hj).at z
  · rw [gt_set hi] at h1 h2
    by_cases z : j = i
    · subst z; rw [if_pos rfl] at h1; cases h1
    · by_cases z2 : k = i
      · subst z2; rw [if_pos rfl] at h2; cases h2
      · rw [if_neg z] at h1; rw [if_neg z2] at h2
        rw [List.getElem?_set_ne (Ne.symm z)] at h3; rw [List.getElem?_set_ne (Ne.symm z2)] at h4
        exact r.sepd j k a lk lk' kvs kvs' h1 h2 h3 h4
/-- a new owned list -/
theorem EnvR.setOwn {i : Nat} {a : Addr} {vs : List V} {ds : List D} (r : EnvR c H0 env σ G H) (hi : i < env.length) (ha : H a = some (.lst vs)) (hg : G a = none) (h0 : H0 a = none) (hc : a ≠ c) (h : RepL c G vs ds)
    (hn : ∀ j es, gt env j = .own es → j ≠ i → σ[j]? ≠ some (some (.ref a))) : EnvR c H0 (env.set i (.own ds)) (σ.set i (some (.ref a))) G H := by
  have hiσ : i < σ.length := by rw [← r.len]; exact hi
  refine ⟨by simp [r.len], fun j e hj => ?_, fun j es hj => ?_, fun j k b ds' es h1 h2 h3 h4 => ?_, fun j lk kvs hj => ?_, fun j k a lk lk' kvs kvs' h1 h2 h3 h4 => ?_⟩
  · rw [gt_set hi] at hj
    by_cases z : j = i
    · subst z; rw [if_pos rfl] at hj; cases hj
    · rw [if_neg z] at hj; rw [List.getElem?_set_ne (Ne.symm z)]; exact r.val j e hj
  · rw [gt_set hi] at hj
    by_cases z : j = i
    · subst z; rw [if_pos rfl] at hj; cases hj
      exact ⟨a, vs, by rw [List.getElem?_set_self hiσ], ha, hg, h0, hc, h⟩
    · rw [if_neg z] at hj; rw [List.getElem?_set_ne (Ne.symm z)]; exact r.own j es hj
  · rw [gt_set hi] at h1 h2
    by_cases z : j = i
    · by_cases z2 : k = i
      · rw [z, z2]
      · subst z
        rw [if_neg z2] at h2
        rw [List.getElem?_set_self hiσ] at h3
        rw [List.getElem?_set_ne (Ne.symm z2)] at h4
        cases h3
        exact absurd h4 (hn k es h2 z2)
    · by_cases z2 : k = i
      · subst z2
        rw [if_neg z] at h1
        rw [List.getElem?_set_self hiσ] at h4
        rw [List.getElem?_set_ne (Ne.symm z)] at h3
        cases h4
        exact absurd h3 (hn j ds' h1 z)
      · rw [if_neg z] at h1; rw [if_neg z2] at h2
        rw [List.getElem?_set_ne (Ne.symm z)] at h3; rw [List.getElem?_set_ne (Ne.symm z2)] at h4
        exact r.sep j k b ds' es h1 h2 h3 h4
  · rw [gt_set hi] at hj
    by_cases z : j = i
    · subst z; rw [if_pos rfl] at hj; cases hj
    · rw [if_neg z] at hj; exact (r.dct j lk kvs hj).at z
  · rw [gt_set hi] at h1 h2
    by_cases z : j = i
    · subst z; rw [if_pos rfl] at h1; cases h1
    · by_cases z2 : k = i
      · subst z2; rw [if_pos rfl] at h2; cases h2
      · rw [if_neg z] at h1; rw [if_neg z2] at h2
        rw [List.getElem?_set_ne (Ne.symm z)] at h3; rw [List.getElem?_set_ne (Ne.symm z2)] at h4
        exact r.sepd j k a lk lk' kvs kvs' h1 h2 h3 h4
end

/-! ### targets -/
def gD (tg : TG) : L2.TG := fun v σ H Q => ∃ c H0 G env d env', EnvR c H0 env σ G H ∧ Same G H ∧ Rep c G v d ∧ asg tg d env = some env' ∧
  ∀ σ', EnvR c H0 env' σ' G H → (∀ j, j ∉ tg.slots → σ'[j]? = σ[j]?) → σ'.length = σ.length → Q σ' H
def gDs (ts : TGL) : L2.TGs := fun vs σ H Q => ∃ c H0 G env ds env', EnvR c H0 env σ G H ∧ Same G H ∧ RepL c G vs ds ∧ asgL ts ds env = some env' ∧
  ∀ σ', EnvR c H0 env' σ' G H → (∀ j, j ∉ ts.slots → σ'[j]? = σ[j]?) → σ'.length = σ.length → Q σ' H
section
variable {X : Cx}
theorem PGi {tg : Expr} {t t' : L2.TG} (h : PG X tg t) (w : ∀ v σ H Q, t' v σ H Q → t v σ H Q) : PG X tg t' := ⟨fun pins s σ H v u Q I r q => h.run pins s σ H v u Q I r (w v σ H Q q)⟩
theorem PGsi {tg : List Expr} {t t' : L2.TGs} (h : PGs X tg t) (w : ∀ v σ H Q, t' v σ H Q → t v σ H Q) : PGs X tg t' := ⟨fun pins s σ H v u Q I r q => h.run pins s σ H v u Q I r (w v σ H Q q)⟩
theorem pg_nm {i : Nat} {x : Str} {pos : Pos} (hN : X.N.Nodup) (hi : X.N[i]? = some x) (hx : Loc X.env.scope x) (hf : X.fn x = true ∨ X.env.scope.names.lookup x = some .local) : PG X (.Name x pos) (gD (.nm i)) := by
  refine PGi (pg_name (i := i) hN hi hx hf) fun v σ H Q h => ?_
  obtain ⟨c, H0, G, env, d, env', r, gh, rp, e, hq⟩ := h
  simp only [asg] at e
  split at e
  · rename_i hl
    cases e
    exact hq _ (r.set hl rp) (fun j hj => by rw [List.getElem?_set_ne]; intro z; subst z; exact hj (by simp [TG.slots])) (by simp)
  · cases e
theorem pg_tp {es : List Expr} {k : Nat} {pos : Pos} {ts : TGL} (hc : X.calm = true) (h : PGs X es (gDs ts)) (hl : ∀ ds env env', asgL ts ds env = some env' → ds.length = es.length)
    (hn : (assignEach es X.env).length = es.length) (hst : (assignEach es X.env).findIdx? (·.1) = none) : PG X (.Tuple es k pos) (gD (.tp ts)) := by
  refine PGi (pg_tup hc h hn hst) fun v σ H Q hh => ?_
  obtain ⟨c, H0, G, env, d, env', r, gh, rp, e, hq⟩ := hh
  cases d <;> first
    | (simp [asg] at e; done)
    | skip
  rename_i ds
  have e : asgL ts ds env = some env' := e
  cases rp with
  | tup g l => exact ⟨_, _, rfl, .inl (g.rd gh), by rw [l.length]; exact hl _ _ _ e, c, H0, G, env, ds, env', r, gh, l, e, hq⟩
theorem pgs_nilD : PGs X [] (gDs .nil) := by
  refine PGsi pgs_nil fun vs σ H Q h => ?_
  obtain ⟨c, H0, G, env, ds, env', r, gh, rp, e, hq⟩ := h
  cases ds with
  | nil => cases rp; simp [asgL] at e; subst e; exact ⟨rfl, hq σ r (fun _ _ => rfl) rfl⟩
  | cons => simp [asgL] at e
theorem pgs_consD {e : Expr} {es : List Expr} {t : TG} {ts : TGL} (h1 : PG X e (gD t)) (h2 : PGs X es (gDs ts)) (hs : (assignEach (e :: es) X.env).map (·.2) = assign e X.env :: (assignEach es X.env).map (·.2)) : PGs X (e :: es) (gDs (.cons t ts)) := by
  refine PGsi (pgs_cons h1 h2 hs) fun vs σ H Q h => ?_
  obtain ⟨c, H0, G, env, ds, env', r, gh, rp, e, hq⟩ := h
  cases rp with
  | nil => simp [asgL] at e
  | cons rp rps =>
    rename_i v vs' d ds'
    simp only [asgL] at e
    split at e
    · rename_i env1 he
      refine ⟨_, _, rfl, c, H0, G, env, _, env1, r, gh, rp, he, fun σ1 r1 k1 l1 => ?_⟩
      exact ⟨c, H0, G, env1, _, env', r1, gh, rps, e, fun σ2 r2 k2 l2 => hq σ2 r2 (fun j hj => by
        simp only [TGL.slots, List.mem_append, not_or] at hj
        rw [k2 j hj.2, k1 j hj.1]) (l2.trans l1)⟩
    · cases e
end

/-! ### what is walked -/
def YD (c : Addr) (G0 : Hp) (ds : List D) : Nat → Hp → V → Hp → Prop := fun i H x H' => ∀ G n, Base c G H n → Same G0 G → ∃ G' d, ds[i]? = some d ∧ Ev c G H G' H' ∧ Base c G' H' n ∧ Rep c G' x d
def tXI (K : PySem.W.Frag) (W : WX) (f : Env → Nat → (List D → Nat → Prop) → KX → Prop) : TI := fun σ H R => ∃ c H0 G env n k x, Pre c H0 env σ G H n ∧ f env n k x ∧
  (∀ J ds n' G' H', Ev c G H G' H' → Base c G' H' n' → L2.Walk J ds.length (fun H2 => Same G' H2) (YD c G' ds) → k ds n' → R J H') ∧ xOk K W c σ G H x
section
variable {X : Cx} {K : PySem.W.Frag} {c : Addr} {G : Hp}
theorem PIi {tg it : Expr} {t t' : TI} (h : PI X tg it t) (w : ∀ σ H R, t' σ H R → t σ H R) : PI X tg it t' := ⟨fun pins s σ H R I q => h.run pins s σ H R I (w σ H R q)⟩
theorem walkD_list {a : Addr} {xs : List V} {ds : List D} (g : G a = some (.lst xs)) (l : RepL c G xs ds) : L2.Walk (Itl K a) ds.length (fun H2 => Same G H2) (YD c G ds) := by
  have w := walk_list (K := K) (a := a) (xs := xs)
  rw [l.length] at w
  refine w.mono (fun H h => .inl (.inl (h _ _ g))) fun i H x H' hi h y => ?_
  obtain ⟨e, y⟩ := y
  subst e
  intro G2 n b s
  obtain ⟨d, hd, rd⟩ := l.get' y
  exact ⟨G2, d, hd, Ev.refl b.gc, b, rd.mono s⟩
theorem walkD_tup {b : Bool} {a : Addr} {xs : List V} {ds : List D} (g : PTh b G a xs) (l : RepL c G xs ds) : L2.Walk (Itt K a) ds.length (fun H2 => Same G H2) (YD c G ds) := by
  have w := walk_tup (K := K) (a := a) (xs := xs)
  rw [l.length] at w
  refine w.mono (fun H h => .inl (g.rd h)) fun i H x H' hi h y => ?_
  obtain ⟨e, y⟩ := y
  subst e
  intro G2 n b s
  obtain ⟨d, hd, rd⟩ := l.get' y
  exact ⟨G2, d, hd, Ev.refl b.gc, b, rd.mono s⟩
theorem walkD_str {z : Str} : L2.Walk (Its z) (z.cps.toList.map fun c => D.str ⟨#[c]⟩).length (fun H2 => Same G H2) (YD c G (z.cps.toList.map fun c => D.str ⟨#[c]⟩)) := by
  have w := walk_str (z := z)
  have e : (z.cps.toList.map fun c => D.str ⟨#[c]⟩).length = z.cps.size := by simp
  rw [e]
  refine w.mono (fun H h => trivial) fun i H x H' hi h y => ?_
  obtain ⟨e, q, y, ex⟩ := y
  subst e; subst ex
  intro G2 n b s
  exact ⟨G2, .str ⟨#[q]⟩, by simp [y], Ev.refl b.gc, b, .str _⟩
theorem walkD_range {lo : Int} {n : Nat} : L2.Walk (Itr lo n) (rangeD lo n).length (fun H2 => Same G H2) (YD c G (rangeD lo n)) := by
  have w := walk_range (lo := lo) (n := n)
  have e : (rangeD lo n).length = n := by simp [rangeD]
  rw [e]
  refine w.mono (fun H h => trivial) fun i H x H' hi h y => ?_
  obtain ⟨e, y⟩ := y
  subst e; subst y
  intro G2 n' b s
  exact ⟨G2, .int (lo + i), by simp [rangeD, hi], Ev.refl b.gc, b, .int _⟩
def YPairB (bs : Nat → Bool) (xs ys : Nat → Option V) (i : Nat) (H : Hp) (v : V) (H' : Hp) : Prop := ∃ (T : Addr) (x y : V) (o : Obj), v = .ref T ∧ H T = none ∧ o.dict = none ∧ H' = upd H T (PTo (bs i) o [x, y]) ∧ xs i = some x ∧ ys i = some y
/-- pairs made anew -/
theorem walkD_pair {J : It} {n : Nat} {P : Hp → Prop} {xs ys : Nat → Option V} {ds : List D} {bs : Nat → Bool} (w : L2.Walk J n P (YPairB bs xs ys)) (hP : ∀ H, Same G H → P H) (hn : ds.length = n)
    (hd : ∀ i x y, xs i = some x → ys i = some y → ∃ p q, ds[i]? = some (.tup [p, q]) ∧ isP [p, q] = bs i ∧ Rep c G x p ∧ Rep c G y q) : L2.Walk J ds.length (fun H2 => Same G H2) (YD c G ds) := by
  rw [hn]
  refine w.mono hP fun i H x H' hi h y => ?_
  obtain ⟨T, v1, v2, o, e1, e2, e0, e3, e4, e5⟩ := y
  subst e1; subst e3
  intro G2 n' b s
  obtain ⟨p, q, h1, hb, h2, h3⟩ := hd i v1 v2 e4 e5
  refine ⟨upd G2 T (PTo (bs i) o [v1, v2]), _, h1, b.ev e2, b.laid e2, .tup (by rw [hb]; exact ⟨o, e0, upd_same⟩) ?_⟩
  exact .cons ((h2.mono s).mono (b.gSame e2)) (.cons ((h3.mono s).mono (b.gSame e2)) .nil)
end
end PV
end
section
set_option Elab.async false
set_option linter.all false
set_option maxRecDepth 100000
set_option maxHeartbeats 2000000
namespace PV
open PySem PySem.Spec PyProof.Rows L2

/-! ### sequences that are walked: a list or a tuple -/
inductive SK where | l | t
def SqA (k : SK) (K : PySem.W.Frag) (H : Hp) (a : Addr) (xs : List V) : Prop := match k with
  | .l => SqL K H a xs
  | .t => SqT K H a xs
def hIs (k : SK) (h : Heap) (a : Addr) (items : Array Value) : Prop := match k with
  | .l => h.IsList a items
  | .t => h.IsTuple a items
def hIt (k : SK) (h : Heap) (it a : Addr) (i : Nat) : Prop := match k with
  | .l => h.IsListIter it a i
  | .t => h.IsTupleIter it a i
theorem drK {prog : Program} {w : World} {A : Around} (k : SK) (hh : A.handled = none) (it a : Addr) (hne : a ≠ it) (items : Array Value) :
    Draws prog w A it [it, a] items.size (fun i v => items[i]? = some v) (fun i h => hIt k h it a i ∧ hIs k h a items) := match k with
  | .l => Draws.list hh it a hne items
  | .t => Draws.tuple hh it a hne items
def itObj (k : SK) (a : Addr) : Obj := match k with
  | .l => { cls := .type "list_iterator", data := .fields #[.ref a, .int 0 0] }
  | .t => { cls := .type "tuple_iterator", data := .fields #[.ref a, .int 0 0] }
theorem beginsK (k : SK) (a : Addr) (items : Array Value) : Begins (.ref a) (itObj k a) fun h => hIs k h a items := match k with
  | .l => begins_list a items
  | .t => begins_tuple a items
theorem hIt_new {k : SK} {h : Heap} {it a : Addr} (e : h.get? it = some (itObj k a)) : hIt k h it a 0 := by
  cases k <;> exact ⟨_, e, rfl, rfl⟩
theorem hIt_at {k : SK} {h h' : Heap} {it a : Addr} {i : Nat} (x : hIt k h it a i) (e : ∀ o, h.get? it = some o → h'.get? it = some o) : hIt k h' it a i := by
  cases k
  · exact Heap.IsListIter.at x e
  · exact Heap.IsTupleIter.at x e
theorem hIt_obj {k : SK} {h : Heap} {it a : Addr} {i : Nat} (x : hIt k h it a i) : ∃ o, h.get? it = some o ∧ ∀ v, o.data ≠ .cell v := by
  cases k
  · obtain ⟨o, e, _, d⟩ := x; exact ⟨o, e, fun v q => by rw [d] at q; cases q⟩
  · obtain ⟨o, e, _, d⟩ := x; exact ⟨o, e, fun v q => by rw [d] at q; cases q⟩
theorem hIs_lt {k : SK} {h : Heap} {a : Addr} {items : Array Value} (x : hIs k h a items) : a < h.objs.size := by
  cases k
  · obtain ⟨o, e, _⟩ := x; exact Heap.lt_size e
  · obtain ⟨o, e, _⟩ := x; exact Heap.lt_size e
section
variable {X : Cx} {pins : List (Addr × Obj)} {σ : L2.St} {H : Hp} {s : Shared}
theorem _root_.L2.Inv.sq (I : Inv X pins σ H s) {k : SK} {a : Addr} {xs : List V} (h : SqA k X.K H a xs) : ∃ its : List Value, Vals xs its ∧ hIs k s.heap a its.toArray := by
  cases k
  · obtain ⟨its, rv, p, _⟩ := I.list h; exact ⟨its, rv, p.isList⟩
  · obtain ⟨its, rv, p, _⟩ := I.tuple h; exact ⟨its, rv, p⟩
theorem _root_.L2.Inv.sq_inj (I : Inv X pins σ H s) {k : SK} {a : Addr} {xs ys : List V} (h : SqA k X.K H a xs) (h' : SqA k X.K H a ys) : xs = ys := by
  cases k
  · exact I.list_inj h h'
  · exact I.tuple_inj h h'
end
/-- enumerate -/
def IteA (k : SK) (K : PySem.W.Frag) (a : Addr) : It :=
  ⟨fun i H => ∃ (xs : List V) (x : V), SqA k K H a xs ∧ xs[i]? = some x, fun i H v H' => ∃ T x, v = .ref T ∧ H T = none ∧ H' = upd H T (.tup [.int (i : Nat), x]) ∧ ∀ xs, SqA k K H a xs → xs[i]? = some x, fun i H => ∃ xs : List V, SqA k K H a xs ∧ xs.length = i⟩
theorem turn_enumA {P : Program} {w : World} {K : PySem.W.Frag} {elts : List Expr} {kk : Nat} {tpos : Pos} (k : SK) (a e it : Addr) :
    Turn P w K (.Tuple elts kk tpos) (IteA k K a) [e, it] e (fun i h => (∃ old, IsEnum h e it ((i : Nat) : Int) old) ∧ hIt k h it a i ∧ e ≠ it ∧ a ≠ it ∧ e ≠ a) where
  mem := by simp
  obj := fun i h st b hb => by
    obtain ⟨⟨old, he⟩, hi, _⟩ := st
    have e' : b = e ∨ b = it := by simpa using hb
    rcases e' with z | z
    · rw [z]; exact ⟨_, he, fun v q => nomatch q⟩
    · rw [z]; exact hIt_obj hi
  keep := fun i h h' st k' => let ⟨⟨old, he⟩, hi, r⟩ := st; ⟨⟨old, k' e (by simp) _ he⟩, hIt_at hi fun o q => k' it (by simp) o q, r⟩
  item := by
    intro X hP hw hK hc i pins s σ H E I hf st hg
    subst hP hw hK
    obtain ⟨⟨old, he⟩, hit, hne, hai, hea⟩ := st
    obtain ⟨xs, x, hq, hx⟩ := hg
    obtain ⟨its, rv, p⟩ := I.sq hq
    obtain ⟨u, hu, ru⟩ := rv.get hx
    have hel : e < s.heap.objs.size := Heap.lt_size he
    have hil : it < s.heap.objs.size := by obtain ⟨_, q, _⟩ := hIt_obj hit; exact Heap.lt_size q
    refine wpAny_pyNext_enum_itemC (drK (A := X.A.in1) k (I.ok.hd hc) it a hai its.toArray) he ⟨hit, p⟩ (i := i) (by have := (List.getElem?_eq_some_iff.mp hu).1; simpa using this) hne (by simp [hne, hea]) fun x' h' tk hx' ho hst' hT hsz hk => ?_
    have ex : x' = u := by
      have h1 : its.toArray[i]? = some u := by simpa using hu
      exact Option.some.inj (hx'.symm.trans h1)
    subst ex
    refine ⟨_, rfl, wpAny_letOwnedTupleGo_enum (s := { s with heap := h', toks := tk + 1 }) ho fun h'' he' sb => ?_⟩
    have hT2 : h''.get? s.heap.objs.size = some { cls := .type "tuple", data := .seq #[.int i tk, x'] } := (sb.2 _ (Nat.ne_of_gt hel)).trans hT
    have new : ObjOk X.prog X.w (upd H s.heap.objs.size (.tup [.int (i : Nat), x])) h'' s.heap.objs.size (.tup [.int (i : Nat), x]) :=
      ⟨by show 2 ≤ sizeLine; decide, [.int i tk, x'], .cons ⟨_, rfl⟩ (.cons ru .nil), ⟨_, hT2, rfl, _, rfl⟩⟩
    have I1 : Inv X pins σ (upd H s.heap.objs.size (.tup [.int (i : Nat), x])) { s with heap := h'', toks := tk + 1 } :=
      I.turnedNew (t' := tk + 1) (ch := [e, it]) (fun b ob hb q => (sb.2 b (fun z => hb (by simp [z]))).trans (hk b ob (fun z => hb (by simp [z])) (fun z => hb (by simp [z])) q)) hf (Nat.le_refl _) new
    refine ⟨.ref s.heap.objs.size, _, I1, rfl, ⟨_, x, rfl, I.hok.fresh (Nat.le_refl _), rfl, fun ys hy => by rw [I.sq_inj hy hq]; exact hx⟩, ⟨⟨x', ?_⟩, hIt_at hst'.1 fun o q => (sb.2 it (Ne.symm hne)).trans q, hne, hai, hea⟩, fun b hb => ?_⟩
    · have e1 : ((i + 1 : Nat) : Int) = (i : Int) + 1 := by omega
      rw [e1]; exact he'
    · have hb' : b < s.heap.objs.size := by
        have e' : b = e ∨ b = it := by simpa using hb
        rcases e' with z | z
        · rw [z]; exact hel
        · rw [z]; exact hil
      rw [upd_ne (Nat.ne_of_lt hb')]
      exact (hf b hb).1
  done := by
    intro X hP hw hK hc i pins s σ H E I hf st hg
    subst hP hw hK
    obtain ⟨⟨old, he⟩, hit, hne, hai, hea⟩ := st
    obtain ⟨xs, hq, hx⟩ := hg
    obtain ⟨its, rv, p⟩ := I.sq hq
    obtain ⟨f0, f1, f2, f3, f4, f5⟩ := hf it (by simp)
    have hl := rv.length
    have hsz : its.toArray.size = i := by rw [List.size_toArray, ← hl, hx]
    exact wpAny_pyNext_enum_endD (drK (A := X.A.in1) k (I.ok.hd hc) it a hai its.toArray) he ⟨by rw [hsz]; exact hit, p⟩ fun h' eb => ⟨rfl, I.turned (t' := s.toks) (fun b o hb q => eb b o hb q) f0 f1 f3 f4 f5⟩
  self := fun A i s Q E st h => let ⟨⟨_, he⟩, _⟩ := st; wpAny_pyIter_enum he h
set_option maxHeartbeats 4000000 in
theorem meets_enumerate_newD {v : Value} {o : Obj} {H : Heap → Prop} (B : Begins v o H) :
    Meets (Builtin.«enumerate.__new__» ⟨[.type "enumerate", v], []⟩) (fun _ R s => H s.heap ∧
      R (.ok (.ret (.ref (s.heap.push o).objs.size))) { s with heap := (s.heap.push o).push { cls := .type "enumerate", data := .fields #[.none, .bool false, .ref s.heap.objs.size, rawInt 0, .none, .none] } }) :=
  .of_wp fun prog w A R s h => by
    obtain ⟨hp, g, d, tk, os⟩ := s; obtain ⟨h1, h⟩ := h
    have hsub := sub_enumerate
    have q1 : ∀ {A' : Around} {E : Value → Shared → Prop} {Q : Value → Shared → Prop}, Q (.ref hp.objs.size) ⟨hp.push o, g, d, tk, os⟩ → wpAny (model prog w) A' (pyIter v) Q E ⟨hp, g, d, tk, os⟩ :=
      fun q => B.iter prog w _ _ ⟨hp, g, d, tk, os⟩ _ h1 q
    wp_walk using q1
    refine wpAny_stack_any fun st => wpAny_pure ?_
    split
    · rename_i c _ _ _ _ _
      cases (c == Value.type "enumerate")
      · wp_walk using q1
        exact ⟨_, rfl, h⟩
      · wp_walk using q1
        exact ⟨_, rfl, h⟩
    · wp_walk using q1
      exact ⟨_, rfl, h⟩
section
variable {prog : Program} {w : World} {A : Around} {E : Value → Shared → Prop} {s : Shared}
theorem enum_beginsD {v : Value} {o : Obj} {H : Heap → Prop} {Q : Value → Shared → Prop} (B : Begins v o H) (h1 : H s.heap)
    (h : ∀ h', IsEnum h' (s.heap.objs.size + 1) s.heap.objs.size 0 .none → h'.get? s.heap.objs.size = some o → h'.objs.size = s.heap.objs.size + 2 →
      (∀ b o, s.heap.get? b = some o → h'.get? b = some o) → Q (.ref (s.heap.objs.size + 1)) { s with heap := h' }) :
    wpAny (model prog w) A (call (.type "enumerate") [v]) Q E s := by
  refine callType_new F.called_enumerate (by decide) (F.typeCall_enumerate_1 _) (F.newCall_enumerate_1 _) (fun obj => F.args_object_init_2 obj _) F.entry_enumerate_new
    (meets_enumerate_newD B) ⟨h1, ?_⟩
  have hz : (s.heap.push o).objs.size = s.heap.objs.size + 1 := Heap.size_push ..
  show _ ∧ _
  rw [hz]
  have he : IsEnum ((s.heap.push o).push { cls := .type "enumerate", data := .fields #[.none, .bool false, .ref s.heap.objs.size, rawInt 0, .none, .none] }) (s.heap.objs.size + 1) s.heap.objs.size 0 .none := by
    have := Heap.get?_push_size (s.heap.push o) (o := { cls := .type "enumerate", data := .fields #[.none, .bool false, .ref s.heap.objs.size, rawInt 0, .none, .none] }) rfl
    rw [hz] at this; exact this
  refine ⟨⟨_, he, rfl⟩, h _ he (Heap.get?_push_of_some _ (Heap.get?_push_size _ B.free)) (by rw [Heap.size_push, hz]) fun b o x => Heap.get?_push_of_some _ (Heap.get?_push_of_some _ x)⟩
end
def iEnumA (K : PySem.W.Frag) (ta : TA) : TI := fun σ H R => ta σ H fun vs H1 => ∃ k a xs, vs = [.ref a] ∧ SqA k K H1 a xs ∧ R (IteA k K a) H1
theorem pi_enumA {X : Cx} {e : Expr} {ta : TA} {p pos tpos : Pos} {elts : List Expr} {kk : Nat} (hg : Gl X "enumerate") (hm : X.mg "enumerate" = none) (ha : PA X [e] ta) (hs : starEach [e] X.env = [(false, eval e X.env)]) :
    PI X (.Tuple elts kk tpos) (.Call (.Name "enumerate" p) [e] [] pos) (iEnumA X.K ta) := by
  refine ⟨fun pins s σ H R I h => ?_⟩
  refine Call_ (ld_blt I hg hm boot_enumerate (PyProof.Rows.callWith_type1 (thn (ha.run pos pins s σ H _ I h) fun us s1 ⟨vs, H1, I1, r1, q1⟩ => ?_) hs rfl))
  obtain ⟨k, a, xs, ex, hq, q⟩ := q1
  subst ex
  cases r1 with
  | cons r rr =>
    cases rr
    cases r
    obtain ⟨its, rv, p'⟩ := I1.sq hq
    have hal := hIs_lt p'
    refine enum_beginsD (beginsK k a its.toArray) p' fun h' he hit hsz hk => wpAny_pyIter_enum he ?_
    have I2 : Inv X pins σ H1 { s1 with heap := h' } := I1.kept (t' := s1.toks) hk
    refine ⟨s1.heap.objs.size + 1, [s1.heap.objs.size + 1, s1.heap.objs.size], _, _, H1, rfl, I2, turn_enumA k a (s1.heap.objs.size + 1) s1.heap.objs.size, ⟨⟨.none, he⟩, hIt_new hit, Nat.succ_ne_self _, Nat.ne_of_lt hal, Nat.ne_of_gt (Nat.lt_succ_of_lt hal)⟩, fun b hb => ?_, q⟩
    have e' : b = s1.heap.objs.size + 1 ∨ b = s1.heap.objs.size := by simpa using hb
    have hle : s1.heap.objs.size ≤ b := by
      rcases e' with z | z
      · rw [z]; exact Nat.le_add_right _ _
      · rw [z]; exact Nat.le_refl _
    exact I1.fpOk hle (I1.hok.fresh hle)
/-- zip -/
def ItzA (bs : Nat → Bool) (k1 k2 : SK) (K : PySem.W.Frag) (a b : Addr) : It :=
  ⟨fun i H => ∃ (xs ys : List V) (x y : V), SqA k1 K H a xs ∧ SqA k2 K H b ys ∧ xs[i]? = some x ∧ ys[i]? = some y,
    fun i H v H' => ∃ T x y, ∃ o : Obj, v = .ref T ∧ H T = none ∧ o.dict = none ∧ H' = upd H T (PTo (bs i) o [x, y]) ∧ (∀ xs, SqA k1 K H a xs → xs[i]? = some x) ∧ ∀ ys, SqA k2 K H b ys → ys[i]? = some y,
    fun i H => ∃ xs ys : List V, SqA k1 K H a xs ∧ SqA k2 K H b ys ∧ i = min xs.length ys.length⟩
theorem turn_zipA {bs : Nat → Bool} {P : Program} {w : World} {K : PySem.W.Frag} {elts : List Expr} {kk : Nat} {tpos : Pos} {k1 k2 : SK} {a b z TI TO i1 i2 : Addr} (D : ZipSep2 z TI TO i1 i2 [i1, a] [i2, b]) (n1 : a ≠ i1) (n2 : b ≠ i2) :
    Turn P w K (.Tuple elts kk tpos) (ItzA bs k1 k2 K a b) [z, TI, TO, i1, i2] z (fun i h => IsZip h z TI TO .none ∧ IsTupOf2 h TI (.ref i1) (.ref i2) ∧ (∃ x y, IsTupOf2 h TO x y) ∧ hIt k1 h i1 a i ∧ hIt k2 h i2 b i) where
  mem := by simp
  obj := fun i h st c hc => by
    obtain ⟨hz, hTI, ⟨x, y, hTO⟩, h1, h2⟩ := st
    have e' : c = z ∨ c = TI ∨ c = TO ∨ c = i1 ∨ c = i2 := by simpa using hc
    rcases e' with q | q | q | q | q
    · rw [q]; exact ⟨_, hz, fun v q => nomatch q⟩
    · rw [q]; exact ⟨_, hTI, fun v q => nomatch q⟩
    · rw [q]; exact ⟨_, hTO, fun v q => nomatch q⟩
    · rw [q]; exact hIt_obj h1
    · rw [q]; exact hIt_obj h2
  keep := fun i h h' st k => by
    obtain ⟨hz, hTI, ⟨x, y, hTO⟩, h1, h2⟩ := st
    exact ⟨k z (by simp) _ hz, k TI (by simp) _ hTI, ⟨x, y, k TO (by simp) _ hTO⟩, hIt_at h1 fun o q => k i1 (by simp) o q, hIt_at h2 fun o q => k i2 (by simp) o q⟩
  item := by
    intro X hP hw hK hc i pins s σ H E I hf st hg
    subst hP hw hK
    obtain ⟨hz, hTI, ⟨x0, y0, hTO⟩, h1, h2⟩ := st
    obtain ⟨xs, ys, x, y, hqx, hqy, hx, hy⟩ := hg
    obtain ⟨its, rv, p⟩ := I.sq hqx
    obtain ⟨its2, rv2, p2⟩ := I.sq hqy
    obtain ⟨u, hu, ru⟩ := rv.get hx
    obtain ⟨u2, hu2, ru2⟩ := rv2.get hy
    have hzl : z < s.heap.objs.size := Heap.lt_size hz
    refine wpAny_pyNext_zipD2_item D (drK (A := X.A.in1) k1 (I.ok.hd hc) i1 a n1 its.toArray) (drK (A := X.A.in1) k2 (I.ok.hd hc) i2 b n2 its2.toArray) hz hTI hTO ⟨h1, p⟩ ⟨h2, p2⟩
      (by have := (List.getElem?_eq_some_iff.mp hu).1; simpa using this) (by have := (List.getElem?_eq_some_iff.mp hu2).1; simpa using this) fun x1 x2 h' tk e1 e2 z' TO' h1' h2' hT hsz hk => ?_
    have ex : x1 = u := by
      have q1 : its.toArray[i]? = some u := by simpa using hu
      exact Option.some.inj (e1.symm.trans q1)
    have ey : x2 = u2 := by
      have q1 : its2.toArray[i]? = some u2 := by simpa using hu2
      exact Option.some.inj (e2.symm.trans q1)
    subst ex; subst ey
    refine ⟨_, rfl, wpAny_letOwnedTupleGo_zip (s := { s with heap := h', toks := tk }) z' fun h'' z'' sb => ?_⟩
    have hT2 : h''.get? s.heap.objs.size = some { cls := .type "tuple", data := .seq #[x1, x2] } := (sb.2 _ (Nat.ne_of_gt hzl)).trans hT
    have new : ObjOk X.prog X.w (upd H s.heap.objs.size (PTo (bs i) { cls := .type "tuple", data := .seq #[x1, x2] } [x, y])) h'' s.heap.objs.size (PTo (bs i) { cls := .type "tuple", data := .seq #[x1, x2] } [x, y]) :=
      okT (its := [x1, x2]) hT2 rfl rfl (by show 2 ≤ sizeLine; decide) (.cons ru (.cons ru2 .nil))
    have I1 : Inv X pins σ (upd H s.heap.objs.size (PTo (bs i) { cls := .type "tuple", data := .seq #[x1, x2] } [x, y])) { s with heap := h'', toks := tk } :=
      I.turnedNew (t' := tk) (ch := [z, TI, TO, i1, i2]) (fun c o hb q => (sb.2 c (fun q' => hb (by simp [q']))).trans (hk c o (fun q' => hb (by simp [q'])) (fun q' => hb (by simp [q'])) (fun q' => hb (by simp [q'])) (fun q' => hb (by simp [q'])) q)) hf (Nat.le_refl _) new
    refine ⟨.ref s.heap.objs.size, _, I1, rfl, ⟨_, x, y, _, rfl, I.hok.fresh (Nat.le_refl _), rfl, rfl, fun l hl => by rw [I.sq_inj hl hqx]; exact hx, fun l hl => by rw [I.sq_inj hl hqy]; exact hy⟩, ⟨z'', ?_, ⟨x1, x2, ?_⟩, ?_, ?_⟩, fun c hcm => ?_⟩
    · exact (sb.2 _ D.TIz).trans (hk _ _ D.TIz D.TITO D.TIi1 D.TIi2 hTI)
    · exact (sb.2 _ D.TOz).trans TO'
    · exact hIt_at h1'.1 fun o q => (sb.2 _ (Ne.symm D.zi1)).trans q
    · exact hIt_at h2'.1 fun o q => (sb.2 _ (Ne.symm D.zi2)).trans q
    · have hlt : c < s.heap.objs.size := by
        have e' : c = z ∨ c = TI ∨ c = TO ∨ c = i1 ∨ c = i2 := by simpa using hcm
        rcases e' with q | q | q | q | q
        · rw [q]; exact hzl
        · rw [q]; exact Heap.lt_size hTI
        · rw [q]; exact Heap.lt_size hTO
        · rw [q]; obtain ⟨_, e1, _⟩ := hIt_obj h1; exact Heap.lt_size e1
        · rw [q]; obtain ⟨_, e2, _⟩ := hIt_obj h2; exact Heap.lt_size e2
      rw [upd_ne (Nat.ne_of_lt hlt)]
      exact (hf c hcm).1
  done := by
    intro X hP hw hK hc i pins s σ H E I hf st hg
    subst hP hw hK
    obtain ⟨hz, hTI, ⟨x0, y0, hTO⟩, h1, h2⟩ := st
    obtain ⟨xs, ys, hqx, hqy, hend⟩ := hg
    obtain ⟨its, rv, p⟩ := I.sq hqx
    obtain ⟨its2, rv2, p2⟩ := I.sq hqy
    have l1 := rv.length
    have l2 := rv2.length
    have z1 : its.toArray.size = its.length := by simp
    have z2 : its2.toArray.size = its2.length := by simp
    exact wpAny_pyNext_zipD2_end D (drK (A := X.A.in1) k1 (I.ok.hd hc) i1 a n1 its.toArray) (drK (A := X.A.in1) k2 (I.ok.hd hc) i2 b n2 its2.toArray) hz hTI hTO ⟨h1, p⟩ ⟨h2, p2⟩ (by omega) (by omega) (by omega) fun h' tk hk =>
      ⟨rfl, I.turnedL (t' := tk) (ch := [z, TI, TO, i1, i2]) (fun c o hb q =>
      hk c o (fun q' => hb (by simp [q'])) (fun q' => hb (by simp [q'])) (fun q' => hb (by simp [q'])) (fun q' => hb (by simp [q'])) q) hf⟩
  self := fun A i s Q E st h => wpAny_pyIter_zip st.1 h
def iZipA (K : PySem.W.Frag) (ta : TA) : TI := fun σ H R => ta σ H fun vs H1 => ∃ bs k1 k2 a b xs ys, vs = [.ref a, .ref b] ∧ SqA k1 K H1 a xs ∧ SqA k2 K H1 b ys ∧ R (ItzA bs k1 k2 K a b) H1
theorem pi_zipA {X : Cx} {e e2 : Expr} {ta : TA} {p pos tpos : Pos} {elts : List Expr} {kk : Nat} (hg : Gl X "zip") (hm : X.mg "zip" = none) (ha : PA X [e, e2] ta)
    (hs : starEach [e, e2] X.env = (false, eval e X.env) :: starEach [e2] X.env) (hpl : (backTo pos (starEach [e2] X.env)).any (·.1) = false) :
    PI X (.Tuple elts kk tpos) (.Call (.Name "zip" p) [e, e2] [] pos) (iZipA X.K ta) := by
  refine ⟨fun pins s σ H R I h => ?_⟩
  refine Call_ (ld_blt I hg hm PyProof.Rows.boot_zip (PyProof.Rows.callWith_type1 (thn (ha.run pos pins s σ H _ I h) fun us s1 ⟨vs, H1, I1, r1, q1⟩ => ?_) hs hpl))
  obtain ⟨bs, k1, k2, a, b, xs, ys, ex, hqx, hqy, q⟩ := q1
  subst ex
  cases r1 with
  | cons r rr =>
    cases rr with
    | cons r' rr =>
      cases rr
      cases r
      cases r'
      obtain ⟨its, rv, p1⟩ := I1.sq hqx
      obtain ⟨its2, rv2, p2⟩ := I1.sq hqy
      have l1 := hIs_lt p1
      have l2 := hIs_lt p2
      refine zip_begins2 (beginsK k1 a its.toArray) (beginsK k2 b its2.toArray) p1 p2 fun h' hz hTI hTO h1 h2 hsz hk => wpAny_pyIter_zip hz ?_
      have I2 : Inv X pins σ H1 { s1 with heap := h' } := I1.kept (t' := s1.toks) hk
      have S := zip_sep2 (N := s1.heap.objs.size) (fp1 := [a]) (fp2 := [b]) (by simpa using l1) (by simpa using l2)
      refine ⟨s1.heap.objs.size + 4, [s1.heap.objs.size + 4, s1.heap.objs.size + 2, s1.heap.objs.size + 3, s1.heap.objs.size, s1.heap.objs.size + 1], _, _, H1, rfl, I2,
        turn_zipA (k1 := k1) (k2 := k2) S (Nat.ne_of_lt l1) (Nat.ne_of_lt (Nat.lt_succ_of_lt l2)), ⟨hz, hTI, ⟨_, _, hTO⟩, hIt_new h1, hIt_new h2⟩, fun c hcm => ?_, q⟩
      have e' : c = s1.heap.objs.size + 4 ∨ c = s1.heap.objs.size + 2 ∨ c = s1.heap.objs.size + 3 ∨ c = s1.heap.objs.size ∨ c = s1.heap.objs.size + 1 := by simpa using hcm
      have hle : s1.heap.objs.size ≤ c := by
        rcases e' with z | z | z | z | z
        · rw [z]; exact Nat.le_add_right _ _
        · rw [z]; exact Nat.le_add_right _ _
        · rw [z]; exact Nat.le_add_right _ _
        · rw [z]; exact Nat.le_refl _
        · rw [z]; exact Nat.le_add_right _ _
      exact I1.fpOk hle (I1.hok.fresh hle)
section
variable {K : PySem.W.Frag} {c : Addr} {G : Hp}
theorem sqA_of {k : SK} {H : Hp} {a : Addr} {xs : List V} (e : Rd H a (match k with | .l => HO.lst xs | .t => HO.tup xs)) : SqA k K H a xs := by
  cases k
  · exact .inl e
  · exact .inl e
def D.seq : SK → List D → D
  | .l, ds => .lst ds
  | .t, ds => .tup ds
theorem rep_seq {k : SK} {v : V} {ds : List D} (r : Rep c G v (D.seq k ds)) : ∃ a xs, v = .ref a ∧ RepL c G xs ds ∧ ∀ H, Same G H → SqA k K H a xs := by
  cases k
  · cases r with
    | lst g l => exact ⟨_, _, rfl, l, fun H s => .inl (.inl (s _ _ g))⟩
  · cases r with
    | tup g l => exact ⟨_, _, rfl, l, fun H s => .inl (g.rd s)⟩
theorem enumD_get {ds : List D} {i : Nat} {d : D} (h : ds[i]? = some d) : (enumD ds)[i]? = some (.tup [.int i, d]) := by
  simp [enumD, List.getElem?_map, List.getElem?_zipIdx, h]
theorem enumD_length (ds : List D) : (enumD ds).length = ds.length := by simp [enumD]
theorem zipD_get {xs ys : List D} {i : Nat} {x y : D} (h : xs[i]? = some x) (h' : ys[i]? = some y) : (zipD xs ys)[i]? = some (.tup [x, y]) := by
  have : (xs.zip ys)[i]? = some (x, y) := List.getElem?_zip_eq_some.mpr ⟨h, h'⟩
  simp [zipD, List.getElem?_map, this]
theorem walkD_enum {k : SK} {a : Addr} {xs : List V} {ds : List D} (g : ∀ H, Same G H → SqA k K H a xs) (inj : ∀ H ys, Same G H → SqA k K H a ys → True) (l : RepL c G xs ds) :
    L2.Walk (IteA k K a) (enumD ds).length (fun H2 => Same G H2) (YD c G (enumD ds)) := by
  have hl := l.length
  refine walkD_pair (bs := fun _ => false) (n := xs.length) (P := fun H2 => Same G H2) (xs := fun i => some (.int (i : Nat))) (ys := fun i => xs[i]?) (J := IteA k K a) ⟨fun i H hi q => ⟨xs, xs[i], g H q, by simp [hi]⟩, fun H q => ⟨xs, g H q, rfl⟩, fun i H v H' _ q y => ?_⟩ (fun _ h => h) (by rw [enumD_length, hl]) fun i x y e1 e2 => ?_
  · obtain ⟨T, x, h1, h2, h3, h4⟩ := y
    exact ⟨T, .int (i : Nat), x, { cls := .none, data := .seq #[] 0 }, h1, h2, rfl, h3, rfl, h4 xs (g H q)⟩
  · cases e1
    obtain ⟨d, hd, rd⟩ := l.get' e2
    exact ⟨.int i, d, enumD_get hd, rfl, .int _, rd⟩
def zipB (ds es : List D) (i : Nat) : Bool := match ds[i]?, es[i]? with
  | some d, some e => isP [d, e]
  | _, _ => false
theorem walkD_zip {k1 k2 : SK} {a b : Addr} {xs ys : List V} {ds es : List D} (g1 : ∀ H, Same G H → SqA k1 K H a xs) (g2 : ∀ H, Same G H → SqA k2 K H b ys) (l1 : RepL c G xs ds) (l2 : RepL c G ys es) :
    L2.Walk (ItzA (zipB ds es) k1 k2 K a b) (zipD ds es).length (fun H2 => Same G H2) (YD c G (zipD ds es)) := by
  have h1 := l1.length
  have h2 := l2.length
  refine walkD_pair (bs := zipB ds es) (n := min xs.length ys.length) (P := fun H2 => Same G H2) (xs := fun i => xs[i]?) (ys := fun i => ys[i]?) (J := ItzA (zipB ds es) k1 k2 K a b) ⟨fun i H hi q => ?_, fun H q => ⟨xs, ys, g1 H q, g2 H q, rfl⟩, fun i H v H' _ q y => ?_⟩ (fun _ h => h) (by rw [zipD_length, h1, h2]) fun i x y e1 e2 => ?_
  · have q1 : i < xs.length := by omega
    have q2 : i < ys.length := by omega
    exact ⟨xs, ys, xs[i], ys[i], g1 H q, g2 H q, by simp [q1], by simp [q2]⟩
  · obtain ⟨T, x, z, o, h1, h2, h0, h3, h4, h5⟩ := y
    exact ⟨T, x, z, o, h1, h2, h0, h3, h4 xs (g1 H q), h5 ys (g2 H q)⟩
  · obtain ⟨d, hd, rd⟩ := l1.get' e1
    obtain ⟨d', hd', rd'⟩ := l2.get' e2
    exact ⟨d, d', zipD_get hd hd', by unfold zipB; rw [hd, hd'], rd, rd'⟩
end
end PV
end
section
set_option Elab.async false
set_option linter.all false
set_option maxRecDepth 100000
set_option maxHeartbeats 2000000
namespace PV
open PySem PySem.Spec PyProof.Rows L2

/-! ### truth -/
theorem tru_of {K : PySem.W.Frag} {c : Addr} {G H : Hp} {v : V} {d : D} {b : Bool} (gh : Same G H) (r : Rep c G v d) (e : D.tru d = some b) : TruV K v H b := by
  cases r with
  | non => simp [D.tru] at e; subst e; rfl
  | bl q => simp [D.tru] at e; subst e; rfl
  | int i => simp only [D.tru, Option.some.injEq] at e; subst e; rfl
  | str x =>
    simp only [D.tru] at e
    split at e
    · rename_i h
      cases e
      refine ⟨line_small h, ?_⟩
      cases hx : x.length <;> simp [bne] <;> omega
    · cases e
  | lst g l =>
    simp only [D.tru, Option.some.injEq] at e; subst e
    refine .inl ⟨_, .inl (.inl (gh _ _ g)), ?_⟩
    cases l <;> rfl
  | tup g l =>
    simp only [D.tru, Option.some.injEq] at e; subst e
    refine .inr (.inl ⟨_, .inl (g.rd gh), ?_⟩)
    cases l <;> rfl
  | st => simp [D.tru] at e
  | scr g =>
    simp only [D.tru, Option.some.injEq] at e; subst e
    refine .inl ⟨_, .inl (.inr ⟨_, gh _ _ g⟩), ?_⟩
    rename_i ns
    cases ns <;> rfl
theorem tru_ofN {K : PySem.W.Frag} {c : Addr} {G H : Hp} {v : V} {d : D} {b : Bool} {n : Nat} (bb : Base c G H n) (r : Rep c G v d) (e : D.truN d n = some b) : TruV K v H b := by
  cases d with
  | st =>
    cases r
    simp only [D.truN, Option.some.injEq] at e; subst e
    obtain ⟨ns, h1, h2⟩ := bb.cell
    refine .inl ⟨_, .inl (.inl h1), ?_⟩
    subst h2
    cases ns <;> rfl
  | _ => exact tru_of bb.gh r e
section
variable {X : Cx} {W : WX} {C : Cal}
/-- a value's truth in a test -/
theorem pt_of {e : Expr} {f g : ME} (h : PE X e (tX X.K W f)) (hg : ∀ env n k x, g env n k x → f env n (fin true k) x) (he : ∀ whole, isTrue e X.env whole = (do let v ← whole; standAt e.pos; holding [v] (truthy v))) : PT X e (tXT X.K W g) := by
  refine PTi (pt_truth h he) fun σ H Q ⟨c, H0, G, env, n, k, x, pre, hf, hv, hx⟩ => ?_
  refine ⟨c, H0, G, env, n, fin true k, x, pre, hg _ _ _ _ hf, fun v d n' G' H' e b r hk => ?_, hx⟩
  rw [fin_t] at hk
  obtain ⟨q, ht, hk⟩ := opTN_iff.mp hk
  exact ⟨q, tru_ofN b r ht, hv q n' G' H' e b hk⟩

/-- the two readings of one expression -/
structure PX (X : Cx) (W : WX) (C : Cal) (e : Expr) (r : PV.X) : Prop where
  pe : PE X e (tX X.K W (evE C r false))
  pt : PT X e (tXT X.K W (evE C r true))
  pw : ∀ op es pos, e = .BoolOp op es pos → PW X e (tXT X.K W (evE C r true))
theorem PX.of {e : Expr} {r : PV.X} (h : PE X e (tX X.K W (evE C r false))) (hg : ∀ env n k x, evE C r true env n k x → evE C r false env n (fin true k) x)
    (he : ∀ whole, isTrue e X.env whole = (do let v ← whole; standAt e.pos; holding [v] (truthy v))) (hb : ∀ op es pos, e ≠ .BoolOp op es pos) : PX X W C e r := ⟨h, pt_of h hg he, fun op es pos z => absurd z (hb op es pos)⟩
theorem PX.of' {e : Expr} {r : PV.X} (h : PE X e (tX X.K W (evE C r false))) (h' : PT X e (tXT X.K W (evE C r true))) (hb : ∀ op es pos, e ≠ .BoolOp op es pos) : PX X W C e r := ⟨h, h', fun op es pos z => absurd z (hb op es pos)⟩

/-! ### names and constants -/
theorem px_v {i : Nat} {x : Str} {pos : Pos} (hN : X.N[i]? = some x) (hv : Vis X.env.scope x) (hd : (x == ("__debug__" : Str)) = false) (hcd : (x == ("__classdict__" : Str)) = false) : PX X W C (.Name x pos) (.v i) := by
  have h := pe_var (X := X) (pos := pos) hN hv hd hcd
  refine PX.of' (PEi h fun σ H Q ⟨c, H0, G, env, n, k, y, pre, hf, hq, hx⟩ => ?_) (PTi (pt_truth h fun _ => rfl) fun σ H Q ⟨c, H0, G, env, n, k, y, pre, hf, hq, hx⟩ => ?_) (fun _ _ _ z => nomatch z)
  · simp only [evE] at hf
    cases hd : gt env i with
    | val d =>
      rw [hd] at hf
      have hf : fin false k d n := hf
      rw [fin_f] at hf
      obtain ⟨v, h1, h2⟩ := pre.r.val i d hd
      exact ⟨v, h1, hq.same pre.b h2 hf⟩
    | own ds => rw [hd] at hf; exact absurd hf.1 (by simp)
    | no => rw [hd] at hf; exact (show False from hf).elim
    | dct _ _ => rw [hd] at hf; exact (show False from hf).elim
  · simp only [evE] at hf
    cases hd : gt env i with
    | val d =>
      rw [hd] at hf
      have hf : fin true k d n := hf
      rw [fin_t] at hf
      obtain ⟨v, h1, h2⟩ := pre.r.val i d hd
      obtain ⟨q, ht, hf⟩ := opTN_iff.mp hf
      exact ⟨v, h1, q, tru_ofN pre.b h2 ht, hq q n G H (Ev.refl pre.b.gc) pre.b hf⟩
    | own ds =>
      rw [hd] at hf
      obtain ⟨a, vs, h1, h2, h3, h4, h5, h6⟩ := pre.r.own i ds hd
      refine ⟨_, h1, !ds.isEmpty, .inl ⟨vs, .inl (.inl h2), ?_⟩, hq _ n G H (Ev.refl pre.b.gc) pre.b hf.2⟩
      cases h6 <;> rfl
    | no => rw [hd] at hf; exact (show False from hf).elim
    | dct _ _ => rw [hd] at hf; exact (show False from hf).elim
theorem px_c {e : Expr} {r : PV.X} {v : V} {d : D} (h : PE X e (tC v)) (hr : ∀ t env n k x, evE C r t env n k x ↔ fin t k d n) (hv : ∀ c G, Rep c G v d) (he : ∀ whole, isTrue e X.env whole = (do let v ← whole; standAt e.pos; holding [v] (truthy v)))
    (hb : ∀ op es pos, e ≠ .BoolOp op es pos) : PX X W C e r := by
  refine PX.of (PEi h fun σ H Q ⟨c, H0, G, env, n, k, y, pre, hf, hq, hx⟩ => ?_) (fun env n k x hf => ?_) he hb
  · rw [hr, fin_f] at hf
    exact hq.same pre.b (hv c G) hf
  · rw [hr] at hf ⊢
    rw [fin_f]; exact hf
theorem px_i {z : Int} {j : Nat} {pos : Pos} : PX X W C (.Constant (.int z) j pos) (.i z) := px_c pe_int (fun t env n k x => by simp only [evE]) (fun _ _ => .int z) (fun _ => rfl) (fun _ _ _ z => nomatch z)
theorem px_b {z : Bool} {j : Nat} {pos : Pos} : PX X W C (.Constant (.bool z) j pos) (.b z) := px_c pe_bl (fun t env n k x => by simp only [evE]) (fun _ _ => .bl z) (fun _ => rfl) (fun _ _ _ z => nomatch z)
theorem px_n {j : Nat} {pos : Pos} : PX X W C (.Constant .none j pos) .n := px_c pe_non (fun t env n k x => by simp only [evE]) (fun _ _ => .non) (fun _ => rfl) (fun _ _ _ z => nomatch z)
theorem px_s {z : Str} {j : Nat} {pos : Pos} : PX X W C (.Constant (.str z) j pos) (.s z) := px_c pe_str (fun t env n k x => by simp only [evE]) (fun _ _ => .str z) (fun _ => rfl) (fun _ _ _ z => nomatch z)

/-! ### operators -/
theorem px_bi {o : O2} {a b : Expr} {ra rb : PV.X} {pos : Pos} (ha : PX X W C a ra) (hb : PX X W C b rb) : PX X W C (.BinOp a (toOp o) b pos) (.bi o ra rb) := by
  refine PX.of (PEi (pe_op (op2D o) ha.pe hb.pe) fun σ H Q h => ?_) (fun env n k x h => ?_) (fun _ => rfl) (fun _ _ _ z => nomatch z)
  · refine tX_op (m := fun p q n k => op2 o p q fun r => fin false k r n) (by simpa only [tX, evE] using h) fun c p q d1 d2 n k G H Q b r1 r2 m hv => ?_
    exact ⟨c, G, n, d1, d2, k, b, r1, r2, by simpa only [fin_f] using m, hv⟩
  · simpa only [evE, fin_f] using h
theorem px_cm (hu : X.A.units + 300 < cLine) {o : OC} {a b : Expr} {ra rb : PV.X} {pos : Pos} (ha : PX X W C a ra) (hb : PX X W C b rb) (hm : behindInMarks (toCmp o) b = false) : PX X W C (.Compare a [toCmp o] [b] pos) (.cm o ra rb) := by
  have key : ∀ {t : Bool} {σ H Q}, tX X.K W (evE C (.cm o ra rb) t) σ H Q → tOp (rC2 (op1 o)) (tX X.K W (evE C ra false)) (tX X.K W (evE C rb false)) σ H Q := fun {t σ H Q} h => by
    refine tX_op (m := fun p q n k => op1 o p q fun r => k (.bl r) n) (by simpa only [tX, evE] using h) fun c p q d1 d2 n k G H Q b r1 r2 m hv => ?_
    exact ⟨c, G, n, d1, d2, k, b, r1, r2, m, hv⟩
  refine PX.of' (PEi (pe_cmpR (op1D hu o) ha.pe hb.pe hm) fun σ H Q h => key h) (PTi (pt_cmpR (op1D hu o) ha.pe hb.pe hm) fun σ H Q h => ?_) (fun _ _ _ z => nomatch z)
  obtain ⟨c, H0, G, env, n, k, x, pre, hf, hv, hx⟩ := h
  have hf' : evE C (.cm o ra rb) true env n (fun d n' => ∃ b, d = .bl b ∧ k d n') x := by
    simp only [evE] at hf ⊢
    simpa using hf
  refine key (t := true) (Q := fun x H' => ∃ k, x = .bl k ∧ Q k H') ⟨c, H0, G, env, n, _, x, pre, hf', fun v d n' G' H' e b r ⟨q, eq, hk⟩ => ?_, hx⟩
  subst eq
  cases r
  exact ⟨q, rfl, hv q n' G' H' e b hk⟩
theorem tX_mono {K : PySem.W.Frag} {f g : ME} {σ : L2.St} {H : Hp} {Q : VK} (h : tX K W f σ H Q) (w : ∀ env n k x, f env n k x → g env n k x) : tX K W g σ H Q := by
  obtain ⟨c, H0, G, env, n, k, x, pre, hf, hv, hx⟩ := h
  exact ⟨c, H0, G, env, n, k, x, pre, w _ _ _ _ hf, hv, hx⟩
theorem px_ch (hu : X.A.units + 300 < cLine) {o1 o2 : OC} {a b c' : Expr} {ra rb rc : PV.X} {pos : Pos} (ha : PX X W C a ra) (hb : PX X W C b rb) (hc : PX X W C c' rc) (hm : lastMarks [toCmp o1, toCmp o2] [b, c'] = false) :
    PX X W C (.Compare a [toCmp o1, toCmp o2] [b, c'] pos) (.ch o1 o2 ra rb rc) := by
  have key : ∀ {t : Bool} {σ H} {Q : VK}, tX X.K W (evE C (.ch o1 o2 ra rb rc) t) σ H Q → tChain (rC2 (op1 o1)) (rC2 (op1 o2)) (tX X.K W (evE C ra false)) (tX X.K W (evE C rb false)) (tX X.K W (evE C rc false)) σ H Q := fun {t σ H Q} h => by
    obtain ⟨c, H0, G, env, n, k, x, pre, hf, hv, hx⟩ := h
    simp only [evE] at hf
    refine ⟨c, H0, G, env, n, _, x, pre, hf, fun p d1 n1 G1 H1 e1 b1 r1 h1 => ?_, hx⟩
    refine ⟨c, H0, G1, env, n1, _, x, pre.ev e1 b1, h1, fun q d2 n2 G2 H2 e2 b2 r2 h2 => ?_, hx.ev e1⟩
    refine ⟨c, G2, n2, d1, d2, fun d n' => ∃ r, d = .bl r ∧ n' = n2 ∧ (if r = true then evE C rc false env n2 (fun s n3 => op1 o2 d2 s fun r' => k (.bl r') n3) x else k (.bl false) n2), b2, r1.mono e2.g, r2, ?_, fun v d n' G' H' e3 b3 r3 hk => ?_⟩
    · simpa using h2
    · obtain ⟨r, ed, en, hk⟩ := hk
      subst ed; subst en
      cases r3
      refine ⟨r, rfl, ?_⟩
      cases r with
      | false =>
        simp only [Bool.false_eq_true, if_false] at hk ⊢
        exact hv (.bl false) (.bl false) n' G' H' ((e1.trans e2).trans e3) b3 (.bl false) hk
      | true =>
        simp only [if_true] at hk ⊢
        refine ⟨c, H0, G', env, n', _, x, ((pre.ev e1 b1).ev e2 b2).ev e3 b3, hk, fun s d4 n4 G4 H4 e4 b4 r4 h4 => ?_, ((hx.ev e1).ev e2).ev e3⟩
        exact ⟨c, G4, n4, d2, d4, k, b4, ((r2.mono e3.g).mono e4.g), r4, h4, fun v d n' G' H' e5 b5 r5 hk => hv v d n' G' H' ((((e1.trans e2).trans e3).trans e4).trans e5) b5 r5 hk⟩
  refine PX.of' (PEi (pe_chain (op1D hu o1) (op1D hu o2) ha.pe hb.pe hc.pe hm) fun σ H Q h => key h) (PTi (pt_chain (op1D hu o1) (op1D hu o2) ha.pe hb.pe hc.pe hm) fun σ H Q h => ?_) (fun _ _ _ z => nomatch z)
  obtain ⟨c, H0, G, env, n, k, x, pre, hf, hv, hx⟩ := h
  have hf' : evE C (.ch o1 o2 ra rb rc) true env n (fun d n' => ∃ b, d = .bl b ∧ k d n') x := by
    simp only [evE] at hf ⊢
    simpa using hf
  refine key (t := true) (Q := fun x H' => ∃ k, x = .bl k ∧ Q k H') ⟨c, H0, G, env, n, _, x, pre, hf', fun v d n' G' H' e b r ⟨q, eq, hk⟩ => ?_, hx⟩
  subst eq
  cases r
  exact ⟨q, rfl, hv q n' G' H' e b hk⟩
theorem px_un {a e : Expr} {ra r : PV.X} {o : D → (D → Prop) → Prop} {ru : V → Hp → VK → Prop} (ha : PX X W C a ra) (hp : ∀ {t : TE}, PE X a t → PE X e (tUn ru t)) (he : ∀ t env n k x, evE C r t env n k x ↔ evE C ra false env n (fun p n1 => o p fun q => fin t k q n1) x)
    (hr : ∀ c p d1 n k G H Q, Base c G H n → Rep c G p d1 → o d1 (fun q => k q n) → vOk c G H k Q → ru p H Q) (ht : ∀ whole, isTrue e X.env whole = (do let v ← whole; standAt e.pos; holding [v] (truthy v))) (hb : ∀ op es pos, e ≠ .BoolOp op es pos) : PX X W C e r := by
  refine PX.of (PEi (hp ha.pe) fun σ H Q h => ?_) (fun env n k x h => ?_) ht hb
  · refine tX_un (m := fun p n k => o p fun q => fin false k q n) (tX_mono h fun env n k x h => (he _ _ _ _ _).mp h) fun c p d1 n k G H Q b r1 m hv => ?_
    exact hr c p d1 n k G H Q b r1 (by simpa only [fin_f] using m) hv
  · rw [he] at h ⊢
    simpa only [fin_f] using h
theorem px_ng {a : Expr} {ra : PV.X} {pos : Pos} (ha : PX X W C a ra) : PX X W C (.UnaryOp .USub a pos) (.ng ra) := by
  refine px_un (o := opN) ha (fun h => pe_un un_neg h) (fun t env n k x => by simp only [evE]) (fun c p d1 n k G H Q b r1 m hv => ?_) (fun _ => rfl) (fun _ _ _ z => nomatch z)
  cases d1 <;> first
    | exact (show False from m).elim
    | skip
  cases r1
  exact ⟨_, rfl, hv.same b (.int _) m⟩
theorem un_notV : UnR X (unaryOp .Not) (fun x H Q => ∃ k, TruV X.K x H k ∧ Q (.bl (!k)) H) := by
  intro pins s σ H x v Q I rx h
  unfold unaryOp
  refine wpAny_holding ?_
  show wpAny _ _ (do let t ← truthy v; pure (Value.bool (!t))) _ _ s
  refine wpAny_bind (thn (tru_ok pins s σ H x v (fun k H1 => Q (.bl (!k)) H1) I rx h) fun k s1 ⟨H1, I1, q⟩ => ?_)
  exact wpAny_pure ⟨.bl (!k), H1, I1, rfl, q⟩
theorem px_nt {a : Expr} {ra : PV.X} {pos : Pos} (ha : PX X W C a ra) : PX X W C (.UnaryOp .Not a pos) (.nt ra) := by
  refine PX.of' (PEi (pe_un un_notV ha.pe) fun σ H Q h => ?_) (PTi (pt_not ha.pt) fun σ H Q h => ?_) (fun _ _ _ z => nomatch z)
  · refine tX_un (m := fun p n k => opT p fun b => k (.bl (!b)) n) (tX_mono h fun env n k x h => by simpa only [evE] using h) fun c p d1 n k G H Q b r1 m hv => ?_
    obtain ⟨q, ht, hk⟩ := opT_iff.mp m
    exact ⟨q, tru_of b.gh r1 ht, hv.same b (.bl _) hk⟩
  · obtain ⟨c, H0, G, env, n, k, x, pre, hf, hv, hx⟩ := h
    simp only [evE] at hf
    exact ⟨c, H0, G, env, n, _, x, pre, hf, fun b n' G' H' e bb hk => hv (!b) n' G' H' e bb hk, hx⟩
/-! ### and, or, if -/
theorem px_an {a b b' : Expr} {ra rb : PV.X} {rest : List Expr} {pos : Pos} (ha : PX X W C a ra) (hb : PE X (.BoolOp .And (b :: rest) pos) (tX X.K W (evE C rb false))) (hb' : PW X (.BoolOp .And (b :: rest) pos) (tXT X.K W (evE C rb true))) :
    PX X W C (.BoolOp .And (a :: b :: rest) pos) (.an ra rb) := by
  have h2 : PW X (.BoolOp .And (a :: b :: rest) pos) (tXT X.K W (evE C (.an ra rb) true)) := by
    refine ⟨fun wh pins s σ H Q I h => (pw_and ha.pt hb').run wh pins s σ H Q I ?_⟩
    obtain ⟨c, H0, G, env, n, k, x, pre, hf, hv, hx⟩ := h
    simp only [evE] at hf
    refine ⟨c, H0, G, env, n, _, x, pre, hf, fun p n' G' H' e bb hk => ?_, hx⟩
    have hk : (if p = true then evE C rb true env n' k x else k (.bl false) n') := hk
    cases p with
    | false =>
      simp only [Bool.false_eq_true, if_false] at hk ⊢
      exact hv false n' G' H' e bb hk
    | true =>
      simp only [if_true] at hk ⊢
      exact ⟨c, H0, G', env, n', k, x, pre.ev e bb, hk, fun q n2 G2 H2 e2 b2 hk => hv q n2 G2 H2 (e.trans e2) b2 hk, hx.ev e⟩
  refine ⟨PEi (pe_and ha.pe hb) fun σ H Q h => ?_, h2.pt, fun op es p z => by cases z; exact h2⟩
  obtain ⟨c, H0, G, env, n, k, x, pre, hf, hv, hx⟩ := h
  simp only [evE] at hf
  refine ⟨c, H0, G, env, n, _, x, pre, hf, fun v d n' G' H' e bb r hk => ?_, hx⟩
  obtain ⟨p, ed, hk⟩ := kb_iff.mp hk
  subst ed
  cases r
  refine ⟨p, rfl, ?_⟩
  cases p with
  | false =>
    simp only [Bool.false_eq_true, if_false] at hk ⊢
    exact hv (.bl false) _ n' G' H' e bb (.bl false) hk
  | true =>
    simp only [if_true] at hk ⊢
    exact ⟨c, H0, G', env, n', k, x, pre.ev e bb, hk, fun q d n2 G2 H2 e2 b2 r2 hk => hv q d n2 G2 H2 (e.trans e2) b2 r2 hk, hx.ev e⟩
theorem px_or {a b b' : Expr} {ra rb : PV.X} {rest : List Expr} {pos : Pos} (ha : PX X W C a ra) (hb : PE X (.BoolOp .Or (b :: rest) pos) (tX X.K W (evE C rb false))) (hb' : PW X (.BoolOp .Or (b :: rest) pos) (tXT X.K W (evE C rb true))) :
    PX X W C (.BoolOp .Or (a :: b :: rest) pos) (.or ra rb) := by
  have h2 : PW X (.BoolOp .Or (a :: b :: rest) pos) (tXT X.K W (evE C (.or ra rb) true)) := by
    refine ⟨fun wh pins s σ H Q I h => (pw_or ha.pt hb').run wh pins s σ H Q I ?_⟩
    obtain ⟨c, H0, G, env, n, k, x, pre, hf, hv, hx⟩ := h
    simp only [evE] at hf
    refine ⟨c, H0, G, env, n, _, x, pre, hf, fun p n' G' H' e bb hk => ?_, hx⟩
    have hk : (if p = true then k (.bl true) n' else evE C rb true env n' k x) := hk
    cases p with
    | true =>
      simp only [if_true] at hk ⊢
      exact hv true n' G' H' e bb hk
    | false =>
      simp only [Bool.false_eq_true, if_false] at hk ⊢
      exact ⟨c, H0, G', env, n', k, x, pre.ev e bb, hk, fun q n2 G2 H2 e2 b2 hk => hv q n2 G2 H2 (e.trans e2) b2 hk, hx.ev e⟩
  refine ⟨PEi (pe_or ha.pe hb) fun σ H Q h => ?_, h2.pt, fun op es p z => by cases z; exact h2⟩
  obtain ⟨c, H0, G, env, n, k, x, pre, hf, hv, hx⟩ := h
  simp only [evE] at hf
  refine ⟨c, H0, G, env, n, _, x, pre, hf, fun v d n' G' H' e bb r hk => ?_, hx⟩
  obtain ⟨p, ed, hk⟩ := kb_iff.mp hk
  subst ed
  cases r
  refine ⟨p, rfl, ?_⟩
  cases p with
  | true =>
    simp only [if_true] at hk ⊢
    exact hv (.bl true) _ n' G' H' e bb (.bl true) hk
  | false =>
    simp only [Bool.false_eq_true, if_false] at hk ⊢
    exact ⟨c, H0, G', env, n', k, x, pre.ev e bb, hk, fun q d n2 G2 H2 e2 b2 r2 hk => hv q d n2 G2 H2 (e.trans e2) b2 r2 hk, hx.ev e⟩
theorem px_one {op : BoolOp} {a : Expr} {ra : PV.X} {pos : Pos} (ha : PX X W C a ra) : PE X (.BoolOp op [a] pos) (tX X.K W (evE C ra false)) ∧ PW X (.BoolOp op [a] pos) (tXT X.K W (evE C ra true)) :=
  ⟨pe_one ha.pe, by
    cases op
    · exact pw_and1 ha.pt
    · exact pw_or1 ha.pt⟩
theorem pt_ie {c a b : Expr} {tc ta tb : TT} {pos : Pos} (hc : PT X c tc) (ha : PT X a ta) (hb : PT X b tb) : PT X (.IfExp c a b pos) (fun σ H Q => tc σ H fun k H1 => if k = true then ta σ H1 Q else tb σ H1 Q) := by
  refine ⟨fun pins s σ H Q I h => ?_⟩
  unfold PySem.isTrue
  refine wpAny_bind (thn (hc.run pins s σ H _ I h) fun k s1 ⟨H1, I1, q⟩ => ?_)
  cases k with
  | true =>
    simp only [if_true] at q ⊢
    exact ha.run pins s1 σ H1 Q I1 q
  | false =>
    simp only [Bool.false_eq_true, if_false] at q ⊢
    exact hb.run pins s1 σ H1 Q I1 q
theorem px_ie {c a b : Expr} {rc ra rb : PV.X} {pos : Pos} (hc : PX X W C c rc) (ha : PX X W C a ra) (hb : PX X W C b rb) : PX X W C (.IfExp c a b pos) (.ie rc ra rb) := by
  refine PX.of' (PEi (pe_ifExp hc.pt ha.pe hb.pe) fun σ H Q h => ?_) (PTi (pt_ie hc.pt ha.pt hb.pt) fun σ H Q h => ?_) (fun _ _ _ z => nomatch z)
  all_goals
    obtain ⟨c, H0, G, env, n, k, x, pre, hf, hv, hx⟩ := h
    simp only [evE] at hf
    refine ⟨c, H0, G, env, n, _, x, pre, hf, fun p n' G' H' e bb hk => ?_, hx⟩
    have hk := (kb_iff.mp hk)
    obtain ⟨p', ep, hk⟩ := hk
    cases ep
    cases p with
    | true =>
      simp only [if_true] at hk ⊢
      first
        | exact ⟨c, H0, G', env, n', k, x, pre.ev e bb, hk, fun q d n2 G2 H2 e2 b2 r2 hk => hv q d n2 G2 H2 (e.trans e2) b2 r2 hk, hx.ev e⟩
        | exact ⟨c, H0, G', env, n', k, x, pre.ev e bb, hk, fun q n2 G2 H2 e2 b2 hk => hv q n2 G2 H2 (e.trans e2) b2 hk, hx.ev e⟩
    | false =>
      simp only [Bool.false_eq_true, if_false] at hk ⊢
      first
        | exact ⟨c, H0, G', env, n', k, x, pre.ev e bb, hk, fun q d n2 G2 H2 e2 b2 r2 hk => hv q d n2 G2 H2 (e.trans e2) b2 r2 hk, hx.ev e⟩
        | exact ⟨c, H0, G', env, n', k, x, pre.ev e bb, hk, fun q n2 G2 H2 e2 b2 hk => hv q n2 G2 H2 (e.trans e2) b2 hk, hx.ev e⟩
end
end PV
end
section
set_option Elab.async false
set_option linter.all false
set_option maxRecDepth 100000
set_option maxHeartbeats 2000000
namespace PV
open PySem PySem.Spec PyProof.Rows L2

/-! ### argument lists -/
def notStar : Expr → Bool
  | .Starred .. => false
  | _ => true
theorem star_one {e : Expr} {es : List Expr} {env : PySem.Env} (h : notStar e = true) : starEach (e :: es) env = (false, eval e env) :: starEach es env := by
  cases e <;> first
    | rfl
    | (simp [notStar] at h)
theorem star_all {pos : Pos} {env : PySem.Env} : ∀ {es : List Expr}, es.all notStar = true → (backTo pos (starEach es env)).any (·.1) = false
  | [], _ => rfl
  | e :: es, h => by
    rw [List.all_cons, Bool.and_eq_true] at h
    rw [star_one h.1]
    show (false || (backTo pos (starEach es env)).any (·.1)) = false
    rw [star_all h.2]; rfl
section
variable {X : Cx} {W : WX} {C : Cal}
theorem pxl_nil : PA X [] (tXL X.K W (evL C .nil)) := by
  refine PAi pa_nil fun σ H Q h => ?_
  obtain ⟨c, H0, G, env, n, k, x, pre, hf, hv, hx⟩ := h
  simp only [evL] at hf
  exact hv [] [] n G H (Ev.refl pre.b.gc) pre.b .nil hf
theorem pxl_cons {e : Expr} {es : List Expr} {r : PV.X} {rs : XL} (he : PX X W C e r) (hs : PA X es (tXL X.K W (evL C rs))) (h : notStar e = true) : PA X (e :: es) (tXL X.K W (evL C (.cons r rs))) := by
  refine PAi (pa_cons he.pe hs (star_one h)) fun σ H Q h => ?_
  obtain ⟨c, H0, G, env, n, k, x, pre, hf, hv, hx⟩ := h
  simp only [evL] at hf
  refine ⟨c, H0, G, env, n, _, x, pre, hf, fun v d n1 G1 H1 e1 b1 r1 h1 => ?_, hx⟩
  refine ⟨c, H0, G1, env, n1, _, x, pre.ev e1 b1, h1, fun vs ds n2 G2 H2 e2 b2 r2 h2 => ?_, hx.ev e1⟩
  exact hv (v :: vs) (d :: ds) n2 G2 H2 (e1.trans e2) b2 (.cons (r1.mono e2.g) r2) h2
theorem px_tu {es : List Expr} {rs : XL} {j : Nat} {pos : Pos} (h : PA X es (tXL X.K W (evL C rs))) : PX X W C (.Tuple es j pos) (.tu rs) := by
  refine PX.of (PEi (pe_tupB h) fun σ H Q h => ?_) (fun env n k x h => ?_) (fun _ => rfl) (fun _ _ _ z => nomatch z)
  · obtain ⟨c, H0, G, env, n, k, x, pre, hf, hv, hx⟩ := h
    simp only [evE] at hf
    refine ⟨c, H0, G, env, n, _, x, pre, hf, fun vs ds n1 G1 H1 e1 b1 r1 h1 => ?_, hx⟩
    have h1 : small ds.length ∧ fin false k _ n1 := h1
    rw [fin_f] at h1
    refine ⟨by rw [r1.length]; exact line_small h1.1, ?_⟩
    have hv' : vOk c G1 H1 k Q := fun v d n' G' H' e2 b r hk => hv v d n' G' H' (e1.trans e2) b r hk
    exact hv'.tupNewB b1 r1 h1.2
  · simpa only [evE, fin_f] using h
theorem px_ls {es : List Expr} {rs : XL} {pos : Pos} (h : PA X es (tXL X.K W (evL C rs))) : PX X W C (.List es pos) (.ls rs) := by
  refine PX.of (PEi (pe_lst h) fun σ H Q h => ?_) (fun env n k x h => ?_) (fun _ => rfl) (fun _ _ _ z => nomatch z)
  · obtain ⟨c, H0, G, env, n, k, x, pre, hf, hv, hx⟩ := h
    simp only [evE] at hf
    refine ⟨c, H0, G, env, n, _, x, pre, hf, fun vs ds n1 G1 H1 e1 b1 r1 h1 => ?_, hx⟩
    have h1 : small ds.length ∧ fin false k _ n1 := h1
    rw [fin_f] at h1
    refine ⟨by rw [r1.length]; exact line_small h1.1, ?_⟩
    have hv' : vOk c G1 H1 k Q := fun v d n' G' H' e2 b r hk => hv v d n' G' H' (e1.trans e2) b r hk
    exact hv'.lstNew b1 r1 h1.2
  · simpa only [evE, fin_f] using h

/-! ### items, parts -/
theorem atI_ixd {c : Addr} {G : Hp} {vs : List V} {ds : List D} {i : Int} {d : D} (r : RepL c G vs ds) (h : ixd ds i = some d) : ∃ v, atI vs i = some v ∧ Rep c G v d := by
  have hl := r.length
  unfold ixd at h
  unfold atI ixN
  split at h
  · rename_i hi
    obtain ⟨hlt, _⟩ := List.getElem?_eq_some_iff.mp h
    obtain ⟨v, e1, e2⟩ := r.get h
    refine ⟨v, ?_, e2⟩
    have hlt' : i < (vs.length : Int) := by omega
    rw [if_pos hi, if_pos hlt']
    exact e1
  · rename_i hi
    split at h
    · rename_i hi2
      obtain ⟨hlt, _⟩ := List.getElem?_eq_some_iff.mp h
      obtain ⟨v, e1, e2⟩ := r.get h
      refine ⟨v, ?_, e2⟩
      rw [if_neg hi, hl, if_pos hi2]
      exact e1
    · cases h
def plainIx : Expr → Bool
  | .Slice .. => false
  | _ => true
theorem plain_ix {b : Expr} (h : plainIx b = true) : PlainIx b := fun o i => by
  cases b <;> first
    | rfl
    | (simp [plainIx] at h)
theorem px_ix {a b : Expr} {ra rb : PV.X} {pos : Pos} (ha : PX X W C a ra) (hb : PX X W C b rb) (hp : plainIx b = true) : PX X W C (.Subscript a b pos) (.ix ra rb) := by
  refine PX.of (PEi (pe_ix (ix_list.or ix_tup) ha.pe hb.pe (plain_ix hp)) fun σ H Q h => ?_) (fun env n k x h => ?_) (fun _ => rfl) (fun _ _ _ z => nomatch z)
  · refine tX_op (m := fun p q n k => opX p q fun r => fin false k r n) (by simpa only [tX, evE] using h) fun c p q d1 d2 n k G H Q b r1 r2 m hv => ?_
    simp only [fin_f] at m
    cases d1 <;> cases d2 <;> first
      | exact (show False from m).elim
      | skip
    · rename_i ds i
      cases r2
      cases r1 with
      | tup g l =>
        have m : (match ixd ds i with | some d => k d n | none => False) := m
        cases hx : ixd ds i with
        | none => rw [hx] at m; exact m.elim
        | some d =>
          rw [hx] at m
          obtain ⟨v, e1, e2⟩ := atI_ixd l hx
          exact .inr ⟨_, _, i, v, rfl, rfl, .inl (g.rd b.gh), e1, hv.same b e2 m⟩
    · rename_i ds i
      cases r2
      cases r1 with
      | lst g l =>
        have m : (match ixd ds i with | some d => k d n | none => False) := m
        cases hx : ixd ds i with
        | none => rw [hx] at m; exact m.elim
        | some d =>
          rw [hx] at m
          obtain ⟨v, e1, e2⟩ := atI_ixd l hx
          exact .inl ⟨_, _, i, v, rfl, rfl, .inl (.inl (b.gh _ _ g)), e1, hv.same b e2 m⟩
    · rename_i ns i
      cases r2
      cases r1 with
      | scr g =>
        have m : (match ixd (ns.map D.int) i with | some d => k d n | none => False) := m
        cases hx : ixd (ns.map D.int) i with
        | none => rw [hx] at m; exact m.elim
        | some d =>
          rw [hx] at m
          obtain ⟨v, e1, e2⟩ := atI_ixd (RepL.ints (c := c) (G := G) ns) hx
          exact .inl ⟨_, _, i, v, rfl, rfl, .inl (.inr ⟨_, b.gh _ _ g⟩), e1, hv.same b e2 m⟩
  · simpa only [evE, fin_f] using h
/-- an own list's item, its length -/
theorem px_oi {i : Nat} {x : Str} {p : Pos} {b : Expr} {rb : PV.X} {pos : Pos} (hN : X.N[i]? = some x) (hv : Vis X.env.scope x) (hd : (x == ("__debug__" : Str)) = false) (hcd : (x == ("__classdict__" : Str)) = false) (hb : PX X W C b rb) (hp : plainIx b = true) :
    PX X W C (.Subscript (.Name x p) b pos) (.oi i rb) := by
  refine PX.of (PEi (pe_ix ix_list (pe_var hN hv hd hcd) hb.pe (plain_ix hp)) fun σ H Q h => ?_) (fun env n k x h => ?_) (fun _ => rfl) (fun _ _ _ z => nomatch z)
  · obtain ⟨c, H0, G, env, n, k, y, pre, hf, hq, hx⟩ := h
    simp only [evE] at hf
    obtain ⟨ho, hf⟩ := hf
    cases hg : gt env i with
    | val d => rw [hg] at ho; cases ho
    | no => rw [hg] at ho; cases ho
    | dct _ _ => rw [hg] at ho; cases ho
    | own ds =>
      obtain ⟨a, vs, h1, _⟩ := pre.r.own i ds hg
      refine ⟨_, h1, c, H0, G, env, n, _, y, pre, hf, fun v d n1 G1 H1 e1 b1 r1 m => ?_, hx⟩
      rw [hg] at m
      cases d <;> first
        | exact (show False from m).elim
        | skip
      rename_i j
      cases r1
      have m : (match ixd ds j with | some d => fin false k d n1 | none => False) := m
      cases hi : ixd ds j with
      | none => rw [hi] at m; exact m.elim
      | some d =>
        rw [hi] at m
        obtain ⟨a', vs', q1, q2, q3, q4, q5, q6⟩ := (pre.r.ev e1).own i ds hg
        rw [h1] at q1; cases q1
        obtain ⟨w, w1, w2⟩ := atI_ixd q6 hi
        have m : fin false k d n1 := m
        rw [fin_f] at m
        exact ⟨_, _, j, w, rfl, rfl, .inl (.inl q2), w1, hq w d n1 G1 H1 e1 b1 w2 m⟩
  · simp only [evE] at h ⊢
    simpa only [fin_f] using h
theorem px_ol {i : Nat} {x : Str} {p p2 : Pos} {pos : Pos} (hN : X.N[i]? = some x) (hv : Vis X.env.scope x) (hd : (x == ("__debug__" : Str)) = false) (hcd : (x == ("__classdict__" : Str)) = false) (hg : Gl X "len") (hm : X.mg "len" = none) :
    PX X W C (.Call (.Name "len" p) [.Name x p2] [] pos) (.ol i) := by
  refine PX.of (PEi (pe_callB call_len_seq hg hm boot_len (pa_cons (pe_var hN hv hd hcd) pa_nil)) fun σ H Q h => ?_) (fun env n k x h => ?_) (fun _ => rfl) (fun _ _ _ z => nomatch z)
  · obtain ⟨c, H0, G, env, n, k, y, pre, hf, hq, hx⟩ := h
    simp only [evE] at hf
    cases hg : gt env i with
    | val d => rw [hg] at hf; exact (show False from hf).elim
    | no => rw [hg] at hf; exact (show False from hf).elim
    | dct _ _ => rw [hg] at hf; exact (show False from hf).elim
    | own ds =>
      rw [hg] at hf
      have hf : fin false k (.int ds.length) n := hf
      rw [fin_f] at hf
      obtain ⟨a, vs, h1, h2, h3, h4, h5, h6⟩ := pre.r.own i ds hg
      refine ⟨_, h1, _, _, rfl, .inl (.inl (.inl h2)), ?_⟩
      rw [h6.length]
      exact hq.same pre.b (.int _) hf
  · simp only [evE] at h ⊢
    cases hg : gt env i with
    | val d => rw [hg] at h; exact (show False from h).elim
    | no => rw [hg] at h; exact (show False from h).elim
    | dct _ _ => rw [hg] at h; exact (show False from h).elim
    | own ds =>
      rw [hg] at h
      have h : fin true k (.int ds.length) n := h
      show fin false (fin true k) _ n
      rw [fin_f]; exact h

/-- the draws' list -/
theorem isSt_ok {s : Slot} (h : isSt s = true) : s = .val .st := by
  cases s with
  | val d => cases d <;> simp [isSt] at h; rfl
  | _ => simp [isSt] at h
theorem px_stl {i : Nat} {x : Str} {p p2 : Pos} {pos : Pos} (hN : X.N[i]? = some x) (hv : Vis X.env.scope x) (hd : (x == ("__debug__" : Str)) = false) (hcd : (x == ("__classdict__" : Str)) = false) (hg : Gl X "len") (hm : X.mg "len" = none) :
    PX X W C (.Call (.Name "len" p) [.Name x p2] [] pos) (.stl i) := by
  refine PX.of (PEi (pe_callB call_len_seq hg hm boot_len (pa_cons (pe_var hN hv hd hcd) pa_nil)) fun σ H Q h => ?_) (fun env n k x h => ?_) (fun _ => rfl) (fun _ _ _ z => nomatch z)
  · obtain ⟨c, H0, G, env, n, k, y, pre, hf, hq, hx⟩ := h
    simp only [evE] at hf
    obtain ⟨v, h1, h2⟩ := pre.r.val i _ (isSt_ok hf.1)
    cases h2
    obtain ⟨ns, h3, h4⟩ := pre.b.cell
    refine ⟨_, h1, _, _, rfl, .inl (.inl (.inl h3)), ?_⟩
    rw [List.length_map, h4]
    exact hq.same pre.b (.int _) (by simpa only [fin_f] using hf.2)
  · simp only [evE] at h ⊢
    exact ⟨h.1, by rw [fin_f]; exact h.2⟩
theorem px_stx {i : Nat} {x : Str} {p p2 : Pos} {j : Nat} {pos : Pos} (hN : X.N[i]? = some x) (hv : Vis X.env.scope x) (hd : (x == ("__debug__" : Str)) = false) (hcd : (x == ("__classdict__" : Str)) = false) :
    PX X W C (.Subscript (.Name x p) (.Constant (.int 0) j p2) pos) (.stx i) := by
  refine PX.of (PEi (pe_ix ix_list (pe_var hN hv hd hcd) pe_int (fun _ _ => rfl)) fun σ H Q h => ?_) (fun env n k x h => ?_) (fun _ => rfl) (fun _ _ _ z => nomatch z)
  · obtain ⟨c, H0, G, env, n, k, y, pre, hf, hq, hx⟩ := h
    simp only [evE] at hf
    obtain ⟨v, h1, h2⟩ := pre.r.val i _ (isSt_ok hf.1)
    cases h2
    obtain ⟨ns, h3, h4⟩ := pre.b.cell
    cases ns with
    | nil => have := hf.2.1; simp at h4; omega
    | cons z ns =>
      refine ⟨_, h1, _, _, 0, .int z, rfl, rfl, .inl (.inl h3), (by show atI (V.int z :: ns.map V.int) 0 = _; unfold atI ixN; rw [if_pos (Int.le_refl 0), if_pos (by simp only [List.length_cons]; omega)]; rfl), ?_⟩
      exact hq.same pre.b (.int _) (by have := hf.2.2 z; simpa only [fin_f] using this)
  · simp only [evE] at h ⊢
    exact ⟨h.1, h.2.1, fun z => by rw [fin_f]; exact h.2.2 z⟩

/-! ### slices -/
theorem pxo_no : PO X none (fun σ H Q => ∃ c H0 G env n k x, Pre c H0 env σ G H n ∧ evO C .no env n k x ∧ (∀ o n' G' H', Ev c G H G' H' → Base c G' H' n' → k o n' → Q o H') ∧ xOk X.K W c σ G H x) :=
  ⟨fun pins s σ H Q I h => by
    obtain ⟨c, H0, G, env, n, k, x, pre, hf, hv, hx⟩ := h
    simp only [evO] at hf
    exact po_none.run pins s σ H Q I (hv none n G H (Ev.refl pre.b.gc) pre.b hf)⟩
theorem pxo_so {e : Expr} {r : PV.X} (he : PX X W C e r) : PO X (some e) (fun σ H Q => ∃ c H0 G env n k x, Pre c H0 env σ G H n ∧ evO C (.so r) env n k x ∧ (∀ o n' G' H', Ev c G H G' H' → Base c G' H' n' → k o n' → Q o H') ∧ xOk X.K W c σ G H x) :=
  ⟨fun pins s σ H Q I h => by
    obtain ⟨c, H0, G, env, n, k, x, pre, hf, hv, hx⟩ := h
    simp only [evO] at hf
    refine (po_some he.pe).run pins s σ H Q I ⟨c, H0, G, env, n, _, x, pre, hf, fun v d n' G' H' e b r m => ?_, hx⟩
    cases d <;> first
      | exact (show False from m).elim
      | skip
    cases r
    exact ⟨_, rfl, hv (some _) n' G' H' e b m⟩⟩
theorem sIx_cut (n d : Nat) (o : Option Int) (h : d ≤ n) : HT.sIx n d o = cutIx n d o := by
  unfold HT.sIx cutIx
  cases o with
  | none => rfl
  | some v => first
    | rfl
    | (simp only []; split <;> first | rfl | omega)
theorem RepL.cut {c : Addr} {G : Hp} {vs : List V} {ds : List D} (r : RepL c G vs ds) (lo hi : Option Int) : RepL c G (cutV vs lo hi) (cutd ds lo hi) := by
  have hl := r.length
  unfold cutV cutd
  rw [sIx_cut _ _ _ (Nat.zero_le _), sIx_cut _ _ _ (Nat.le_refl _), hl]
  exact (r.drop _).take _
theorem px_sl {a : Expr} {lo hi : Option Expr} {ra : PV.X} {rl rh : XO} {p2 pos : Pos} (ha : PX X W C a ra)
    (hl : PO X lo (fun σ H Q => ∃ c H0 G env n k x, Pre c H0 env σ G H n ∧ evO C rl env n k x ∧ (∀ o n' G' H', Ev c G H G' H' → Base c G' H' n' → k o n' → Q o H') ∧ xOk X.K W c σ G H x))
    (hh : PO X hi (fun σ H Q => ∃ c H0 G env n k x, Pre c H0 env σ G H n ∧ evO C rh env n k x ∧ (∀ o n' G' H', Ev c G H G' H' → Base c G' H' n' → k o n' → Q o H') ∧ xOk X.K W c σ G H x)) :
    PX X W C (.Subscript a (.Slice lo hi none p2) pos) (.sl ra rl rh) := by
  refine PX.of (PEi (pe_slice (sl_list.or sl_tupB) ha.pe hl hh) fun σ H Q h => ?_) (fun env n k x h => ?_) (fun _ => rfl) (fun _ _ _ z => nomatch z)
  · obtain ⟨c, H0, G, env, n, k, x, pre, hf, hv, hx⟩ := h
    simp only [evE] at hf
    refine ⟨c, H0, G, env, n, _, x, pre, hf, fun p d n1 G1 H1 e1 b1 r1 h1 => ?_, hx⟩
    refine ⟨c, H0, G1, env, n1, _, x, pre.ev e1 b1, h1, fun l n2 G2 H2 e2 b2 h2 => ?_, hx.ev e1⟩
    refine ⟨c, H0, G2, env, n2, _, x, (pre.ev e1 b1).ev e2 b2, h2, fun u n3 G3 H3 e3 b3 h3 => ?_, (hx.ev e1).ev e2⟩
    have hv3 : vOk c G3 H3 k Q := fun v d n' G' H' e b r hk => hv v d n' G' H' (((e1.trans e2).trans e3).trans e) b r hk
    simp only [fin_f] at h3
    have r3 := (r1.mono e2.g).mono e3.g
    cases d <;> first
      | exact (show False from h3).elim
      | skip
    · rename_i ds
      have h3 : k (.tup (cutd ds l u)) n3 := h3
      cases r3 with
      | tup g q =>
        refine .inr ⟨_, _, rfl, .inl (g.rd b3.gh), fun hw => ?_, fun hw => hv3.tupNewB b3 (q.cut l u) h3⟩
        have e : cutd ds l u = ds := by
          have hl := q.length
          unfold cutd
          rw [sIx_cut _ _ _ (Nat.zero_le _), sIx_cut _ _ _ (Nat.le_refl _), hl] at hw
          rw [hw.1, hw.2]
          simp
        rw [e] at h3
        exact hv3.same b3 (.tup g q) h3
    · rename_i ds
      have h3 : k (.lst (cutd ds l u)) n3 := h3
      cases r3 with
      | lst g q => exact .inl ⟨_, _, rfl, .inl (.inl (b3.gh _ _ g)), hv3.lstNew b3 (q.cut l u) h3⟩
  · simpa only [evE, fin_f] using h

/-! ### built-ins, isinstance -/
theorem px_bc {f : BF} {id : String} {x : Str} {a : Expr} {ra : PV.X} {p pos : Pos} (hc : CallR X (.builtin id) (rB (bfun f))) (hg : Gl X x) (hm : X.mg x = none) (hv : bootBuiltins x = some (.builtin id)) (hn : x ≠ "__name__") (hdb : (x == ("__debug__" : Str)) = false)
    (ha : PX X W C a ra) (hs : notStar a = true) : PX X W C (.Call (.Name x p) [a] [] pos) (.bc f ra) := by
  refine px_un (o := bfun f) (ru := fun v H Q => rB (bfun f) [v] H Q) ha (fun {t} h => PEi (pe_callB hc hg hm hv (pa_cons h pa_nil (star_one hs)) hn hdb (star_one hs) rfl) fun σ H Q h => h) (fun t env n k x => by simp only [evE]) (fun c p d1 n k G H Q b r1 m hv => ?_) (fun _ => rfl) (fun _ _ _ z => nomatch z)
  exact ⟨c, G, n, d1, k, p, rfl, b, r1, m, hv⟩
theorem px_bt {f : BF} {T : String} {x : Str} {a : Expr} {ra : PV.X} {p pos : Pos} (hc : CallR X (.type T) (rB (bfun f))) (hg : Gl X x) (hm : X.mg x = none) (hv : bootBuiltins x = some (.type T)) (hn : x ≠ "__name__") (hdb : (x == ("__debug__" : Str)) = false)
    (ha : PX X W C a ra) (hs : notStar a = true) : PX X W C (.Call (.Name x p) [a] [] pos) (.bc f ra) := by
  refine px_un (o := bfun f) (ru := fun v H Q => rB (bfun f) [v] H Q) ha (fun {t} h => PEi (pe_callTy hc hg hm hv (pa_cons h pa_nil (star_one hs)) hn hdb (star_one hs) rfl) fun σ H Q h => h) (fun t env n k x => by simp only [evE]) (fun c p d1 n k G H Q b r1 m hv => ?_) (fun _ => rfl) (fun _ _ _ z => nomatch z)
  exact ⟨c, G, n, d1, k, p, rfl, b, r1, m, hv⟩
def tyN : TY → String
  | .int => "int"
  | .bool => "bool"
  | .tuple => "tuple"
  | .str => "str"
  | .list => "list"
theorem boot_ty (ty : TY) : bootBuiltins (tyN ty) = some (.type (tyN ty)) := by
  cases ty
  · exact boot_int
  · exact boot_bool
  · exact boot_tuple
  · exact boot_str
  · exact boot_list
def D.tyN : D → String
  | .non => "NoneType"
  | .bl _ => "bool"
  | .int _ => "int"
  | .str _ => "str"
  | .tup _ => "tuple"
  | .lst _ => "list"
  | .st => ""
  | .scr _ => ""
theorem isT_kit {ty : TY} {d : D} {b : Bool} (h : D.isT ty d = some b) : kitB (D.tyN d) (PV.tyN ty) = some b := by
  cases ty <;> cases d <;> simp [D.isT] at h <;> subst h <;> simp only [D.tyN, PV.tyN] <;> decide +kernel
theorem ty_of {X : Cx} {c : Addr} {G H : Hp} {v : V} {d : D} {ty : TY} {b : Bool} (gh : Same G H) (r : Rep c G v d) (h : D.isT ty d = some b) : TyX X.K H v (.type (D.tyN d)) := by
  cases r with
  | non => exact .base .non
  | bl q => exact .base (.bl q)
  | int i => exact .base (.int i)
  | str x => exact .base (.str x)
  | lst g l => exact .base (.lst (gh _ _ g))
  | tup g l =>
    rcases g.rd gh with e | ⟨o, e⟩
    · exact .base (.tup e)
    · exact .fTuple e
  | st => cases ty <;> simp [D.isT] at h
  | scr g => cases ty <;> simp [D.isT] at h
theorem px_isi {ty : TY} {a : Expr} {ra : PV.X} {p p2 pos : Pos} (hg : Gl X "isinstance") (hm : X.mg "isinstance" = none) (hg2 : Gl X (tyN ty)) (hm2 : X.mg (tyN ty) = none) (hn : (tyN ty : Str) ≠ "__name__") (hdb : ((tyN ty : Str) == ("__debug__" : Str)) = false)
    (ha : PX X W C a ra) (hs : notStar a = true) : PX X W C (.Call (.Name "isinstance" p) [a, .Name (tyN ty) p2] [] pos) (.isi ty ra) := by
  refine px_un (o := fun d k => opI ty d fun b => k (.bl b)) (ru := fun v H Q => rIsi X.K [v, .ty (tyN ty)] H Q) ha (fun {t} h => PEi (pe_callB call_isi hg hm boot_isinstance
    (pa_cons h (pa_cons (pe_bltn (v := .ty (tyN ty)) hg2 hm2 (boot_ty ty) rfl hn hdb) pa_nil rfl) (star_one hs)) (he := star_one hs) (hpl := rfl)) fun σ H Q h => h) (fun t env n k x => ?_) (fun c p d1 n k G H Q b r1 m hv => ?_) (fun _ => rfl) (fun _ _ _ z => nomatch z)
  · simp only [evE]
    cases t
    · simp only [fin_f]
    · simp only [fin_t, opTN, D.truN, D.tru]
  · have m : opI ty d1 fun b => k (.bl b) n := m
    unfold opI at m
    cases hT : D.isT ty d1 with
    | none => rw [hT] at m; exact m.elim
    | some q =>
      rw [hT] at m
      exact ⟨p, .ty (tyN ty), _, _, q, rfl, .ty _, ty_of b.gh r1 hT, kit_ty (isT_kit hT), hv.same b (.bl q) m⟩

/-! ### calls of defs -/
def spOf (K : PySem.W.Frag) (C : Cal) (f : Nat) : Sp := fun vs H Q E => ∃ c G ds n k x, Base c G H n ∧ RepL c G vs ds ∧ C f ds n k x ∧ vOk c G H k Q ∧
  ∀ nm n' G' H', Ev c G H G' H' → Base c G' H' n' → x nm n' → E (.ref (He.ga K nm)) none H'
structure FnAt (P : Program) (w : World) (K : PySem.W.Frag) (mg : Str → Option Value) (base : Heap) (l : Nat) (C : Cal) (x : Str) (f : Nat) : Prop where
  ex : ∃ a fd ps, mg x = some (.ref a) ∧ PySem.W.keepIn K (.ref a) = true ∧ Binds K fd ps [] ∧ FnOk P w K mg base (L2.CX P w) l a fd ps (spOf K C f)
theorem call_of {c : Addr} {G H : Hp} {σ : L2.St} {f : Nat} {k : KD} {x : KX} {Q : VK} {vs : List V} {ds : List D} {G1 H1 : Hp} {n1 : Nat} (e1 : Ev c G H G1 H1) (b1 : Base c G1 H1 n1) (r1 : RepL c G1 vs ds) (h1 : C f ds n1 k x)
    (hv : vOk c G H k Q) (hx : xOk X.K W c σ G H x) : spOf X.K C f vs H1 Q (WE W σ) :=
  ⟨c, G1, ds, n1, k, x, b1, r1, h1, fun v d n' G' H' e b r hk => hv v d n' G' H' (e1.trans e) b r hk, fun nm n' G' H' e b h => hx nm n' G' H' (e1.trans e) b h⟩
theorem px_ca {x : Str} {f : Nat} {e : Expr} {es : List Expr} {rs : XL} {l : Nat} {p pos : Pos} (F : FnAt X.prog X.w X.K X.mg X.base l C x f) (hr : Room l X.A) (tk : Takes X W) (hg : Gl X x) (hdb : (x == ("__debug__" : Str)) = false) (h : PA X (e :: es) (tXL X.K W (evL C rs))) (hs : (e :: es).all notStar = true) :
    PX X W C (.Call (.Name x p) (e :: es) [] pos) (.ca f rs) := by
  obtain ⟨a, fd, ps, hm, hk, hb, F⟩ := F.ex
  have hs' := hs
  rw [List.all_cons, Bool.and_eq_true] at hs'
  refine PX.of (PEi (pe_callS F hr hg hm hk hb (fun σ => passAt tk σ) h hdb (star_one hs'.1) (star_all hs'.2)) fun σ H Q h => ?_) (fun env n k x h => ?_) (fun _ => rfl) (fun _ _ _ z => nomatch z)
  · obtain ⟨c, H0, G, env, n, k, y, pre, hf, hv, hx⟩ := h
    simp only [evE] at hf
    refine ⟨c, H0, G, env, n, _, y, pre, hf, fun vs ds n1 G1 H1 e1 b1 r1 h1 => ?_, hx⟩
    have h1 : C f ds n1 k y := by
      have e : fin false k = k := by funext d n; exact fin_f
      rw [← e]; exact h1
    exact call_of e1 b1 r1 h1 hv hx
  · simp only [evE] at h ⊢
    have e : fin false (fin true k) = fin true k := by funext d n; exact fin_f
    rw [e]; exact h
theorem pe_callS0 {CX : CXT} {k : Nat} {f : Addr} {fd : FuncData} {ps : List Str} {sp : Sp} {E : L2.St → XK} {x : Str} {p pos : Pos} (F : FnOk X.prog X.w X.K X.mg X.base CX k f fd ps sp) (hr : Room k X.A) (hg : Gl X x) (hm : X.mg x = some (.ref f)) (hk : PySem.W.keepIn X.K (.ref f) = true) (hb : Binds X.K fd ps []) (hx : ∀ σ, PassesAt CX X σ (E σ))
    (hdb : (x == ("__debug__" : Str)) = false) : PE X (.Call (.Name x p) [] [] pos) (tCallS sp E tNil) := by
  refine ⟨fun pins s σ H Q I h => ?_⟩
  refine wpAny_Call_Name_kw (ld_glob I hg hm ?_ hdb)
  exact PySem.W.callWith_K0 I.kIn hk (run_fnS (us := []) F hr hb (hx σ) I .nil h)
theorem px_ca0 {x : Str} {f : Nat} {l : Nat} {p pos : Pos} (F : FnAt X.prog X.w X.K X.mg X.base l C x f) (hr : Room l X.A) (tk : Takes X W) (hg : Gl X x) (hdb : (x == ("__debug__" : Str)) = false) :
    PX X W C (.Call (.Name x p) [] [] pos) (.ca f .nil) := by
  obtain ⟨a, fd, ps, hm, hk, hb, F⟩ := F.ex
  refine PX.of (PEi (pe_callS0 F hr hg hm hk hb (fun σ => passAt tk σ) hdb) fun σ H Q h => ?_) (fun env n k x h => ?_) (fun _ => rfl) (fun _ _ _ z => nomatch z)
  · obtain ⟨c, H0, G, env, n, k, y, pre, hf, hv, hx⟩ := h
    simp only [evE, evL] at hf
    have e : fin false k = k := by funext d n; exact fin_f
    rw [e] at hf
    exact call_of (Ev.refl pre.b.gc) pre.b .nil hf hv hx
  · simp only [evE, evL] at h ⊢
    have e : fin false (fin true k) = fin true k := by funext d n; exact fin_f
    rw [e]; exact h
end
end PV
end
section
set_option Elab.async false
set_option linter.all false
set_option maxRecDepth 100000
set_option maxHeartbeats 2000000
namespace PV
open PySem PySem.Spec PyProof.Rows L2
section
variable {X : Cx} {W : WX} {C : Cal}

/-! ### what is walked -/
theorem items_cases {d : D} {xs : List D} (h : D.items d = some xs) : d = .tup xs ∨ d = .lst xs ∨ (∃ z, d = .str z ∧ xs = z.cps.toList.map fun c => D.str ⟨#[c]⟩) ∨ ∃ ns, d = .scr ns ∧ xs = ns.map D.int := by
  cases d <;> simp [D.items] at h
  · exact .inr (.inr (.inl ⟨_, rfl, h.symm⟩))
  · exact .inl (by rw [h])
  · exact .inr (.inl (by rw [h]))
  · exact .inr (.inr (.inr ⟨_, rfl, h.symm⟩))
theorem pxi_ex {tg e : Expr} {r : PV.X} (he : PX X W C e r) : PI X tg e (tXI X.K W (evI C (.ex r))) := by
  refine ⟨fun pins s σ H R I h => ?_⟩
  obtain ⟨c, H0, G, env, n, k, x, pre, hf, hv, hx⟩ := h
  simp only [evI] at hf
  refine thn (he.pe.run pins s σ H (fun v H' => ∃ d n' G', Ev c G H G' H' ∧ Base c G' H' n' ∧ Rep c G' v d ∧ opSq d fun xs => k xs n') I ⟨c, H0, G, env, n, _, x, pre, hf, fun v d n' G' H' e b r hk => ⟨d, n', G', e, b, r, hk⟩, hx⟩) fun v s1 ⟨w, H1, I1, r1, d, n', G', e, b, r, hk⟩ => ?_
  unfold opSq at hk
  cases hi : D.items d with
  | none => rw [hi] at hk; exact hk.elim
  | some xs =>
    rw [hi] at hk
    have hk : k xs n' := hk
    rcases items_cases hi with rfl | rfl | ⟨z, rfl, rfl⟩ | ⟨ns, rfl, rfl⟩
    · cases r with
      | tup g l =>
        cases r1
        obtain ⟨its, rv, p, hz⟩ := I1.tuple (.inl (g.rd b.gh))
        refine wpAny_pyIter_tuple (show s1.heap.IsTuple _ its.toArray from p) ?_
        exact pi_one (tk := s1.toks) I1 _ (turn_tuple _ _) ⟨_, Heap.get?_push_size _ rfl, rfl, rfl⟩ (hv _ _ n' G' H1 e b (walkD_tup g l) hk)
    · cases r with
      | lst g l =>
        cases r1
        obtain ⟨its, rv, p, hz⟩ := I1.list (.inl (.inl (b.gh _ _ g)))
        refine wpAny_pyIter_list p.isList ?_
        exact pi_one (tk := s1.toks) I1 _ (turn_list _ _) ⟨_, Heap.get?_push_size _ rfl, rfl, rfl⟩ (hv _ _ n' G' H1 e b (walkD_list g l) hk)
    · cases r
      obtain ⟨t, rfl⟩ := r1
      have q := hv (Its z) _ n' G' H1 e b walkD_str hk
      cases ha : z.cps.all (· < 128)
      · exact wpAny_pyIter_wide ha (pi_one (tk := s1.toks) I1 _ (turn_str _ z t "str_iterator" (.inr rfl)) ⟨_, Heap.get?_push_size _ rfl, rfl, rfl⟩ q)
      · exact wpAny_pyIter_ascii ha (pi_one (tk := s1.toks) I1 _ (turn_str _ z t "str_ascii_iterator" (.inl rfl)) ⟨_, Heap.get?_push_size _ rfl, rfl, rfl⟩ q)
    · cases r with
      | @scr a ob ns g =>
        cases r1
        obtain ⟨its, rv, p, hz⟩ := I1.list (.inl (.inr ⟨_, b.gh _ _ g⟩))
        refine wpAny_pyIter_list p.isList ?_
        have w : L2.Walk (Itl X.K a) (ns.map D.int).length (fun H2 => Same G' H2) (YD c G' (ns.map D.int)) := by
          have w := walk_list (K := X.K) (a := a) (xs := ns.map V.int)
          rw [List.length_map] at w ⊢
          refine w.mono (fun H h => .inl (.inr ⟨_, h _ _ g⟩)) fun i H x H' hi h y => ?_
          obtain ⟨e, y⟩ := y
          subst e
          intro G2 n b s
          obtain ⟨d, hd, rd⟩ := (RepL.ints (c := c) (G := G2) ns).get' y
          exact ⟨G2, d, hd, Ev.refl b.gc, b, rd⟩
        exact pi_one (tk := s1.toks) I1 _ (turn_list _ _) ⟨_, Heap.get?_push_size _ rfl, rfl, rfl⟩ (hv _ _ n' G' H1 e b w hk)
theorem pxi_r1 {tg e : Expr} {r : PV.X} {p pos : Pos} (hg : Gl X "range") (hm : X.mg "range" = none) (he : PX X W C e r) (hs : notStar e = true) : PI X tg (.Call (.Name "range" p) [e] [] pos) (tXI X.K W (evI C (.r1 r))) := by
  refine PIi (pi_range1 hg hm (pa_cons he.pe pa_nil (star_one hs)) (star_one hs)) fun σ H R h => ?_
  obtain ⟨c, H0, G, env, n, k, x, pre, hf, hv, hx⟩ := h
  simp only [evI] at hf
  refine ⟨c, H0, G, env, n, _, x, pre, hf, fun v d n' G' H' e b r hk => ?_, hx⟩
  cases d <;> first
    | exact (show False from hk).elim
    | skip
  rename_i i
  obtain ⟨h1, h2, hk⟩ := hk
  cases r
  exact ⟨i, rfl, by omega, by omega, hv _ _ n' G' H' e b walkD_range hk⟩
theorem pxi_r2 {tg e e2 : Expr} {r r2 : PV.X} {p pos : Pos} (hg : Gl X "range") (hm : X.mg "range" = none) (he : PX X W C e r) (hs : notStar e = true) (he2 : PX X W C e2 r2) (hs2 : notStar e2 = true) : PI X tg (.Call (.Name "range" p) [e, e2] [] pos) (tXI X.K W (evI C (.r2 r r2))) := by
  refine PIi (pi_range2 hg hm (pa_cons he.pe (pa_cons he2.pe pa_nil (star_one hs2)) (star_one hs)) (by rw [star_one hs, star_one hs2]; rfl) (star_one hs2)) fun σ H R h => ?_
  obtain ⟨c, H0, G, env, n, k, x, pre, hf, hv, hx⟩ := h
  simp only [evI] at hf
  refine ⟨c, H0, G, env, n, _, x, pre, hf, fun v d n1 G1 H1 e1 b1 r1 h1 => ?_, hx⟩
  refine ⟨c, H0, G1, env, n1, _, x, pre.ev e1 b1, h1, fun v2 d2 n2 G2 H2 e2 b2 r2 h2 => ?_, hx.ev e1⟩
  cases d <;> cases d2 <;> first
    | exact (show False from h2).elim
    | skip
  rename_i i j
  obtain ⟨q1, q2, q3, q4, h2⟩ := h2
  cases r1; cases r2
  exact ⟨i, j, rfl, ⟨by omega, by omega, by omega, by omega⟩, hv _ _ n2 G2 H2 (e1.trans e2) b2 walkD_range h2⟩
theorem seqs_cases {d : D} {xs : List D} (h : D.seqs d = some xs) : ∃ k : SK, d = D.seq k xs := by
  cases d <;> simp [D.seqs] at h
  · exact ⟨.t, by rw [h]; rfl⟩
  · exact ⟨.l, by rw [h]; rfl⟩
theorem opEn_iff {d : D} {k : List D → Prop} : opEn d k ↔ ∃ xs, D.seqs d = some xs ∧ k (enumD xs) := by
  cases d <;> simp [opEn, D.seqs]
theorem opZp_iff {d e : D} {k : List D → Prop} : opZp d e k ↔ ∃ xs ys, D.seqs d = some xs ∧ D.seqs e = some ys ∧ k (zipD xs ys) := by
  unfold opZp
  cases D.seqs d <;> cases D.seqs e <;> simp
theorem pxi_en {elts : List Expr} {kk : Nat} {tpos : Pos} {e : Expr} {r : PV.X} {p pos : Pos} (hg : Gl X "enumerate") (hm : X.mg "enumerate" = none) (he : PX X W C e r) (hs : notStar e = true) : PI X (.Tuple elts kk tpos) (.Call (.Name "enumerate" p) [e] [] pos) (tXI X.K W (evI C (.en r))) := by
  refine PIi (pi_enumA hg hm (pa_cons he.pe pa_nil (star_one hs)) (star_one hs)) fun σ H R h => ?_
  obtain ⟨c, H0, G, env, n, k, x, pre, hf, hv, hx⟩ := h
  simp only [evI] at hf
  refine ⟨c, H0, G, env, n, _, x, pre, hf, fun v d n' G' H' e b r hk => ?_, hx⟩
  obtain ⟨xs, h1, hk2⟩ := opEn_iff.mp hk
  obtain ⟨q, rfl⟩ := seqs_cases h1
  obtain ⟨a, vs, rfl, l, g⟩ := rep_seq (K := X.K) r
  exact ⟨q, a, vs, rfl, g H' b.gh, hv _ _ n' G' H' e b (walkD_enum g (fun _ _ _ _ => trivial) l) hk2⟩
theorem pxi_zp {elts : List Expr} {kk : Nat} {tpos : Pos} {e e2 : Expr} {r r2 : PV.X} {p pos : Pos} (hg : Gl X "zip") (hm : X.mg "zip" = none) (he : PX X W C e r) (hs : notStar e = true) (he2 : PX X W C e2 r2) (hs2 : notStar e2 = true) :
    PI X (.Tuple elts kk tpos) (.Call (.Name "zip" p) [e, e2] [] pos) (tXI X.K W (evI C (.zp r r2))) := by
  refine PIi (pi_zipA hg hm (pa_cons he.pe (pa_cons he2.pe pa_nil (star_one hs2)) (star_one hs)) (star_one hs) (star_all (by simp [hs2]))) fun σ H R h => ?_
  obtain ⟨c, H0, G, env, n, k, x, pre, hf, hv, hx⟩ := h
  simp only [evI] at hf
  refine ⟨c, H0, G, env, n, _, x, pre, hf, fun v d n1 G1 H1 e1 b1 r1 h1 => ?_, hx⟩
  refine ⟨c, H0, G1, env, n1, _, x, pre.ev e1 b1, h1, fun v2 d2 n2 G2 H2 e2 b2 r2 h2 => ?_, hx.ev e1⟩
  obtain ⟨xs, ys, s1, s2, hk⟩ := opZp_iff.mp h2
  obtain ⟨q1, rfl⟩ := seqs_cases s1
  obtain ⟨q2, rfl⟩ := seqs_cases s2
  obtain ⟨a1, vs1, rfl, l1, g1⟩ := rep_seq (K := X.K) (r1.mono e2.g)
  obtain ⟨a2, vs2, rfl, l2, g2⟩ := rep_seq (K := X.K) r2
  exact ⟨_, q1, q2, a1, a2, vs1, vs2, rfl, g1 H2 b2.gh, g2 H2 b2.gh, hv _ _ n2 G2 H2 (e1.trans e2) b2 (walkD_zip g1 g2 l1 l2) hk⟩
end

/-! ### comprehensions -/
theorem wipe_get {σ : L2.St} {j : Nat} : ∀ {vs : List Nat}, j ∉ vs → (wipe σ vs)[j]? = σ[j]?
  | [], _ => rfl
  | v :: vs, h => by
    unfold wipe
    rw [List.mem_cons, not_or] at h
    rw [List.getElem?_set_ne (fun e => h.1 e.symm), wipe_get h.2]
theorem wipe_at {σ : L2.St} {j : Nat} (hj : j < σ.length) : ∀ {vs : List Nat}, j ∈ vs → (wipe σ vs)[j]? = some none
  | v :: vs, h => by
    unfold wipe
    by_cases e : v = j
    · subst e
      rw [List.getElem?_set_self (by rw [wipe_length]; exact hj)]
    · rw [List.getElem?_set_ne e]
      rcases List.mem_cons.mp h with z | z
      · exact absurd z.symm e
      · exact wipe_at hj z
theorem wipe_ext {σ σ' : L2.St} {vs : List Nat} (hl : σ'.length = σ.length) (h : ∀ j, j ∉ vs → σ'[j]? = σ[j]?) : wipe σ' vs = wipe σ vs := by
  refine List.ext_getElem? fun j => ?_
  by_cases hj : j ∈ vs
  · by_cases hlt : j < σ.length
    · rw [wipe_at hlt hj, wipe_at (by rw [hl]; exact hlt) hj]
    · rw [List.getElem?_eq_none (by rw [wipe_length, hl]; omega), List.getElem?_eq_none (by rw [wipe_length]; omega)]
  · rw [wipe_get hj, wipe_get hj, h j hj]
theorem wipe_wipe {σ : L2.St} {vs : List Nat} : wipe (wipe σ vs) vs = wipe σ vs := wipe_ext (wipe_length σ vs) fun j h => wipe_get h
section
variable {c : Addr} {G H H0 : Hp} {env : Env} {σ : L2.St} {D : Addr}
theorem EnvR.mark {o : HO} (r : EnvR c H0 env σ G H) (h : H D = none) : EnvR c (upd H0 D o) env σ G H :=
  ⟨r.len, r.val, fun i ds hi => by
    obtain ⟨a, vs, h1, h2, h3, h4, h5, h6⟩ := r.own i ds hi
    have : a ≠ D := fun e => by rw [e, h] at h2; cases h2
    exact ⟨a, vs, h1, h2, h3, by rw [upd_ne this]; exact h4, h5, h6⟩, r.sep, fun i lk kvs hi => (r.dct i lk kvs hi).map (fun _ _ h => h) fun a kv h2 h3 h4 h5 => ⟨h2, h3, by rw [upd_ne (fun e => by rw [e, h] at h2; cases h2)]; exact h4⟩, r.sepd⟩
theorem EnvR.updD {o o' : HO} (r : EnvR c (upd H0 D o) env σ G H) : EnvR c (upd H0 D o) env σ G (upd H D o') :=
  ⟨r.len, r.val, fun i ds hi => by
    obtain ⟨a, vs, h1, h2, h3, h4, h5, h6⟩ := r.own i ds hi
    have : a ≠ D := fun e => by rw [e, upd_same] at h4; cases h4
    exact ⟨a, vs, h1, by rw [upd_ne this]; exact h2, h3, h4, h5, h6⟩, r.sep, fun i lk kvs hi => (r.dct i lk kvs hi).map (fun _ _ h => h) fun a kv h2 h3 h4 h5 => ⟨by rw [upd_ne (fun e => by rw [e, upd_same] at h4; cases h4)]; exact h2, h3, h4⟩, r.sepd⟩
/-- the new list grows -/
theorem Ev.updD {G1 H1 : Hp} {o : HO} (e : Ev c G1 H1 G H) (h : H1 D = none) : Ev c G1 H1 G (upd H D o) :=
  ⟨e.g, fun a u ha hc => by rw [upd_ne (fun z => by rw [z, h] at ha; cases ha)]; exact e.h a u ha hc, e.nw, e.nc⟩
theorem Base.updD {n : Nat} {o : HO} (b : Base c G H n) (h : G D = none) (hc : D ≠ c) : Base c G (upd H D o) n :=
  ⟨fun a u ha => by rw [upd_ne (fun z => by rw [z, h] at ha; cases ha)]; exact b.gh a u ha, b.gc, by obtain ⟨ns, h1, h2⟩ := b.cell; exact ⟨ns, by rw [upd_ne (Ne.symm hc)]; exact h1, h2⟩⟩
/-- it is frozen -/
theorem Ev.frz {G1 H1 : Hp} {xs : List V} (e : Ev c G1 H1 G H) (h : H1 D = none) (hg : G D = none) (hc : D ≠ c) : Ev c G1 H1 (upd G D (.lst xs)) H :=
  ⟨fun a u ha => by rw [upd_ne (fun z => by have := e.g a u ha; rw [z, hg] at this; cases this)]; exact e.g a u ha, e.h, fun a u ha => by
    by_cases z : a = D
    · rw [z]; exact .inr (.inl h)
    · rw [upd_ne z] at ha; exact e.nw a u ha, by rw [upd_ne (Ne.symm hc)]; exact e.nc⟩
theorem Base.frz {n : Nat} {xs : List V} (b : Base c G H n) (h : H D = some (.lst xs)) (hg : G D = none) (hc : D ≠ c) : Base c (upd G D (.lst xs)) H n :=
  ⟨fun a u ha => by
    by_cases z : a = D
    · rw [z] at ha ⊢; rw [upd_same] at ha; rw [h]; exact ha
    · rw [upd_ne z] at ha; exact b.gh a u ha, by rw [upd_ne (Ne.symm hc)]; exact b.gc, b.cell⟩
theorem sameD {xs : List V} (hg : G D = none) : Same G (upd G D (.lst xs)) := fun a u ha => by rw [upd_ne (fun z => by rw [z, hg] at ha; cases ha)]; exact ha
end
section
variable {X : Cx} {W : WX} {C : Cal}
/-- within a comprehension nothing is raised -/
def W0 : WX := fun _ _ _ _ => False
def tXC (K : PySem.W.Frag) (f : Env → Nat → (Bool → Nat → Prop) → Prop) : TT := fun σ H Q => ∃ c H0 G env n k, Pre c H0 env σ G H n ∧ f env n k ∧ ∀ b n' G' H', Ev c G H G' H' → Base c G' H' n' → k b n' → Q b H'
theorem pxc_no : PTs X [] (tXC X.K (evC C .no)) := ⟨fun pins s σ H Q I h => by
  obtain ⟨c, H0, G, env, n, k, pre, hf, hv⟩ := h
  simp only [evC] at hf
  exact pts_nil.run pins s σ H Q I (hv true n G H (Ev.refl pre.b.gc) pre.b hf)⟩
theorem pxc_so {e : Expr} {r : PV.X} (he : PX X W0 C e r) : PTs X [e] (tXC X.K (evC C (.so r))) := ⟨fun pins s σ H Q I h => by
  obtain ⟨c, H0, G, env, n, k, pre, hf, hv⟩ := h
  simp only [evC] at hf
  exact (pts_one he.pt).run pins s σ H Q I ⟨c, H0, G, env, n, _, _, pre, hf, fun b n' G' H' e bb hk => hv b n' G' H' e bb hk, fun _ _ _ _ _ _ z => z⟩⟩
theorem Ev.back' {c : Addr} {G H G' H' : Hp} (e : Ev c G H G' H') {p : Addr} (hp : H' p = none) (hc : p ≠ c) : H p = none := by
  cases q : H p with
  | none => rfl
  | some u => rw [e.h _ _ q hc] at hp; cases hp
theorem tLc_core {K : PySem.W.Frag} {re : PV.X} {rt : PV.TG} {rit : IT} {rc : XO} {σ : L2.St} {H : Hp} {Q : VK} {c : Addr} {H0 G : Hp} {env : Env} {n : Nat} {KK : List PV.D → Nat → Prop} {x : KX} (pre : Pre c H0 env σ G H n)
    (hf : evI C rit env n (fun xs n1 => lcGo (lcF C re rt rc env) xs [] n1 KK) x) (hx : xOk K W c σ G H x)
    (hfin : ∀ D acc vs n' G' H', Ev c G H G' H' → Base c G' H' n' → H' D = some (.lst vs) → G' D = none → H D = none → D ≠ c → RepL c G' vs acc → KK acc n' → Q (.ref D) H') :
    tLc (tXI K W (evI C rit)) (gD rt) (tXC K (evC C rc)) (tX K W0 (evE C re false)) rt.slots σ H Q := by
  refine ⟨c, H0, G, env, n, _, x, pre, hf, fun J xs n1 G1 H1 e1 b1 w h1 D hD => ?_, hx⟩
  have hDc : D ≠ c := fun z => by obtain ⟨ns, q, _⟩ := b1.cell; rw [z, q] at hD; cases hD
  have hG1 : G1 D = none := by
    cases q : G1 D with
    | none => rfl
    | some u => have := b1.gh _ _ q; rw [hD] at this; cases this
  have r1 := (pre.ev e1 b1).r
  refine lc_it w (fun i H' => ∃ G' n' acc vs, Base c G' H' n' ∧ Ev c G1 H1 G' H' ∧ EnvR c (upd H0 D (.lst [])) env σ G' H' ∧ H' D = some (.lst vs) ∧ G' D = none ∧ RepL c G' vs acc ∧ lcGo (lcF C re rt rc env) (xs.drop i) acc n' KK) ?_ ?_ ?_ ?_
  · exact ⟨G1, n1, [], [], b1.updD hG1 hDc, (Ev.refl b1.gc).updD hD, (r1.mark hD).updD, upd_same, hG1, .nil, h1⟩
  · rintro i H' hi ⟨G', n', acc, vs, b', e', _⟩
    exact e'.g.trans b'.gh
  · rintro i v H' H'' hi ⟨G', n', acc, vs, b', e', r', hd, hg, l, go⟩ y
    obtain ⟨G2, d, hx', e2, b2, rp⟩ := y G' n' b' e'.g
    rw [List.drop_eq_getElem_cons (by exact hi)] at go
    have ed : xs[i] = d := by rw [List.getElem?_eq_getElem hi] at hx'; exact Option.some.inj hx'
    rw [ed] at go
    simp only [lcGo] at go
    unfold lcF at go
    cases ha : asg rt d (killE env rt.slots) with
    | none => rw [ha] at go; exact (show False from go).elim
    | some env' =>
      rw [ha] at go
      have go : evC C rc env' n' (fun b n3 => if b = true then evE C re false env' n3 (fun y n4 => small (acc.length + 1) ∧ lcGo (lcF C re rt rc env) (xs.drop (i + 1)) (acc ++ [y]) n4 KK) (fun _ _ => False) else lcGo (lcF C re rt rc env) (xs.drop (i + 1)) acc n3 KK) := go
      have hg2 : G2 D = none := by
        cases q : G2 D with
        | none => rfl
        | some u =>
          rcases e2.nw _ _ q with ⟨_, z⟩ | z | ⟨_, z⟩
          · rw [hg] at z; cases z
          · rw [hd] at z; cases z
          · rw [hd] at z; cases z
      have hd2 : H'' D = some (.lst vs) := e2.h _ _ hd hDc
      have r2 : EnvR c (upd H0 D (.lst [])) (killE env rt.slots) (wipe σ rt.slots) G2 H'' := (r'.ev e2).kill rt.slots (wipe_length _ _) fun j hj => wipe_get hj
      have ev2 : Ev c G1 H1 G2 H'' := e'.trans e2
      refine ⟨c, upd H0 D (.lst []), G2, _, d, env', r2, b2.gh, rp, ha, fun σ2 rs ks ls => ⟨?_, ?_⟩⟩
      · rw [wipe_ext (ls) ks, wipe_wipe]
      · refine ⟨c, upd H0 D (.lst []), G2, env', n', _, ⟨b2, rs⟩, go, fun b n3 G3 H3 e3 b3 hk => ?_⟩
        have ev3 : Ev c G1 H1 G3 H3 := ev2.trans e3
        have hg3 : G3 D = none := by
          cases q : G3 D with
          | none => rfl
          | some u =>
            rcases e3.nw _ _ q with ⟨_, z⟩ | z | ⟨_, z⟩
            · rw [hg2] at z; cases z
            · rw [hd2] at z; cases z
            · rw [hd2] at z; cases z
        have hd3 : H3 D = some (.lst vs) := e3.h _ _ hd2 hDc
        have rr3 : EnvR c (upd H0 D (.lst [])) env σ G3 H3 := (r'.ev e2).ev e3
        have l3 : RepL c G3 vs acc := (l.mono e2.g).mono e3.g
        cases b with
        | false =>
          simp only [Bool.false_eq_true, if_false] at hk ⊢
          exact ⟨G3, n3, acc, vs, b3, ev3, rr3, hd3, hg3, l3, hk⟩
        | true =>
          simp only [if_true] at hk ⊢
          refine ⟨c, upd H0 D (.lst []), G3, env', n3, _, _, ⟨b3, rs.ev e3⟩, hk, fun z dz n4 G4 H4 e4 b4 rz hk4 => ?_, fun _ _ _ _ _ _ z => z.elim⟩
          have hg4 : G4 D = none := by
            cases q : G4 D with
            | none => rfl
            | some u =>
              rcases e4.nw _ _ q with ⟨_, z⟩ | z | ⟨_, z⟩
              · rw [hg3] at z; cases z
              · rw [hd3] at z; cases z
              · rw [hd3] at z; cases z
          have hd4 : H4 D = some (.lst vs) := e4.h _ _ hd3 hDc
          have l4 := l3.mono e4.g
          refine ⟨vs, hd4, ?_, G4, n4, acc ++ [dz], vs ++ [z], b4.updD hg4 hDc, (ev3.trans e4).updD hD, (rr3.ev e4).updD, upd_same, hg4, l4.append (.cons rz .nil), hk4.2⟩
          have := hk4.1
          rw [l4.length]
          unfold small at this
          rw [sizeLine_eq]; omega
  · rintro H' ⟨G', n', acc, vs, b', e', r', hd, hg, l, go⟩
    rw [List.drop_length] at go
    simp only [lcGo] at go
    exact hfin D acc vs n' G' H' (e1.trans e') b' hd hg (e1.back' hD hDc) hDc l go
theorem tX_lc {K : PySem.W.Frag} {re : PV.X} {rt : PV.TG} {rit : IT} {rc : XO} {σ : L2.St} {H : Hp} {Q : VK} (h : tX K W (evE C (.lc re rt rit rc) false) σ H Q) :
    tLc (tXI K W (evI C rit)) (gD rt) (tXC K (evC C rc)) (tX K W0 (evE C re false)) rt.slots σ H Q := by
  obtain ⟨c, H0, G, env, n, k, x, pre, hf, hv, hx⟩ := h
  rw [evE_lc] at hf
  refine tLc_core pre hf hx fun D acc vs n' G' H' e b hd hg hD hDc l go => ?_
  rw [fin_f] at go
  have gd := sameD (D := D) (xs := vs) hg
  exact hv (.ref D) (.lst acc) n' (upd G' D (.lst vs)) H' (e.frz hD hg hDc) (b.frz hd hg hDc) (.lst upd_same (l.mono gd)) go
theorem tX_l2 {K : PySem.W.Frag} {re : PV.X} {rt rt2 : PV.TG} {rit rit2 : IT} {σ : L2.St} {H : Hp} {Q : VK} (h : tX K W (evE C (.l2 re rt rit rt2 rit2) false) σ H Q) :
    tLc2 (tXI K W (evI C rit)) (gD rt) (tXC K (evC C .no)) (tXI K W0 (evI C rit2)) (gD rt2) (tXC K (evC C .no)) (tX K W0 (evE C re false)) (rt.slots ++ rt2.slots) rt2.slots σ H Q := by
  obtain ⟨c, H0, G, env, n, k, x, pre, hf, hv, hx⟩ := h
  rw [evE_l2] at hf
  refine ⟨c, H0, G, env, n, _, x, pre, hf, fun J xs n1 G1 H1 e1 b1 w h1 D hD => ?_, hx⟩
  have hDc : D ≠ c := fun z => by obtain ⟨ns, q, _⟩ := b1.cell; rw [z, q] at hD; cases hD
  have hG1 : G1 D = none := by
    cases q : G1 D with
    | none => rfl
    | some u => have := b1.gh _ _ q; rw [hD] at this; cases this
  have keepG : ∀ {Ga Ha Gb Hb : Hp} {vs : List V}, Ev c Ga Ha Gb Hb → Ga D = none → Ha D = some (.lst vs) → Gb D = none := fun {Ga Ha Gb Hb vs} e hg hd => by
    cases q : Gb D with
    | none => rfl
    | some u =>
      rcases e.nw _ _ q with ⟨_, z⟩ | z | ⟨_, z⟩
      · rw [hg] at z; cases z
      · rw [hd] at z; cases z
      · rw [hd] at z; cases z
  have r1 := (pre.ev e1 b1).r
  refine ⟨fun i m H' => m = xs.length - i ∧ i ≤ xs.length ∧ ∃ G' n' acc vs, Base c G' H' n' ∧ Ev c G1 H1 G' H' ∧ EnvR c (upd H0 D (.lst [])) env σ G' H' ∧ H' D = some (.lst vs) ∧ G' D = none ∧ RepL c G' vs acc ∧ l2Go (l2F C re rt rt2 rit2 env) (xs.drop i) acc n' (fun ys n5 => fin false k (.lst ys) n5), ⟨xs.length, by simp, Nat.zero_le _, ?_⟩, ?_⟩
  · exact ⟨G1, n1, [], [], b1.updD hG1 hDc, (Ev.refl b1.gc).updD hD, (r1.mark hD).updD, upd_same, hG1, .nil, h1⟩
  rintro i m H' ⟨rfl, hi, G', n', acc, vs, b', e', r', hd, hg, l, go⟩
  have sm : Same G1 H' := e'.g.trans b'.gh
  by_cases hlt : i < xs.length
  · refine .inr ⟨w.goes i H' hlt sm, fun H' => ∃ G' n' acc vs, Base c G' H' n' ∧ Ev c G1 H1 G' H' ∧ EnvR c (upd H0 D (.lst [])) env σ G' H' ∧ H' D = some (.lst vs) ∧ G' D = none ∧ RepL c G' vs acc ∧ l2Go (l2F C re rt rt2 rit2 env) (xs.drop (i + 1)) acc n' (fun ys n5 => fin false k (.lst ys) n5), fun H2 q => ⟨xs.length - (i + 1), by omega, rfl, hlt, q⟩, fun v H'' y => ?_⟩
    obtain ⟨G2, d, hx', e2, b2, rp⟩ := w.yields i H' v H'' hlt sm y G' n' b' e'.g
    rw [List.drop_eq_getElem_cons hlt] at go
    have ed : xs[i] = d := by rw [List.getElem?_eq_getElem hlt] at hx'; exact Option.some.inj hx'
    rw [ed] at go
    simp only [l2Go] at go
    unfold l2F at go
    cases ha : asg rt d (killE env (rt.slots ++ rt2.slots)) with
    | none => rw [ha] at go; exact (show False from go).elim
    | some env' =>
      rw [ha] at go
      have go : evI C rit2 env' n' (fun zs n3 => lcGo (l2I C re rt2 env') zs acc n3 fun acc' n' => l2Go (l2F C re rt rt2 rit2 env) (xs.drop (i + 1)) acc' n' (fun ys n5 => fin false k (.lst ys) n5)) (fun _ _ => False) := go
      have hg2 : G2 D = none := keepG e2 hg hd
      have hd2 : H'' D = some (.lst vs) := e2.h _ _ hd hDc
      have r2 : EnvR c (upd H0 D (.lst [])) (killE env (rt.slots ++ rt2.slots)) (wipe σ (rt.slots ++ rt2.slots)) G2 H'' := (r'.ev e2).kill _ (wipe_length _ _) fun j hj => wipe_get hj
      have ev2 : Ev c G1 H1 G2 H'' := e'.trans e2
      refine ⟨c, upd H0 D (.lst []), G2, _, d, env', r2, b2.gh, rp, ha, fun σ2 rs ks ls => ⟨?_, ?_⟩⟩
      · have e3 : wipe σ2 (rt.slots ++ rt2.slots) = wipe (wipe σ (rt.slots ++ rt2.slots)) (rt.slots ++ rt2.slots) := wipe_ext ls fun j hj => ks j fun z => hj (List.mem_append_left _ z)
        rw [e3, wipe_wipe]
      refine ⟨c, upd H0 D (.lst []), G2, env', n', fun b m => b = true ∧ m = n', ⟨b2, rs⟩, by simp [evC], fun b n3 G3 H3 e3 b3 hk => ?_⟩
      obtain ⟨rfl, rfl⟩ : b = true ∧ n3 = n' := hk
      simp only [if_true]
      have hg3 : G3 D = none := keepG e3 hg2 hd2
      have hd3 : H3 D = some (.lst vs) := e3.h _ _ hd2 hDc
      have rr3 : EnvR c (upd H0 D (.lst [])) env σ G3 H3 := (r'.ev e2).ev e3
      have l3 : RepL c G3 vs acc := (l.mono e2.g).mono e3.g
      refine ⟨c, upd H0 D (.lst []), G3, env', n3, _, _, ⟨b3, rs.ev e3⟩, go, fun J2 zs n4 G4 H4 e4 b4 w2 hk4 => ?_, fun _ _ _ _ _ _ z => z.elim⟩
      have hg4 : G4 D = none := keepG e4 hg3 hd3
      have hd4 : H4 D = some (.lst vs) := e4.h _ _ hd3 hDc
      refine ⟨fun j m H' => m = zs.length - j ∧ j ≤ zs.length ∧ ∃ G' n' acc vs, Base c G' H' n' ∧ Same G4 G' ∧ Ev c G1 H1 G' H' ∧ EnvR c (upd H0 D (.lst [])) env σ G' H' ∧ EnvR c (upd H0 D (.lst [])) env' σ2 G' H' ∧ H' D = some (.lst vs) ∧ G' D = none ∧ RepL c G' vs acc ∧ lcGo (l2I C re rt2 env') (zs.drop j) acc n' (fun acc' n' => l2Go (l2F C re rt rt2 rit2 env) (xs.drop (i + 1)) acc' n' (fun ys n5 => fin false k (.lst ys) n5)), ⟨zs.length, by simp, Nat.zero_le _, ?_⟩, ?_⟩
      · exact ⟨G4, n4, acc, vs, b4, fun _ _ h => h, (ev2.trans e3).trans e4, rr3.ev e4, (rs.ev e3).ev e4, hd4, hg4, l3.mono e4.g, hk4⟩
      rintro j m H5 ⟨rfl, hj, G5, n5, acc5, vs5, b5, s5, ev5, r5, rs5, hd5, hg5, l5, go5⟩
      have sm5 : Same G4 H5 := s5.trans b5.gh
      by_cases hlt5 : j < zs.length
      · refine .inr ⟨w2.goes j H5 hlt5 sm5, fun H' => ∃ G' n' acc vs, Base c G' H' n' ∧ Same G4 G' ∧ Ev c G1 H1 G' H' ∧ EnvR c (upd H0 D (.lst [])) env σ G' H' ∧ EnvR c (upd H0 D (.lst [])) env' σ2 G' H' ∧ H' D = some (.lst vs) ∧ G' D = none ∧ RepL c G' vs acc ∧ lcGo (l2I C re rt2 env') (zs.drop (j + 1)) acc n' (fun acc' n' => l2Go (l2F C re rt rt2 rit2 env) (xs.drop (i + 1)) acc' n' (fun ys n5 => fin false k (.lst ys) n5)), fun H2 q => ⟨zs.length - (j + 1), by omega, rfl, hlt5, q⟩, fun v6 H6 y6 => ?_⟩
        obtain ⟨G6, d6, hx6, e6, b6, rp6⟩ := w2.yields j H5 v6 H6 hlt5 sm5 y6 G5 n5 b5 s5
        rw [List.drop_eq_getElem_cons hlt5] at go5
        have ed6 : zs[j] = d6 := by rw [List.getElem?_eq_getElem hlt5] at hx6; exact Option.some.inj hx6
        rw [ed6] at go5
        simp only [lcGo] at go5
        unfold l2I at go5
        cases ha6 : asg rt2 d6 (killE env' rt2.slots) with
        | none =>
          have go5 : opA (asg rt2 d6 (killE env' rt2.slots)) _ := go5
          rw [ha6] at go5; exact (show False from go5).elim
        | some env6 =>
          have go5 : opA (asg rt2 d6 (killE env' rt2.slots)) _ := go5
          rw [ha6] at go5
          have go5 : evE C re false env6 n5 (fun y n5 => small (acc5.length + 1) ∧ lcGo (l2I C re rt2 env') (zs.drop (j + 1)) (acc5 ++ [y]) n5 _) (fun _ _ => False) := go5
          have hg6 : G6 D = none := keepG e6 hg5 hd5
          have hd6 : H6 D = some (.lst vs5) := e6.h _ _ hd5 hDc
          have r6 : EnvR c (upd H0 D (.lst [])) (killE env' rt2.slots) (wipe σ2 rt2.slots) G6 H6 := (rs5.ev e6).kill _ (wipe_length _ _) fun j hj => wipe_get hj
          refine ⟨c, upd H0 D (.lst []), G6, _, d6, env6, r6, b6.gh, rp6, ha6, fun σ7 rs7 ks7 ls7 => ⟨?_, ?_⟩⟩
          · rw [wipe_ext ls7 ks7, wipe_wipe]
          refine ⟨c, upd H0 D (.lst []), G6, env6, n5, fun b m => b = true ∧ m = n5, ⟨b6, rs7⟩, by simp [evC], fun b n8 G8 H8 e8 b8 hk8 => ?_⟩
          obtain ⟨rfl, rfl⟩ : b = true ∧ n8 = n5 := hk8
          simp only [if_true]
          have hg8 : G8 D = none := keepG e8 hg6 hd6
          have hd8 : H8 D = some (.lst vs5) := e8.h _ _ hd6 hDc
          refine ⟨c, upd H0 D (.lst []), G8, env6, n8, _, _, ⟨b8, rs7.ev e8⟩, go5, fun z dz n9 G9 H9 e9 b9 rz hk9 => ?_, fun _ _ _ _ _ _ z => z.elim⟩
          have hg9 : G9 D = none := keepG e9 hg8 hd8
          have hd9 : H9 D = some (.lst vs5) := e9.h _ _ hd8 hDc
          have E69 := (e6.trans e8).trans e9
          have l9 := l5.mono E69.g
          refine ⟨vs5, hd9, ?_, G9, n9, acc5 ++ [dz], vs5 ++ [z], b9.updD hg9 hDc, s5.trans E69.g, (ev5.trans E69).updD hD, (r5.ev E69).updD, (rs5.ev E69).updD, upd_same, hg9, l9.append (.cons rz .nil), hk9.2⟩
          have := hk9.1
          rw [l9.length]
          unfold small at this
          rw [sizeLine_eq]; omega
      · have ej : j = zs.length := by omega
        subst ej
        rw [List.drop_length] at go5
        simp only [lcGo] at go5
        exact .inl ⟨w2.stops H5 sm5, G5, n5, acc5, vs5, b5, ev5, r5, hd5, hg5, l5, go5⟩
  · have ei : i = xs.length := by omega
    subst ei
    rw [List.drop_length] at go
    simp only [l2Go] at go
    rw [fin_f] at go
    have gd := sameD (D := D) (xs := vs) hg
    exact .inl ⟨w.stops H' sm, hv (.ref D) (.lst acc) n' (upd G' D (.lst vs)) H' (e1.trans (e'.frz hD hg hDc)) (b'.frz hd hg hDc) (.lst upd_same (l.mono gd)) go⟩
end
end PV
end
section
set_option Elab.async false
set_option linter.all false
set_option maxRecDepth 100000
set_option maxHeartbeats 4000000
namespace PV
open PySem PySem.Spec PyProof.Rows L2
/-! ### dicts of one's own -/
theorem inl_map_inj : ∀ {s t : List Int}, (s.map Sum.inl : List L2.Key) = t.map Sum.inl → s = t
  | [], [], _ => rfl
  | [], _ :: _, h => by simp at h
  | _ :: _, [], h => by simp at h
  | a :: s, b :: t, h => by
    simp only [List.map_cons, List.cons.injEq] at h
    rw [Sum.inl.inj h.1, inl_map_inj h.2]
theorem kV_inl (s : List Int) : (s.map Sum.inl : List L2.Key).map kV = s.map V.int := by rw [List.map_map]; rfl
section
variable {c : Addr} {G H H0 : Hp}
theorem repK_val {kv : List (List L2.Key × V)} {kvs : List (List Int × D)} (h : RepK c G kv kvs) (s : List Int) : (∀ d, dvl kvs s = some d → ∃ v, valV kv (s.map Sum.inl) = some v ∧ Rep c G v d) ∧ (dvl kvs s = none → valV kv (s.map Sum.inl) = none) := by
  unfold RepK at h
  induction h with
  | nil => exact ⟨fun d e => by simp [dvl] at e, fun _ => rfl⟩
  | @cons p q ps qs hh t ih =>
    by_cases e : q.1 = s
    · have e' : p.1 = s.map Sum.inl := by rw [hh.1, e]
      have d1 : dvl (q :: qs) s = some q.2 := by simp [dvl, List.find?_cons, e]
      refine ⟨fun d hd => ?_, fun hd => ?_⟩
      · rw [d1] at hd; cases hd
        exact ⟨p.2, valV_pos e', hh.2⟩
      · rw [d1] at hd; cases hd
    · have e' : ¬ p.1 = s.map Sum.inl := fun z => e (inl_map_inj (by rw [← hh.1, z]))
      have d1 : dvl (q :: qs) s = dvl qs s := by simp [dvl, List.find?_cons, e]
      rw [d1, valV_neg e']; exact ih
theorem ints_isP : ∀ {xs : List PV.D} {ns : List Int}, allInts xs = some ns → isP xs = false
  | [], _, _ => rfl
  | x :: xs, _, h => by cases x <;> simp [allInts] at h <;> rfl
theorem ints_isP2 (s : List Int) : isP (s.map PV.D.int) = false := by cases s <;> rfl
theorem key_rep {v : V} {p : D} {s : List Int} (r : Rep c G v p) (hk : dkey p = some s) : ∃ b, v = .ref b ∧ G b = some (.tup (s.map V.int)) := by
  cases p <;> simp [dkey] at hk
  cases r with
  | tup g l => exact ⟨_, rfl, by rw [← l.allInts hk]; rw [ints_isP hk] at g; exact g.at0⟩
theorem dct_rd {a : Addr} {lk : Bool} {kv : List (List L2.Key × V)} (h : HasD c H0 G H a lk kv) (gh : Same G H) : Rd H a (.dT kv) := by
  cases lk with
  | false => exact .inl h.1
  | true => obtain ⟨o, h⟩ := h; exact .inr ⟨o, gh _ _ h⟩
theorem dct_get {a b : Addr} {lk : Bool} {kv : List (List L2.Key × V)} {s : List Int} (h : HasD c H0 G H a lk kv) (gh : Same G H) (hb : H b = some (.tup (s.map V.int))) : DGet H a (.ref b) (valV kv (s.map Sum.inl)) :=
  .inr ⟨kv, s.map Sum.inl, b, dct_rd h gh, rfl, by rw [kV_inl]; exact hb, rfl⟩
theorem noSl_of {b : Expr} (h : plainIx b = true) : NoSl b := fun o i => by
  cases b <;> first
    | rfl
    | (simp [plainIx] at h)
end
section
variable {X : Cx} {W : WX} {C : Cal}
theorem px_ogx {i : Nat} {x : Str} {p : Pos} {b : Expr} {rb : PV.X} {pos : Pos} (hu : X.A.units + 300 < cLine) (hN : X.N[i]? = some x) (hv : Vis X.env.scope x) (hd : (x == ("__debug__" : Str)) = false) (hcd : (x == ("__classdict__" : Str)) = false) (hb : PX X W C b rb) (hp : plainIx b = true) :
    PX X W C (.Subscript (.Name x p) b pos) (.ogx i rb) := by
  refine PX.of (PEi (pe_dget (by omega) (pe_var hN hv hd hcd) hb.pe (noSl_of hp)) fun σ H Q h => ?_) (fun env n k x h => ?_) (fun _ => rfl) (fun _ _ _ z => nomatch z)
  · obtain ⟨c, H0, G, env, n, k, y, pre, hf, hq, hx⟩ := h
    simp only [evE] at hf
    cases hg : gt env i with
    | dct lk kvs =>
      rw [hg] at hf
      simp only [dctK] at hf
      obtain ⟨a, kv, h1, h2, h3⟩ := pre.r.dct i lk kvs hg
      refine ⟨.ref a, h1, c, H0, G, env, n, _, y, pre, hf, fun v d n1 G1 H1 e1 b1 r1 m => ?_, hx⟩
      obtain ⟨s, dd, hk, hl, m⟩ := m
      rw [fin_f] at m
      obtain ⟨a', kv', q1, q2, q3⟩ := (pre.r.ev e1).dct i lk kvs hg
      rw [h1] at q1; cases q1
      obtain ⟨b', rfl, hb'⟩ := key_rep r1 hk
      obtain ⟨w, hw, rw⟩ := (repK_val q3 s).1 dd hl
      exact ⟨a, w, rfl, by rw [← hw]; exact dct_get q2 b1.gh (b1.gh _ _ hb'), hq w dd n1 G1 H1 e1 b1 rw m⟩
    | val d => rw [hg] at hf; exact (show False from hf).elim
    | own d => rw [hg] at hf; exact (show False from hf).elim
    | no => rw [hg] at hf; exact (show False from hf).elim
  · simp only [evE] at h ⊢
    simpa only [fin_f] using h
theorem px_og {i : Nat} {x : Str} {p ap : Pos} {a b : Expr} {ra rb : PV.X} {cp : Pos} (hu : X.A.units + 300 < cLine) (hN : X.N[i]? = some x) (hv : Vis X.env.scope x) (hd : (x == ("__debug__" : Str)) = false) (hcd : (x == ("__classdict__" : Str)) = false) (hl : (ap.endLine == cp.line) = true) (ha : PX X W C a ra) (hs : notStar a = true) (hb : PX X W C b rb) (hs2 : notStar b = true) :
    PX X W C (.Call (.Attribute (.Name x p) "get" ap) [a, b] [] cp) (.og i ra rb) := by
  refine PX.of (PEi (pe_dget2 (by omega) (pe_var hN hv hd hcd) ha.pe hb.pe ⟨rfl, by rw [star_one hs, star_one hs2]; rfl, hl, by rw [star_one hs, star_one hs2]; rfl⟩) fun σ H Q h => ?_) (fun env n k x h => ?_) (fun _ => rfl) (fun _ _ _ z => nomatch z)
  · obtain ⟨c, H0, G, env, n, k, y, pre, hf, hq, hx⟩ := h
    simp only [evE] at hf
    cases hg : gt env i with
    | dct lk kvs =>
      rw [hg] at hf
      simp only [dctK] at hf
      obtain ⟨a0, kv, h1, h2, h3⟩ := pre.r.dct i lk kvs hg
      refine ⟨.ref a0, h1, a0, rfl, .inr ⟨kv, dct_rd h2 pre.b.gh⟩, c, H0, G, env, n, _, y, pre, hf, fun v d n1 G1 H1 e1 b1 r1 m => ?_, hx⟩
      refine ⟨c, H0, G1, env, n1, _, y, pre.ev e1 b1, m, fun v2 d2 n2 G2 H2 e2 b2 r2 m2 => ?_, hx.ev e1⟩
      obtain ⟨s, hk, m2⟩ := m2
      rw [fin_f] at m2
      obtain ⟨a', kv', q1, q2, q3⟩ := ((pre.r.ev e1).ev e2).dct i lk kvs hg
      rw [h1] at q1; cases q1
      obtain ⟨b', rfl, hb'⟩ := key_rep (r1.mono e2.g) hk
      refine ⟨_, dct_get q2 b2.gh (b2.gh _ _ hb'), ?_⟩
      cases hl : dvl kvs s with
      | none =>
        rw [(repK_val q3 s).2 hl]
        rw [hl] at m2
        exact hq v2 d2 n2 G2 H2 (e1.trans e2) b2 r2 m2
      | some dd =>
        obtain ⟨w, hw, rw⟩ := (repK_val q3 s).1 dd hl
        rw [hw]
        rw [hl] at m2
        exact hq w dd n2 G2 H2 (e1.trans e2) b2 rw m2
    | val d => rw [hg] at hf; exact (show False from hf).elim
    | own d => rw [hg] at hf; exact (show False from hf).elim
    | no => rw [hg] at hf; exact (show False from hf).elim
  · simp only [evE] at h ⊢
    simpa only [fin_f] using h
theorem repK_at {c : Addr} {G : Hp} : ∀ {kv : List (List L2.Key × V)} {kvs : List (List Int × D)} {i : Nat} {k : List L2.Key} {v : V}, RepK c G kv kvs → kv[i]? = some (k, v) → ∃ s d, kvs[i]? = some (s, d) ∧ k = s.map Sum.inl
  | _, _, i, _, _, .nil, e => by simp at e
  | _, _, 0, _, _, .cons (b := q) h _, e => by
    simp at e; subst e
    exact ⟨q.1, q.2, rfl, h.1⟩
  | _, _, i + 1, _, _, .cons _ t, e => by
    obtain ⟨s, d, h1, h2⟩ := repK_at (i := i) t (by simpa using e)
    exact ⟨s, d, by simpa using h1, h2⟩
theorem repK_len {c : Addr} {G : Hp} {kv : List (List L2.Key × V)} {kvs : List (List Int × D)} (h : RepK c G kv kvs) : kv.length = kvs.length := Paired.length h
/-- a tuple that stands is frozen -/
theorem frzTup {c : Addr} {G H : Hp} {n : Nat} {q : Addr} {xs : List V} (b : Base c G H n) (h : H q = some (.tup xs)) : ∃ G', Ev c G H G' H ∧ Base c G' H n ∧ G' q = some (.tup xs) := by
  cases e : G q with
  | some u =>
    have := b.gh _ _ e
    rw [h] at this; cases this
    exact ⟨G, Ev.refl b.gc, b, e⟩
  | none =>
    have hqc : q ≠ c := fun z => by
      obtain ⟨ns, h1, _⟩ := b.cell
      rw [z, h1] at h; cases h
    have sm : Same G (upd G q (.tup xs)) := fun a u ha => by rw [upd_ne (fun z => by rw [z, e] at ha; cases ha)]; exact ha
    refine ⟨upd G q (.tup xs), ⟨sm, fun a o ha _ => ha, fun a o ha => ?_, by rw [upd_ne (Ne.symm hqc)]; exact b.gc⟩, ⟨fun a u ha => ?_, by rw [upd_ne (Ne.symm hqc)]; exact b.gc, b.cell⟩, upd_same⟩
    · by_cases z : a = q
      · subst z; exact .inr (.inr ⟨xs, h⟩)
      · rw [upd_ne z] at ha; exact .inl ⟨o, ha⟩
    · by_cases z : a = q
      · subst z; rw [upd_same] at ha; cases ha; exact h
      · rw [upd_ne z] at ha; exact b.gh _ _ ha
theorem walkD_keys {c : Addr} {G : Hp} {a : Addr} {o : Obj} {kv : List (List L2.Key × V)} {kvs : List (List Int × D)} (g : G a = some (.frz o (.dT kv))) (l : RepK c G kv kvs) : L2.Walk (Itkt a o kv) (dkD kvs).length (fun H2 => Same G H2) (YD c G (dkD kvs)) := by
  have hl : (dkD kvs).length = kv.length := by unfold dkD; rw [List.length_map]; exact (repK_len l).symm
  rw [hl]
  refine walk_keysT.mono (fun H h => h _ _ g) fun i H x H' hi hs y => ?_
  obtain ⟨rfl, k, v, q, h1, rfl, h2⟩ := y
  intro G2 n b2 s2
  obtain ⟨s, d, e1, rfl⟩ := repK_at l h1
  rw [kV_inl] at h2
  obtain ⟨G3, ev, b3, hq⟩ := frzTup b2 h2
  refine ⟨G3, .tup (s.map D.int), ?_, ev, b3, .tup (by rw [ints_isP2]; exact .of0 hq) (RepL.ints s)⟩
  unfold dkD
  rw [List.getElem?_map, e1]; rfl
theorem pxi_dk {i : Nat} {x : Str} {p : Pos} {tg : Expr} (hN : X.N[i]? = some x) (hv : Vis X.env.scope x) (hd : (x == ("__debug__" : Str)) = false) (hcd : (x == ("__classdict__" : Str)) = false) : PI X tg (.Name x p) (tXI X.K W (evI C (.dk i))) := by
  refine PIi (pi_keys (pe_var hN hv hd hcd)) fun σ H R h => ?_
  obtain ⟨c, H0, G, env, n, k, y, pre, hf, hv, hx⟩ := h
  simp only [evI] at hf
  cases hg : gt env i with
  | dct lk kvs =>
    rw [hg] at hf
    simp only [dctK] at hf
    obtain ⟨hlk, hf⟩ := hf
    subst hlk
    obtain ⟨a, kv, h1, ⟨o, h2⟩, h3⟩ := pre.r.dct i true kvs hg
    exact ⟨.ref a, h1, a, o, rfl, .inr ⟨kv, pre.b.gh _ _ h2, hv _ _ n G H (Ev.refl pre.b.gc) pre.b (walkD_keys h2 h3) hf⟩⟩
  | val d => rw [hg] at hf; exact (show False from hf).elim
  | own d => rw [hg] at hf; exact (show False from hf).elim
  | no => rw [hg] at hf; exact (show False from hf).elim
end
end PV
end
section
set_option Elab.async false
set_option linter.all false
set_option maxRecDepth 100000
set_option maxHeartbeats 4000000
namespace PV
open PySem PySem.Spec PyProof.Rows L2
/-! ### len(set(..)) of tuples of ints -/
def dd : List (List Int) → List (List Int)
  | [] => []
  | s :: S => s :: (dd S).filter fun t => !decide (s = t)
theorem dd_mem : ∀ (S : List (List Int)) (t : List Int), t ∈ dd S ↔ t ∈ S
  | [], _ => by simp [dd]
  | s :: S, t => by
    simp only [dd, List.mem_cons, List.mem_filter, dd_mem S t]
    constructor
    · rintro (h | ⟨h, _⟩)
      · exact .inl h
      · exact .inr h
    · rintro (h | h)
      · exact .inl h
      · by_cases e : t = s
        · exact .inl e
        · exact .inr ⟨h, by rw [decide_eq_false (fun z : s = t => e z.symm)]; rfl⟩
theorem dd_nodup : ∀ S : List (List Int), (dd S).Nodup
  | [] => List.nodup_nil
  | s :: S => by
    simp only [dd, List.nodup_cons, List.mem_filter]
    exact ⟨fun h => by simp at h, List.Pairwise.filter _ (dd_nodup S)⟩
theorem eqvL_ints : ∀ s t : List Int, D.eqvL (s.map D.int) (t.map D.int) = decide (s = t)
  | [], [] => rfl
  | [], _ :: _ => by simp [D.eqvL]
  | _ :: _, [] => by simp [D.eqvL]
  | a :: s, b :: t => by
    simp only [List.map_cons, D.eqvL, eqvL_ints s t, D.eqv, List.cons.injEq]
    by_cases h : a = b
    · simp [h]
    · simp [h]
theorem dedup_dd : ∀ S : List (List Int), dedupD (S.map fun s => D.tup (s.map D.int)) = (dd S).map fun s => D.tup (s.map D.int)
  | [] => rfl
  | s :: S => by
    simp only [List.map_cons, dedupD, dd, dedup_dd S, List.filter_map]
    congr 2
    refine List.filter_congr fun t _ => ?_
    show (!D.eqv (.tup (s.map D.int)) (.tup (t.map D.int))) = !decide (s = t)
    rw [show D.eqv (.tup (s.map D.int)) (.tup (t.map D.int)) = D.eqvL (s.map D.int) (t.map D.int) from rfl, eqvL_ints]
theorem tups_rep {c : Addr} {G : Hp} : ∀ {vs : List V} {xs : List D}, RepL c G vs xs → (xs.all fun x => (D.intsTup x).isSome) = true → ∃ ks : List (Addr × List Int), vs = ks.map (fun p => V.ref p.1) ∧ xs = ks.map (fun p => D.tup (p.2.map D.int)) ∧ ∀ p ∈ ks, G p.1 = some (.tup (p.2.map V.int))
  | _, _, .nil, _ => ⟨[], rfl, rfl, fun p h => by cases h⟩
  | _, _, .cons (d := d) r t, h => by
    rw [List.all_cons, Bool.and_eq_true] at h
    obtain ⟨ks, h1, h2, h3⟩ := tups_rep t h.2
    obtain ⟨ns, e⟩ := Option.isSome_iff_exists.mp h.1
    cases d <;> simp [D.intsTup] at e
    cases r with
    | tup g l =>
      rename_i ds a vs2
      have ev := l.allInts e
      have ed : ds = ns.map D.int := by
        clear l ev h g h1 h2 h3 t
        induction ds generalizing ns with
        | nil => simp [allInts] at e; subst e; rfl
        | cons d ds ih =>
          cases d <;> simp [allInts] at e
          obtain ⟨m, e1, rfl⟩ := e
          rw [List.map_cons, ← ih m e1]
      subst ed
      refine ⟨(a, ns) :: ks, by rw [h1]; rfl, by rw [h2]; rfl, fun p hp => ?_⟩
      rcases List.mem_cons.mp hp with rfl | hp
      · rw [← ev]; rw [ints_isP e] at g; exact g.at0
      · exact h3 p hp
theorem fresh2 {c : Addr} {G H G' H' : Hp} {n : Nat} (e : Ev c G H G' H') (b : Base c G' H' n) {p : Addr} (hp : H' p = none) : H p = none := by
  cases q : H p with
  | none => rfl
  | some u =>
    by_cases hc : p = c
    · obtain ⟨ns, h, _⟩ := b.cell
      rw [hc, h] at hp; cases hp
    · have := e.h p u q hc
      rw [hp] at this; cases this
section
variable {X : Cx} {W : WX} {C : Cal}
def rLenT (K : PySem.W.Frag) (P : Program) (w : World) : List V → Hp → VK → Prop := fun vs H Q => ∃ (a : Addr) (L : List (Addr × List Int)), vs = [V.ref a] ∧ H a = some (SetTO P w a L) ∧ (∀ p ∈ L, SqT K H p.1 (p.2.map V.int)) ∧ ((L.map (·.2)).Nodup → Q (.int L.length) H)
theorem cr_lenT : CallR X (.builtin "len") (rLenT X.K X.prog X.w) := by
  intro pins s σ H vs us Q I r h
  obtain ⟨a, L, rfl, ha, hk, q⟩ := h
  have R0 : SetT0 X.prog X.w s.heap a L := (I.hok a _ ha).1
  obtain ⟨es, ep, t, R⟩ := R0.full fun p hp => I.isT (hk p hp)
  rw [Vals.ref1 r]
  obtain ⟨o, ho, hex, hd⟩ := R.ob
  refine call_len_set ho hex hd R.fits (by rw [R.size]; have := R.few; omega) ⟨.int L.length, H, I.tok _, ⟨_, by rw [R.size]⟩, q R.nd⟩
theorem px_lenset {a : Expr} {ra : PV.X} {p p2 q pos : Pos} (hc : X.calm = true) (hu : X.A.units + 300 < cLine) (hg : Gl X "len") (hm : X.mg "len" = none) (hg2 : Gl X "set") (hm2 : X.mg "set" = none) (ha : PX X W C a ra) (hs : notStar a = true) :
    PX X W C (.Call (.Name "len" p) [.Call (.Name "set" p2) [a] [] q] [] pos) (.bc .lenset ra) := by
  refine PX.of (PEi (pe_callB cr_lenT hg hm boot_len (pa_cons (pe_callTy (cr_setOfT hc (by omega)) hg2 hm2 boot_set (pa_cons ha.pe pa_nil (star_one hs)) (by decide +kernel) (by decide +kernel) (star_one hs) rfl) pa_nil)) fun σ H Q h => ?_) (fun env n k x h => ?_) (fun _ => rfl) (fun _ _ _ z => nomatch z)
  · obtain ⟨c, H0, G, env, n, k, y, pre, hf, hq, hx⟩ := h
    simp only [evE, fin_f] at hf
    refine ⟨c, H0, G, env, n, _, y, pre, hf, fun v d n1 G1 H1 e1 b1 r1 m => ?_, hx⟩
    cases d <;> first
      | exact (show False from m).elim
      | skip
    rename_i xs
    obtain ⟨hh, hl, m⟩ := m
    cases r1 with
    | lst g l =>
      rename_i a0 vs
      obtain ⟨ks, rfl, rfl, h3⟩ := tups_rep l hh
      refine ⟨a0, ks, rfl, .inl (.inl (b1.gh _ _ g)), fun p hp => .inl (.inl (b1.gh _ _ (h3 p hp))), by simpa using hl, fun T L hT hs1 hs2 => ⟨T, L, rfl, upd_same, fun p hp => ?_, fun nd => ?_⟩⟩
      · have := b1.gh _ _ (h3 p (hs1 p hp))
        exact .inl (.inl (by rw [upd_ne (fun z => by rw [z, hT] at this; cases this)]; exact this))
      · have e : (dedupD (ks.map fun p => D.tup (p.2.map D.int))).length = L.length := by
          have e1 : (ks.map fun p => D.tup (p.2.map D.int)) = (ks.map (·.2)).map fun s => D.tup (s.map D.int) := by rw [List.map_map]; rfl
          rw [e1, dedup_dd, List.length_map]
          have pm : (dd (ks.map (·.2))).Perm (L.map (·.2)) := (List.perm_ext_iff_of_nodup (dd_nodup _) nd).mpr fun t => by
            rw [dd_mem]
            constructor
            · intro ht
              obtain ⟨p, hp, rfl⟩ := List.mem_map.mp ht
              exact hs2 p hp
            · intro ht
              obtain ⟨p, hp, rfl⟩ := List.mem_map.mp ht
              exact List.mem_map.mpr ⟨p, hs1 p hp, rfl⟩
          rw [pm.length_eq, List.length_map]
        rw [e] at m
        exact hq (.int L.length) (.int L.length) n1 G1 _ (e1.updD (fresh2 e1 b1 hT)) (b1.updD (b1.gp hT) (fun z => by obtain ⟨ns, q, _⟩ := b1.cell; rw [z, q] at hT; cases hT)) (.int _) m
  · simpa only [evE, fin_f] using h
end
end PV
end
section
set_option Elab.async false
set_option linter.all false
set_option maxRecDepth 100000
set_option maxHeartbeats 4000000
namespace PV
open PySem PySem.Spec PyProof.Rows L2
/-! ### set(..) of a list of ints, left as a set that may be sorted -/
section
variable {P : Program} {w : World} {A : Around} {E : Value → Shared → Prop} {s : Shared}
abbrev emptySet (w : World) : Obj := { cls := .type "set", dict := none, data := .set #[] 0 (.fresh 0 0 (!w.params.followText "set-order")) }
/-- what is left behind -/
def SetMade (w : World) (s : Shared) (ns : List Int) (t : Shared) : Prop := ∃ (h : Heap) (k c : Nat), t = { s with heap := h, toks := k } ∧ SetR w h s.heap.objs.size (fun j => decide (j ∈ ns)) c ∧ c ≤ ns.length ∧ ∀ b o, s.heap.get? b = some o → h.get? b = some o
theorem set_fill {l : Addr} {its : Array Value} (ns : List Int) (hh : A.handled = none) (hl : s.heap.IsList l its) (hi : IntsAre its.toList ns) (hb : ns.length + 1 < scanBound) :
    wpAny (model P w) A.in1 (Builtin.«set.__init__» ⟨[.ref s.heap.objs.size, .ref l], []⟩) (fun r t => r = .done (.ret .none) ∧ SetMade w s ns t) E { s with heap := s.heap.push (emptySet w) } := by
  have hsz : its.size = ns.length := by have := IntsAre.length hi; rwa [Array.length_toList] at this
  have hlt : l < s.heap.objs.size := by obtain ⟨o, ho, _⟩ := hl; exact Heap.lt_size ho
  have hS : (s.heap.push (emptySet w)).get? s.heap.objs.size = some (emptySet w) := Heap.get?_push_size _ rfl
  have hl1 : (s.heap.push (emptySet w)).IsList l its := hl.push _
  have hT : Shared.TypeIs { s with heap := s.heap.push (emptySet w) } (.ref s.heap.objs.size) "set" := ⟨_, hS, rfl⟩
  have hT2 : Shared.TypeIs { s with heap := s.heap.push (emptySet w) } (.ref l) "list" := hl1.typeIs
  have a1 := F.sub_list_set
  have a2 := F.sub_list_frozenset
  have a3 : (Value.type "list" == Value.type "dict") = false := by decide
  unfold Builtin.«set.__init__» noKeywords Builtin.Frozenset.updateFrom
  generalize hPI : pyIter = PI
  wp_walk
  subst hPI
  have b1 : l ≠ (s.heap.push (emptySet w)).objs.size := by rw [Heap.size_push]; exact Nat.ne_of_lt (Nat.lt_succ_of_lt hlt)
  have b2 : s.heap.objs.size ∉ [(s.heap.push (emptySet w)).objs.size, l] := by
    rw [Heap.size_push]
    simp only [List.mem_cons, List.not_mem_nil, or_false, not_or]
    exact ⟨Nat.ne_of_lt (Nat.lt_succ_self _), Nat.ne_of_gt hlt⟩
  refine wpAny_pyIter_list hl1 (wpAny_bind (wpAny_runValue ?_))
  refine set_update_ints ((Walks.list (A := A.in1.in1) (by simp [hh]) _ l b1 its).toS) s.heap.objs.size b2 ns hsz hb (fun i v hv => ?_) (its.size - 0) 0 _ (by omega) (Nat.zero_le _) ⟨⟨_, Heap.get?_push_size _ rfl, rfl, rfl⟩, hl1.push _⟩ ⟨0, Nat.le_refl 0, setR_new_at (Heap.get?_push_of_some _ hS)⟩ fun t c hm hc hR => ?_
  · have hlen : i < ns.length := by rw [← hsz]; exact (Array.getElem?_eq_some_iff.mp hv).1
    obtain ⟨k, e⟩ := PyProof.Rows.IntsAre.int_at hi i v (by rw [Array.getElem?_toList]; exact hv)
    exact ⟨ns[i], k, List.getElem?_eq_getElem hlen, by rw [e, List.getD_eq_getElem?_getD, List.getElem?_eq_getElem hlen]; rfl⟩
  · obtain ⟨h, g, d, k, o⟩ := t
    have e1 : g = s.gens := hm.gens
    have e2 : d = s.drawn := hm.drawn
    have e3 : o = s.os := hm.os
    subst e1 e2 e3
    show wpAny _ _ _ _ _ _
    refine wpAny_pure ?_
    show wpAny _ _ (ret Value.none) _ _ _
    refine wpAny_pure ⟨rfl, h, k, c, rfl, hR, by omega, fun b u e => ?_⟩
    have hb0 : b < s.heap.objs.size := Heap.lt_size e
    refine hm.heap b u ?_ (Heap.get?_push_of_some _ (Heap.get?_push_of_some _ e))
    simp only [List.mem_cons, List.not_mem_nil, or_false, not_or]
    exact ⟨Nat.ne_of_lt hb0, by rw [Heap.size_push]; exact Nat.ne_of_lt (Nat.lt_succ_of_lt hb0)⟩
theorem call_setL {l : Addr} {its : Array Value} (ns : List Int) {Q : Value → Shared → Prop} (hh : A.handled = none) (hl : s.heap.IsList l its) (hi : IntsAre its.toList ns) (hb : ns.length + 1 < scanBound)
    (hq : ∀ t, SetMade w s ns t → Q (.ref s.heap.objs.size) t) : wpAny (model P w) A (call (.type "set") [.ref l]) Q E s := by
  obtain ⟨c, tl, hmro⟩ := F.called_set.mro
  have h1 := F.called_set.made
  have h2 := F.called_set.sub
  have h3 := F.called_set.notType
  have h4 := F.called_set.canCreate
  have h5 := F.typeCall_set_1 (.ref l)
  refine wpAny_call (codeAny_of_tree (show wpAny _ _ (callAny (.type "set") _) _ _ _ from wpAny_pure ⟨Code.quiet_builtin _ (by decide +kernel), codeAny_builtin F.entry_type_call ?_⟩))
  rw [Around.under_plain (weight_type_call_type "set" [.ref l] []) rfl]
  repeat (any_goals (first | assumption | wp_step))
  refine codeAny_mono (code_set_led1 (.ref l) (E := E) (Q₁ := fun v t => v = .ref s.heap.objs.size ∧ t = { s with heap := s.heap.push (emptySet w) }) ⟨rfl, rfl⟩) ?_
  rintro (e | f) t hr
  · exact hr
  cases f <;> first
    | exact (show False from hr).elim
    | skip
  obtain ⟨rfl, rfl⟩ := hr
  have hS : (s.heap.push (emptySet w)).get? s.heap.objs.size = some (emptySet w) := Heap.get?_push_size _ rfl
  have hT : Shared.TypeIs { s with heap := s.heap.push (emptySet w) } (.ref s.heap.objs.size) "set" := ⟨_, hS, rfl⟩
  have h6 := F.called_set.init.lookup
  have h7 := F.called_set.init.bind (.ref s.heap.objs.size)
  repeat (any_goals (first | assumption | wp_step))
  refine codeAny_mono (codeAny_call_builtin (R := wants (fun v t => v = .none ∧ SetMade w s ns t) E) F.called_set.init.plain F.entry_set_init (check_set_init_1 hT ?_)) ?_
  · refine wpAny_mono (set_fill (P := P) (A := A.in1) (E := E) ns (by simp [hh]) hl hi hb) ?_ (fun _ _ h => h)
    rintro f t ⟨rfl, h⟩
    exact ⟨rfl, h⟩
  rintro (e | f) t hr
  · exact hr
  cases f <;> first
    | exact (show False from hr).elim
    | skip
  obtain ⟨rfl, hr⟩ := hr
  repeat (any_goals (first | assumption | wp_step))
  exact hq _ hr
end
end PV
end
section
set_option Elab.async false
set_option linter.all false
set_option maxRecDepth 100000
set_option maxHeartbeats 4000000
namespace PV
open PySem PySem.Spec PyProof.Rows L2
/-- set(xs), xs a list or a tuple of ints -/
def rSetI (K : PySem.W.Frag) (w : World) : List V → Hp → VK → Prop := fun vs H Q => ∃ (l : Addr) (ns : List Int), vs = [V.ref l] ∧ (SqL K H l (ns.map V.int) ∨ SqT K H l (ns.map V.int)) ∧ ns.length < 64 ∧
  ∀ p c, H p = none → c ≤ ns.length → Q (.ref p) (upd H p (SetO w p (fun j => decide (j ∈ ns)) c))
section
variable {X : Cx} {W : WX} {C : Cal}
theorem cr_setI (hc : X.calm = true) : CallR X (.type "set") (rSetI X.K X.w) := by
  intro pins s σ H vs us Q I r h
  obtain ⟨l, ns, rfl, hl, hn, q⟩ := h
  rw [Vals.ref1 r]
  have hp : H s.heap.objs.size = none := I.hok.fresh (Nat.le_refl _)
  have fin : ∀ (h : Heap) (k c : Nat), SetR X.w h s.heap.objs.size (fun j => decide (j ∈ ns)) c → c ≤ ns.length → (∀ b o, s.heap.get? b = some o → h.get? b = some o) → EP X pins σ Q (.ref s.heap.objs.size) { s with heap := h, toks := k } := fun h k c R hcn keep =>
    ⟨.ref s.heap.objs.size, upd H s.heap.objs.size (SetO X.w s.heap.objs.size (fun j => decide (j ∈ ns)) c), I.laid (t' := k) keep (Nat.le_refl _) (setO_new R), rfl, q _ c hp hcn⟩
  rcases hl with hl | hl
  · obtain ⟨its, rv, pl, hz⟩ := I.list hl
    refine call_setL (P := X.prog) (w := X.w) ns (I.ok.hd hc) pl.isList (by simpa using ints_of_vals rv) (by unfold scanBound; omega) ?_
    rintro t ⟨h, k, c, rfl, R, hcn, keep⟩
    exact fin h k c R hcn keep
  · obtain ⟨its, rv, pl, hz⟩ := I.tuple hl
    exact call_set_tupI (P := X.prog) (w := X.w) (items := its.toArray) ns (I.ok.hd hc) pl (by simpa using ints_of_vals rv) (by unfold scanBound; omega) fun h k c R hcn keep => fin h k c R hcn keep
theorem px_sortset {a : Expr} {ra : PV.X} {p p2 q pos : Pos} (hc : X.calm = true) (hg : Gl X "sorted") (hm : X.mg "sorted" = none) (hg2 : Gl X "set") (hm2 : X.mg "set" = none) (ha : PX X W C a ra) (hs : notStar a = true) :
    PX X W C (.Call (.Name "sorted" p) [.Call (.Name "set" p2) [a] [] q] [] pos) (.bc .sortset ra) := by
  refine PX.of (PEi (pe_callB (cr_sortedSet hc) hg hm boot_sorted (pa_cons (pe_callTy (cr_setI hc) hg2 hm2 boot_set (pa_cons ha.pe pa_nil (star_one hs)) (by decide +kernel) (by decide +kernel) (star_one hs) rfl) pa_nil)) fun σ H Q h => ?_) (fun env n k x h => ?_) (fun _ => rfl) (fun _ _ _ z => nomatch z)
  · obtain ⟨c, H0, G, env, n, k, y, pre, hf, hq, hx⟩ := h
    simp only [evE, fin_f] at hf
    refine ⟨c, H0, G, env, n, _, y, pre, hf, fun v d n1 G1 H1 e1 b1 r1 m => ?_, hx⟩
    have fin : ∀ (T : Addr) (ns : List Int) (cc : Nat), H1 T = none → (∀ ms : List Int, ms.Pairwise (· < ·) → (∀ i, i ∈ ms ↔ i ∈ ns) → k (.lst (ms.map D.int)) n1) → ∀ (ms : List Int) (p : Addr), ms.Pairwise (· < ·) → (∀ i, i ∈ ms ↔ decide (i ∈ ns) = true) → upd H1 T (SetO X.w T (fun j => decide (j ∈ ns)) cc) p = none → Q (.ref p) (upd (upd H1 T (SetO X.w T (fun j => decide (j ∈ ns)) cc)) p (.lst (ms.map V.int))) := fun T ns cc hT m ms p hs hmem hp => by
      have b2 : Base c G1 (upd H1 T (SetO X.w T (fun j => decide (j ∈ ns)) cc)) n1 := b1.updD (b1.gp hT) (fun z => by obtain ⟨ns, q, _⟩ := b1.cell; rw [z, q] at hT; cases hT)
      have hv : vOk c G1 (upd H1 T (SetO X.w T (fun j => decide (j ∈ ns)) cc)) k Q := fun v d n' G2 H2 e b r m => hq v d n' G2 H2 ((e1.updD (fresh2 e1 b1 hT)).trans e) b r m
      exact hv.lstNew b2 (RepL.ints ms) (m ms hs fun i => by rw [hmem i]; simp) p hp
    cases d <;> first
      | exact (show False from m).elim
      | skip
    · rename_i xs
      obtain ⟨ns, ea, hl, m⟩ := m
      cases r1 with
      | tup g l =>
        have ev := l.allInts ea
        subst ev
        exact ⟨_, ns, rfl, .inr (.inl (g.rd b1.gh)), hl, fun T cc hT hcc => ⟨T, _, cc, rfl, upd_same, by omega, fun ms p hs hmem hlen hp => fin T ns cc hT m ms p hs hmem hp⟩⟩
    · rename_i xs
      obtain ⟨ns, ea, hl, m⟩ := m
      cases r1 with
      | lst g l =>
        have ev := l.allInts ea
        subst ev
        exact ⟨_, ns, rfl, .inl (.inl (.inl (b1.gh _ _ g))), hl, fun T cc hT hcc => ⟨T, _, cc, rfl, upd_same, by omega, fun ms p hs hmem hlen hp => fin T ns cc hT m ms p hs hmem hp⟩⟩
  · simpa only [evE, fin_f] using h
end
end PV
end
section
set_option Elab.async false
set_option linter.all false
set_option maxRecDepth 100000
set_option maxHeartbeats 4000000
namespace PV
open PySem PySem.Spec PyProof.Rows L2
/-! ### list(range(..)), tuple(range(..)) -/
theorem rg_eq (a b : Int) : rgV a b = (List.range (b - a).toNat).map fun (i : Nat) => V.int (a + (i : Int)) := rfl
theorem rg_rep {c : Addr} {G : Hp} (lo : Int) (n : Nat) : RepL c G ((List.range n).map fun (i : Nat) => V.int (lo + (i : Int))) (rangeD lo n) := by
  unfold rangeD
  generalize List.range n = l
  induction l with
  | nil => exact .nil
  | cons a l ih => exact .cons (.int _) ih
theorem rg_isP (lo : Int) (n : Nat) : isP (rangeD lo n) = false := by
  unfold rangeD
  cases List.range n <;> rfl
def tRng (b : Bool) (te : L2.St → Hp → (Int → Int → Hp → Prop) → Prop) : TE := if b then tTupRg te else tLstRg te
section
variable {X : Cx} {W : WX} {C : Cal}
theorem pe_rng {e : Expr} {b : Bool} {y : Str} {te : L2.St → Hp → (Int → Int → Hp → Prop) → Prop} {p pos : Pos} (hc : X.calm = true) (hy : y = (if b = true then ("tuple" : Str) else "list")) (hg : Gl X y) (hm : X.mg y = none) (he : PRg X e te) (hs : notStar e = true) : PE X (.Call (.Name y p) [e] [] pos) (tRng b te) := by
  cases b with
  | true =>
    have : y = ("tuple" : Str) := hy
    subst this
    exact pe_tupRg hc hg hm he (star_one hs)
  | false =>
    have : y = ("list" : Str) := hy
    subst this
    exact pe_listRg hc hg hm he (star_one hs)
theorem rng_end {c : Addr} {G H G1 H1 : Hp} {b : Bool} {lo hi : Int} {n1 : Nat} {k : KD} {Q : VK} (e1 : Ev c G H G1 H1) (b1 : Base c G1 H1 n1) (hq : vOk c G H k Q) (hk : k (if b then .tup (rangeD lo (hi - lo).toNat) else .lst (rangeD lo (hi - lo).toNat)) n1) :
    ∀ q, H1 q = none → Q (.ref q) (upd H1 q (if b then .tup (rgV lo hi) else .lst (rgV lo hi))) := fun q hp => by
  have hv : vOk c G1 H1 k Q := fun v d n' G2 H2 e b r m => hq v d n' G2 H2 (e1.trans e) b r m
  cases b with
  | true => exact hv.tupNew b1 (rg_rep _ _) (rg_isP _ _) hk q hp
  | false => exact hv.lstNew b1 (rg_rep _ _) hk q hp
theorem tRng_of {b : Bool} {te : L2.St → Hp → (Int → Int → Hp → Prop) → Prop} {σ : L2.St} {H : Hp} {Q : VK} (h : te σ H fun lo hi H1 => RgOk lo hi ∧ ∀ q, H1 q = none → Q (.ref q) (upd H1 q (if b then .tup (rgV lo hi) else .lst (rgV lo hi)))) : tRng b te σ H Q := by
  cases b with
  | true => exact h
  | false => exact h
theorem px_lir1 {e : Expr} {r : PV.X} {b : Bool} {y : Str} {p p2 pos pos2 : Pos} (hc : X.calm = true) (hy : y = (if b = true then ("tuple" : Str) else "list")) (hg : Gl X y) (hm : X.mg y = none) (hg2 : Gl X "range") (hm2 : X.mg "range" = none) (he : PX X W C e r) (hs : notStar e = true) :
    PX X W C (.Call (.Name y p) [.Call (.Name "range" p2) [e] [] pos2] [] pos) (.lir b (.r1 r)) := by
  refine PX.of (PEi (pe_rng (b := b) hc hy hg hm (prg_1 hg2 hm2 he.pe (star_one hs)) rfl) fun σ H Q h => tRng_of ?_) (fun env n k x h => ?_) (fun _ => rfl) (fun _ _ _ z => nomatch z)
  · obtain ⟨c, H0, G, env, n, k, y, pre, hf, hq, hx⟩ := h
    simp only [evE, evI, fin_f] at hf
    refine ⟨c, H0, G, env, n, _, y, pre, hf, fun v d n1 G1 H1 e1 b1 r1 m => ?_, hx⟩
    cases d <;> first
      | exact (show False from m).elim
      | skip
    rename_i i
    obtain ⟨h1, h2, hsm, m⟩ := m
    cases r1
    refine ⟨i, rfl, ⟨by omega, by omega, by omega, by omega, by omega⟩, rng_end e1 b1 hq ?_⟩
    rw [Int.sub_zero]; exact m
  · simpa only [evE, evI, fin_f] using h
theorem px_lir2 {e e' : Expr} {r r' : PV.X} {b : Bool} {y : Str} {p p2 pos pos2 : Pos} (hc : X.calm = true) (hy : y = (if b = true then ("tuple" : Str) else "list")) (hg : Gl X y) (hm : X.mg y = none) (hg2 : Gl X "range") (hm2 : X.mg "range" = none) (he : PX X W C e r) (hs : notStar e = true) (he' : PX X W C e' r') (hs' : notStar e' = true) :
    PX X W C (.Call (.Name y p) [.Call (.Name "range" p2) [e, e'] [] pos2] [] pos) (.lir b (.r2 r r')) := by
  refine PX.of (PEi (pe_rng (b := b) hc hy hg hm (prg_2 hg2 hm2 he.pe he'.pe (star_one hs) (star_one hs') (star_all (by simp [hs']))) rfl) fun σ H Q h => tRng_of ?_) (fun env n k x h => ?_) (fun _ => rfl) (fun _ _ _ z => nomatch z)
  · obtain ⟨c, H0, G, env, n, k, y, pre, hf, hq, hx⟩ := h
    simp only [evE, evI, fin_f] at hf
    refine ⟨c, H0, G, env, n, _, y, pre, hf, fun v d n1 G1 H1 e1 b1 r1 m1 => ?_, hx⟩
    refine ⟨c, H0, G1, env, n1, _, y, pre.ev e1 b1, m1, fun v2 d2 n2 G2 H2 e2 b2 r2 m => ?_, hx.ev e1⟩
    cases d <;> cases d2 <;> first
      | exact (show False from m).elim
      | skip
    rename_i i j
    obtain ⟨h1, h2, h3, h4, hsm, m⟩ := m
    cases r1; cases r2
    exact ⟨i, j, rfl, rfl, ⟨by omega, by omega, by omega, by omega, by omega⟩, rng_end (e1.trans e2) b2 hq m⟩
  · simpa only [evE, evI, fin_f] using h
/-! ### text.join(list of texts) -/
theorem allStrs_rep {c : Addr} {G : Hp} : ∀ {vs : List V} {xs : List PV.D} {ys : List Str}, RepL c G vs xs → allStrs xs = some ys → vs = ys.map V.str
  | _, _, ys, .nil, h => by simp [allStrs] at h; subst h; rfl
  | _, _, ys, .cons (d := d) r t, h => by
    cases d <;> simp [allStrs] at h
    obtain ⟨zs, h1, rfl⟩ := h
    cases r
    rw [allStrs_rep t h1]; rfl
theorem px_jn {z : Str} {a : Expr} {ra : PV.X} {j : Nat} {p ap pos : Pos} (ha : PX X W C a ra) (hs : notStar a = true) (hl : (ap.endLine == pos.line) = true) :
    PX X W C (.Call (.Attribute (.Constant (.str z) j p) "join" ap) [a] [] pos) (.jn z ra) := by
  refine PX.of (PEi (pe_join pe_str ha.pe (star_one hs) rfl hl) fun σ H Q h => ?_) (fun env n k x h => ?_) (fun _ => rfl) (fun _ _ _ z => nomatch z)
  · obtain ⟨c, H0, G, env, n, k, y, pre, hf, hq, hx⟩ := h
    simp only [evE, fin_f] at hf
    refine ⟨⟨_, rfl⟩, c, H0, G, env, n, _, y, pre, hf, fun v d n1 G1 H1 e1 b1 r1 m => ?_, hx⟩
    cases d <;> first
      | exact (show False from m).elim
      | skip
    obtain ⟨ys, h1, h2, m⟩ := m
    cases r1 with
    | lst g l =>
      have ev := allStrs_rep l h1
      subst ev
      refine ⟨z, _, ys, rfl, rfl, .inl (.inl (.inl (b1.gh _ _ g))), h2, ?_⟩
      rw [TL.join_eq]
      exact hq _ (.str (Str.join z ys)) n1 G1 _ e1 b1 (.str _) m
  · simpa only [evE, fin_f] using h
end
end PV
end
section
set_option Elab.async false
set_option linter.all false
set_option maxRecDepth 100000
set_option maxHeartbeats 4000000
namespace PV
open PySem PySem.Spec PyProof.Rows L2
section
variable {c : Addr} {G : Hp}
theorem repK_any {kv : List (List L2.Key × V)} {kvs : List (List Int × PV.D)} (h : RepK c G kv kvs) (s : List Int) : (kv.any fun p => decide (p.1 = s.map Sum.inl)) = kvs.any fun q => decide (q.1 = s) := by
  unfold RepK at h
  induction h with
  | nil => rfl
  | @cons p q ps qs hh t ih =>
    rw [List.any_cons, List.any_cons, ih]
    congr 1
    rw [hh.1]
    by_cases e : q.1 = s
    · rw [e]; simp
    · rw [decide_eq_false e, decide_eq_false fun z => e (inl_map_inj z)]
theorem repK_put {kv : List (List L2.Key × V)} {kvs : List (List Int × PV.D)} (h : RepK c G kv kvs) {s : List Int} {v : V} {d : PV.D} (r : Rep c G v d) : RepK c G (putK kv (s.map Sum.inl) v) (dput kvs s d) := by
  unfold putK dput
  rw [repK_any h s]
  split
  · unfold RepK at h ⊢
    rename_i hany
    clear hany
    induction h with
    | nil => exact .nil
    | @cons p q ps qs hh t ih =>
      refine .cons ?_ ih
      dsimp only
      by_cases e : q.1 = s
      · rw [if_pos e, if_pos (by rw [hh.1, e])]; exact ⟨hh.1, r⟩
      · rw [if_neg e, if_neg (fun z => e (inl_map_inj (by rw [← hh.1, z])))]; exact hh
  · unfold RepK at h ⊢
    rename_i hany
    clear hany
    induction h with
    | nil => exact .cons ⟨rfl, r⟩ .nil
    | cons hh t ih => exact .cons hh ih
end
/-! ### dict(pairs) -/
/-- a pair as it lies: its address, the key's address, the key, the value -/
structure Pa where
  T : Addr
  q : Addr
  k : List L2.Key
  v : V
def Pa.ok (K : PySem.W.Frag) (H : Hp) (p : Pa) : Prop := SqT K H p.T [.ref p.q, p.v] ∧ H p.q = some (.tup (p.k.map kV))
def putAll (ps : List Pa) : List (List L2.Key × V) := ps.foldl (fun kv p => putK kv p.k p.v) []
theorem putAll_len : ∀ (ps : List Pa) (kv : List (List L2.Key × V)), (ps.foldl (fun kv p => putK kv p.k p.v) kv).length ≤ kv.length + ps.length
  | [], kv => by simp
  | p :: ps, kv => by
    have h1 := putAll_len ps (putK kv p.k p.v)
    have h2 := length_putK kv p.k p.v
    simp only [List.foldl_cons, List.length_cons]
    omega
theorem KT_all {H : Hp} : ∀ {ps : List Pa} {us : List (List L2.Key × Addr × Value)} {kv : List (List L2.Key × V)} {xs : List (List L2.Key × Addr × Value)}, Paired (fun (p : Pa) u => p.k = u.1 ∧ p.q = u.2.1 ∧ H p.q = some (.tup (p.k.map kV)) ∧ RelV p.v u.2.2) ps us → L2.KT H kv xs →
    L2.KT H (ps.foldl (fun kv p => putK kv p.k p.v) kv) (PySem.storedAllH xs us)
  | _, _, _, _, .nil, h => h
  | _, _, _, _, .cons h t, r => by
    obtain ⟨h1, h2, h3, h4⟩ := h
    rw [List.foldl_cons]
    show L2.KT H _ (PySem.storedAllH (PySem.storedH _ _ _ _) _)
    rw [← h1, ← h2]
    exact KT_all t (r.put _ h3 h4)
theorem paired_at {α β : Type} {R : α → β → Prop} : ∀ {l : List α} {m : List β} {i : Nat} {b : β}, Paired R l m → m[i]? = some b → ∃ a, l[i]? = some a ∧ R a b
  | _, _, i, _, .nil, e => by simp at e
  | _, _, 0, _, .cons h t, e => by simp at e; subst e; exact ⟨_, rfl, h⟩
  | _, _, i + 1, _, .cons h t, e => by
    obtain ⟨a, h1, h2⟩ := paired_at (i := i) t (by simpa using e)
    exact ⟨a, by simpa using h1, h2⟩
section
variable {X : Cx}
theorem pairs_of' {pins : List (Addr × Obj)} {σ : L2.St} {H : Hp} {s : Shared} (I : Inv X pins σ H s) : ∀ {ps : List Pa}, (∀ p ∈ ps, p.ok X.K H) →
    ∃ us : List (List L2.Key × Addr × Value), Paired (fun (p : Pa) u => p.k = u.1 ∧ p.q = u.2.1 ∧ H p.q = some (.tup (p.k.map kV)) ∧ RelV p.v u.2.2 ∧ IsTup s.heap p.T #[.ref u.2.1, u.2.2]) ps us
  | [], _ => ⟨[], .nil⟩
  | p :: ps, h => by
    obtain ⟨us, r⟩ := pairs_of' I (ps := ps) fun q hq => h q (List.mem_cons_of_mem _ hq)
    obtain ⟨h1, h2⟩ := h p List.mem_cons_self
    obtain ⟨its, rv, ht, _⟩ := I.tuple h1
    obtain ⟨u, y, ei, ru, ry⟩ := vals2 rv
    subst ei
    cases (show u = Value.ref p.q from ru)
    exact ⟨(p.k, p.q, y) :: us, .cons ⟨rfl, rfl, h2, ry, ht⟩ r⟩
theorem refs_of' : ∀ {ps : List Pa} {us : List Value}, Vals (ps.map fun p => V.ref p.T) us → us = ps.map fun p => Value.ref p.T
  | [], us, r => by
    rw [List.map_nil] at r
    cases r
    rfl
  | p :: ps, us, r => by
    rw [List.map_cons] at r
    cases r with
    | cons h t =>
      cases h
      rw [List.map_cons, ← refs_of' t]
def rDictP (K : PySem.W.Frag) : List V → Hp → VK → Prop := fun xs H Q => ∃ (a : Addr) (ps : List Pa), xs = [.ref a] ∧ ((∃ o : Obj, o.dict = none ∧ H a = some (.frz o (.tup (ps.map fun p => V.ref p.T)))) ∨ H a = some (.lst (ps.map fun p => V.ref p.T))) ∧ (∀ p ∈ ps, p.ok K H) ∧
  ∀ p, H p = none → Q (.ref p) (upd H p (.dT (putAll ps)))
theorem cr_dictP (hcalm : X.calm = true) (hu : X.A.units + 300 < cLine) : CallR X (.type "dict") (rDictP X.K) := by
  intro pins s σ H xs us Q I r h
  obtain ⟨a, ps, ex, ha, hp, q⟩ := h
  subst ex
  obtain ⟨u, eu, rx⟩ := vals1 r
  subst eu
  cases rx
  obtain ⟨prs, rel⟩ := pairs_of' I hp
  have hl : ps.length = prs.length := Paired.length rel
  have hn : H s.heap.objs.size = none := I.hok.fresh (Nat.le_refl _)
  have hm : (s.heap.objs.size == sysModules) = false := beq_eq_false_iff_ne.mpr (Nat.ne_of_gt I.big)
  let Ts : Nat → Addr := fun j => match ps[j]? with
    | some p => p.T
    | none => 0
  let vv : List (Value × Value) := prs.map fun u => (.ref u.2.1, u.2.2)
  have items : ∀ its : List Value, its = (ps.map fun p => Value.ref p.T) → PySem.PairItems s.heap its.toArray Ts vv := fun its e => by
    subst e
    refine ⟨by simp [vv, hl], fun j k v hj => ?_⟩
    simp only [vv, List.getElem?_map, Option.map_eq_some_iff] at hj
    obtain ⟨w, hw, ew⟩ := hj
    obtain ⟨p, e1, e2⟩ := paired_at rel hw
    cases ew
    have eT : Ts j = p.T := by show (match ps[j]? with | some p => p.T | none => 0) = _; rw [e1]
    refine ⟨?_, .inl ?_⟩
    · rw [eT]; simp [e1]
    · rw [eT]; exact e2.2.2.2.2
  have have2 : PySem.PairsHaveH (tupleKind (mixKind X.prog X.w)) vv.length (PySem.PairRel vv) prs := ⟨by simp [vv], fun i key v hr => by
    have hr : vv[i]? = some (key, v) := hr
    simp only [vv, List.getElem?_map, Option.map_eq_some_iff] at hr
    obtain ⟨w, hw, ew⟩ := hr
    cases ew
    exact ⟨w.1, w.2.1, hw, rfl⟩⟩
  have stay : PySem.KeysStay (tupleKind (mixKind X.prog X.w)) s.heap s.heap.objs.size [] prs := fun h' hk x hx => by
    obtain ⟨i, hi⟩ := List.getElem?_of_mem hx
    obtain ⟨p, e1, e2⟩ := paired_at rel hi
    obtain ⟨o, its, n, g1, g2, g3, g4⟩ := key_of (P := X.prog) (w := X.w) I.hok e2.2.2.1
    rw [← e2.1, ← e2.2.1]
    exact ⟨o, its, n, hk _ _ (Nat.ne_of_lt (Heap.lt_size g1)) (by simp) g1, g2, g3, g4⟩
  have fin : ∀ h' tk, h'.DictOfH (tupleKind (mixKind X.prog X.w)) s.heap.objs.size (PySem.storedAllH [] prs) → (∀ b o, b ∉ ([] : List Addr) → s.heap.get? b = some o → h'.get? b = some o) → ps.length ≤ sizeLine →
      ∃ x H', Inv X pins σ H' { s with heap := h', toks := tk } ∧ RelV x (.ref s.heap.objs.size) ∧ Q x H' := fun h' tk hd' k hz => by
    obtain ⟨o, es, ep, e1, e2, e3, e4, e5, e6⟩ := hd'
    have hlen : (putAll ps).length ≤ sizeLine := by
      have := putAll_len ps []
      simp only [List.length_nil, Nat.zero_add] at this
      exact Nat.le_trans this hz
    have kt : L2.KT H (putAll ps) (PySem.storedAllH [] prs) := KT_all (Paired.mapP rel fun _ _ z => ⟨z.1, z.2.1, z.2.2.1, z.2.2.2.1⟩) .nil
    refine ⟨.ref s.heap.objs.size, upd H s.heap.objs.size (.dT (putAll ps)), I.laid (t' := tk) (fun b o e => k b o (by simp) e) (Nat.le_refl _) ⟨hlen, hm, _, kt.keeps fun c ys ec => ?_, o, es, ep, e1, e2, e3, e4, e6⟩, rfl, q _ hn⟩
    rw [upd_ne (fun z => by rw [z, hn] at ec; cases ec)]
    exact ec
  have room : (tupleKind (mixKind X.prog X.w)).room X.A.in1.in1 := by
    show X.A.in1.in1.units < cLine
    simp only [Around.in1_units]
    omega
  rcases ha with ⟨o, ho, ha⟩ | ha
  · obtain ⟨g, hz, its, rv, o2, g2, hc, n, hd⟩ := (show ObjOk X.prog X.w H s.heap a (.frz o (.tup (ps.map fun p => V.ref p.T))) from I.hok a _ ha)
    rw [g] at g2
    cases g2
    rw [List.length_map] at hz
    exact PySem.call_dict_pairsH (PySem.PairArg.tuple a its.toArray Ts vv) (I.ok.hd hcalm) room ⟨⟨o, n, g, hc, ho, hd⟩, items its (refs_of' rv)⟩ have2 stay (by simp [vv, ← hl]; exact hz) fun h' tk hd' k => fin h' tk hd' k hz
  · obtain ⟨its, rv, pl, hz⟩ := I.list (.inl (.inl ha))
    obtain ⟨o, n, g, hc, ho, hd⟩ := pl
    rw [List.length_map] at hz
    exact PySem.call_dict_pairsH (PySem.PairArg.list a its.toArray Ts vv) (I.ok.hd hcalm) room ⟨⟨o, n, g, hc, ho, hd⟩, items its (refs_of' rv)⟩ have2 stay (by simp [vv, ← hl]; exact hz) fun h' tk hd' k => fin h' tk hd' k hz
theorem dpairs_rep {c : Addr} {G : Hp} : ∀ {vs : List V} {ds : List PV.D} {ps : List (List Int × PV.D)}, RepL c G vs ds → dpairs ds = some ps →
    ∃ pas : List Pa, vs = pas.map (fun p => V.ref p.T) ∧ (∀ p ∈ pas, (∃ b, PTh b G p.T [.ref p.q, p.v]) ∧ G p.q = some (.tup (p.k.map kV))) ∧ Paired (fun (p : Pa) q => p.k = q.1.map Sum.inl ∧ Rep c G p.v q.2) pas ps
  | _, _, ps, .nil, h => by
    simp [dpairs] at h
    subst h
    exact ⟨[], rfl, (fun p hp => by cases hp), .nil⟩
  | _, _, ps, .cons (d := d) (ds := dr) r t, h => by
    unfold dpairs at h
    split at h
    · rename_i heq
      cases heq
    · rename_i q v rst heq
      cases heq
      cases hq : dkey q with
      | none => rw [hq] at h; cases h
      | some s =>
        cases hr : dpairs dr with
        | none => rw [hq, hr] at h; cases h
        | some ps' =>
          rw [hq, hr] at h
          cases h
          obtain ⟨pas, h1, h2, h3⟩ := dpairs_rep t hr
          cases r with
          | tup g l =>
            rename_i a xs
            cases l with
            | cons rq l2 => cases l2 with
              | cons rv l3 =>
                cases l3
                obtain ⟨b, rfl, hb⟩ := key_rep rq hq
                refine ⟨⟨a, b, s.map Sum.inl, _⟩ :: pas, by rw [h1]; rfl, fun p hp => ?_, .cons ⟨rfl, rv⟩ h3⟩
                rcases List.mem_cons.mp hp with rfl | hp
                · exact ⟨⟨_, g⟩, by show G b = _; rw [kV_inl]; exact hb⟩
                · exact h2 p hp
    · cases h
theorem dpairs_isP : ∀ {ds : List PV.D} {ps : List (List Int × PV.D)}, dpairs ds = some ps → ps ≠ [] → isP ds = true
  | [], ps, h, hn => by simp [dpairs] at h; exact absurd h hn
  | d :: ds, ps, h, hn => by
    unfold dpairs at h
    split at h
    · rename_i heq; cases heq
    · rename_i q v rest heq
      cases heq
      cases q <;> simp [dkey] at h
      rfl
    · cases h
theorem put_rep {c : Addr} {G : Hp} : ∀ {pas : List Pa} {ps : List (List Int × PV.D)} {kv : List (List L2.Key × V)} {kvs : List (List Int × PV.D)}, Paired (fun (p : Pa) q => p.k = q.1.map Sum.inl ∧ Rep c G p.v q.2) pas ps → RepK c G kv kvs →
    RepK c G (pas.foldl (fun kv p => putK kv p.k p.v) kv) (ps.foldl (fun kvs p => dput kvs p.1 p.2) kvs)
  | _, _, _, _, .nil, h => h
  | _, _, _, _, .cons h t, r => by
    rw [List.foldl_cons, List.foldl_cons, h.1]
    exact put_rep t (repK_put r h.2)
variable {W : WX} {C : Cal}
def tDictX (K : PySem.W.Frag) (W : WX) (C : Cal) (ra : PV.X) : TE := fun σ H Q => ∃ c H0 G env n, ∃ k : List (List Int × PV.D) → Nat → Prop, ∃ x, Pre c H0 env σ G H n ∧ evE C ra false env n (fun d n' => opD d fun kvs => k kvs n') x ∧
  (∀ p kv kvs n' G' H', Ev c G H G' H' → Base c G' H' n' → H' p = some (.dT kv) → G' p = none → H p = none → p ≠ c → RepK c G' kv kvs → k kvs n' → Q (.ref p) H') ∧ xOk K W c σ G H x
theorem pe_dictX {a : Expr} {ra : PV.X} {p p2 : Pos} (hcalm : X.calm = true) (hu : X.A.units + 300 < cLine) (hg : Gl X "dict") (hm : X.mg "dict" = none) (ha : PX X W C a ra) (hs : notStar a = true) : PE X (.Call (.Name "dict" p) [a] [] p2) (tDictX X.K W C ra) := by
  refine PEi (pe_callTy (cr_dictP hcalm hu) hg hm PyProof.Rows.boot_dict (pa_cons ha.pe pa_nil (star_one hs)) (by decide +kernel) (by decide +kernel) (star_one hs) rfl) fun σ H Q h => ?_
  obtain ⟨c, H0, G, env, n, k, y, pre, hf, hq, hx⟩ := h
  refine ⟨c, H0, G, env, n, _, y, pre, hf, fun v d n1 G1 H1 e1 b1 r1 m => ?_, hx⟩
  have m : opD d fun kvs => k kvs n1 := m
  have fin : ∀ (a0 : Addr) (ds : List PV.D) (vs : List V) (ps : List (List Int × PV.D)), v = .ref a0 → RepL c G1 vs ds → dpairs ds = some ps → k (dfrom ps) n1 →
      (∀ pas : List Pa, vs = pas.map (fun p => V.ref p.T) → (∃ o : Obj, o.dict = none ∧ H1 a0 = some (.frz o (.tup (pas.map fun p => V.ref p.T)))) ∨ H1 a0 = some (.lst (pas.map fun p => V.ref p.T))) → rDictP X.K [v] H1 Q := fun a0 ds vs ps ev l hps hk hat => by
    obtain ⟨pas, h1, h2, h3⟩ := dpairs_rep l hps
    refine ⟨a0, pas, by rw [ev], hat pas h1, fun p hp => ?_, fun p hp => ?_⟩
    · obtain ⟨⟨b, g1⟩, g2⟩ := h2 p hp
      exact ⟨.inl (g1.rd b1.gh), b1.gh _ _ g2⟩
    · have hpc : p ≠ c := fun z => by
        obtain ⟨ns, q, _⟩ := b1.cell
        rw [z, q] at hp; cases hp
      have hpH := fresh2 e1 b1 hp
      exact hq p _ _ n1 G1 _ (e1.updD hpH) (b1.updD (b1.gp hp) hpc) upd_same (b1.gp hp) hpH hpc (put_rep h3 .nil) hk
  cases d <;> first
    | exact (show False from m).elim
    | skip
  · rename_i ds mm
    unfold opD at m
    simp only [D.seqs] at m
    cases hps : dpairs ds with
    | none => rw [hps] at m; exact m.elim
    | some ps =>
      rw [hps] at m
      obtain ⟨m1, m2, m3⟩ := m
      cases r1 with
      | tup g l =>
        rw [dpairs_isP hps m1] at g
        obtain ⟨o, ho, g⟩ := g
        exact fin _ ds _ ps rfl l hps m3 fun pas e => .inl ⟨o, ho, by rw [← e]; exact b1.gh _ _ g⟩
  · rename_i ds mm
    unfold opD at m
    simp only [D.seqs] at m
    cases hps : dpairs ds with
    | none => rw [hps] at m; exact m.elim
    | some ps =>
      rw [hps] at m
      obtain ⟨m1, m2, m3⟩ := m
      cases r1 with
      | lst g l => exact fin _ ds _ ps rfl l hps m3 fun pas e => .inr (by rw [← e]; exact b1.gh _ _ g)
theorem px_dg {a b d : Expr} {ra rb rc : PV.X} {p p2 ap cp : Pos} (hcalm : X.calm = true) (hu : X.A.units + 300 < cLine) (hg : Gl X "dict") (hm : X.mg "dict" = none) (hl : (ap.endLine == cp.line) = true) (ha : PX X W C a ra) (hs : notStar a = true) (hb : PX X W C b rb) (hs2 : notStar b = true) (hc : PX X W C d rc) (hs3 : notStar d = true) :
    PX X W C (.Call (.Attribute (.Call (.Name "dict" p) [a] [] p2) "get" ap) [b, d] [] cp) (.dg ra rb rc) := by
  refine PX.of (PEi (pe_dget2 (by omega) (pe_dictX hcalm hu hg hm ha hs) hb.pe hc.pe ⟨rfl, by rw [star_one hs2, star_one hs3]; rfl, hl, by rw [star_one hs2, star_one hs3]; rfl⟩) fun σ H Q h => ?_) (fun env n k x h => ?_) (fun _ => rfl) (fun _ _ _ z => nomatch z)
  · obtain ⟨c, H0, G, env, n, k, y, pre, hf, hq, hx⟩ := h
    simp only [evE, fin_f] at hf
    refine ⟨c, H0, G, env, n, _, y, pre, hf, fun q kv kvs n1 G1 H1 e1 b1 h1 h2 h3 h4 h5 m => ?_, hx⟩
    refine ⟨q, rfl, .inr ⟨kv, .inl h1⟩, c, H0, G1, env, n1, _, y, pre.ev e1 b1, m, fun v2 d2 n2 G2 H2 e2 b2 r2 m2 => ?_, hx.ev e1⟩
    refine ⟨c, H0, G2, env, n2, _, y, (pre.ev e1 b1).ev e2 b2, m2, fun v3 d3 n3 G3 H3 e3 b3 r3 m3 => ?_, (hx.ev e1).ev e2⟩
    obtain ⟨s, hk, m3⟩ := m3
    obtain ⟨b', rfl, hb'⟩ := key_rep (r2.mono e3.g) hk
    have hD : H3 q = some (.dT kv) := e3.h _ _ (e2.h _ _ h1 h4) h4
    refine ⟨_, .inr ⟨kv, s.map Sum.inl, b', .inl hD, rfl, by rw [kV_inl]; exact b3.gh _ _ hb', rfl⟩, ?_⟩
    have rK : RepK c G3 kv kvs := (h5.mono e2.g).mono e3.g
    cases hl : dvl kvs s with
    | none =>
      rw [(repK_val rK s).2 hl]
      rw [hl] at m3
      exact hq v3 d3 n3 G3 H3 ((e1.trans e2).trans e3) b3 r3 m3
    | some dd =>
      obtain ⟨w, hw, rw'⟩ := (repK_val rK s).1 dd hl
      rw [hw]
      rw [hl] at m3
      exact hq w dd n3 G3 H3 ((e1.trans e2).trans e3) b3 rw' m3
  · simp only [evE] at h ⊢
    simpa only [fin_f] using h
theorem px_oin {i : Nat} {x : Str} {p : Pos} {a : Expr} {ra : PV.X} {pos : Pos} (hu : X.A.units + 300 < cLine) (hN : X.N[i]? = some x) (hv : Vis X.env.scope x) (hd : (x == ("__debug__" : Str)) = false) (hcd : (x == ("__classdict__" : Str)) = false) (ha : PX X W C a ra) :
    PX X W C (.Compare a [.In] [.Name x p] pos) (.oin i ra) := by
  have key : ∀ {t : Bool} {σ H Q}, tX X.K W (evE C (.oin i ra) t) σ H Q → tDIn (tX X.K W (evE C ra false)) (tVar i) σ H Q := fun {t σ H Q} h => by
    obtain ⟨c, H0, G, env, n, k, y, pre, hf, hq, hx⟩ := h
    simp only [evE] at hf
    cases hg : gt env i with
    | dct lk kvs =>
      rw [hg] at hf
      simp only [dctK] at hf
      refine ⟨c, H0, G, env, n, _, y, pre, hf, fun v d n1 G1 H1 e1 b1 r1 m => ?_, hx⟩
      obtain ⟨s, hk, m⟩ := m
      obtain ⟨a', kv', q1, q2, q3⟩ := (pre.r.ev e1).dct i lk kvs hg
      obtain ⟨b', rfl, hb'⟩ := key_rep r1 hk
      refine ⟨.ref a', q1, a', _, rfl, dct_get q2 b1.gh (b1.gh _ _ hb'), ?_⟩
      have : (valV kv' (s.map Sum.inl)).isSome = (dvl kvs s).isSome := by
        cases hl : dvl kvs s with
        | none => rw [(repK_val q3 s).2 hl]; rfl
        | some dd =>
          obtain ⟨w, hw, _⟩ := (repK_val q3 s).1 dd hl
          rw [hw]; rfl
      rw [this]
      exact hq _ (.bl _) n1 G1 H1 e1 b1 (.bl _) m
    | val d => rw [hg] at hf; exact (show False from hf).elim
    | own d => rw [hg] at hf; exact (show False from hf).elim
    | no => rw [hg] at hf; exact (show False from hf).elim
  have pc := pc_din (X := X) (by omega) ha.pe (pe_var (pos := p) hN hv hd hcd)
  refine PX.of' (PEi (pe_cmp pc) fun σ H Q h => key h) (PTi (pt_cmp pc) fun σ H Q h => ?_) (fun _ _ _ z => nomatch z)
  obtain ⟨c, H0, G, env, n, k, x, pre, hf, hv, hx⟩ := h
  have hf' : evE C (.oin i ra) true env n (fun d n' => ∃ b, d = .bl b ∧ k d n') x := by
    simp only [evE] at hf ⊢
    simpa using hf
  refine key (t := true) (Q := fun x H' => ∃ k, x = .bl k ∧ Q k H') ⟨c, H0, G, env, n, _, x, pre, hf', fun v d n' G' H' e b r ⟨q, eq, hk⟩ => ?_, hx⟩
  subst eq
  cases r
  exact ⟨q, rfl, hv q n' G' H' e b hk⟩
end
end PV
end
section
set_option Elab.async false
set_option linter.all false
set_option maxRecDepth 100000
set_option maxHeartbeats 4000000
namespace PV
open PySem PySem.Spec PyProof.Rows L2

/-! ### a row's text against the language -/
structure RowT where
  fns : List (Str × Nat)
  exc : List Str
/-- a scope that runs: the def's names, the scope, and (in a comprehension's block) the scope as it was written -/
structure Sc where
  N : List Str
  sc : Scope
  w : Option Scope
def vis (S : Sc) (x : Str) : Bool := match S.sc.names.lookup x with
  | some .local => true
  | some .cell => true
  | some .free => true
  | _ => false
def eqS (a b : Str) : Bool := decide (a = b)
def nmOk (S : Sc) (i : Nat) (x : Str) : Bool := decide (S.N[i]? = some x) && vis S x && !(x == ("__debug__" : Str)) && !(x == ("__classdict__" : Str))
def glOk (S : Sc) (x : Str) : Bool := match S.sc.names.lookup x with
  | some .globalImplicit => true
  | _ => false
/-- may be stored -/
def stOk (S : Sc) (x : Str) : Bool := match S.sc.names.lookup x with
  | some .local => true
  | some .cell => (match S.w with
    | none => true
    | some s => s.names.lookup x == some .cell)
  | _ => false
def o2B : O2 → Operator → Bool
  | .add, .Add => true
  | .sub, .Sub => true
  | .mul, .Mult => true
  | .fdiv, .FloorDiv => true
  | .mod, .Mod => true
  | _, _ => false
theorem o2_of {o : O2} {p : Operator} (h : o2B o p = true) : p = toOp o := by cases o <;> cases p <;> first | rfl | (simp [o2B] at h)
def ocB : OC → CmpOp → Bool
  | .eq, .Eq => true
  | .ne, .NotEq => true
  | .lt, .Lt => true
  | .le, .LtE => true
  | .gt, .Gt => true
  | .ge, .GtE => true
  | .is, .Is => true
  | .isn, .IsNot => true
  | .in_, .In => true
  | .nin, .NotIn => true
  | _, _ => false
theorem oc_of {o : OC} {p : CmpOp} (h : ocB o p = true) : p = toCmp o := by cases o <;> cases p <;> first | rfl | (simp [ocB] at h)
def blts : List Str := ["len", "range", "sorted", "isinstance", "abs", "list", "tuple", "max", "set", "zip", "str", "sum", "dict", "enumerate", "int", "min", "any", "all", "bool"]
/-- the built-in functions and types of one argument -/
def bfN : BF → Option (Str × Bool)
  | .len => some ("len", false)
  | .abs => some ("abs", false)
  | .sum => some ("sum", false)
  | .max => some ("max", false)
  | .min => some ("min", false)
  | .all => some ("all", false)
  | .any => some ("any", false)
  | .sorted => some ("sorted", false)
  | .list => some ("list", true)
  | .tuple => some ("tuple", true)
  | .int => some ("int", true)
  | .str => some ("str", true)
  | .sortset => none
  | .lenset => none
def notSet : Expr → Bool
  | .Set .. => false
  | _ => true
theorem folded_ok {e : Expr} (h : notSet e = true) : ∀ env x, foldedSetIterable e env x = pure x := fun env x => by
  cases e <;> first
    | rfl
    | (simp [notSet] at h)
mutual
/-- a block's own names -/
def ownOf : PV.TG → Expr → List (Str × Nat)
  | .nm i, .Name x _ => [(x, i)]
  | .tp ts, .Tuple es _ _ => ownsOf ts es
  | _, _ => []
def ownsOf : TGL → List Expr → List (Str × Nat)
  | .cons t ts, e :: es => ownOf t e ++ ownsOf ts es
  | _, _ => []
end
def eqNs : List Nat → List Nat → Bool
  | [], [] => true
  | a :: as, b :: bs => Nat.beq a b && eqNs as bs
  | _, _ => false
theorem eqNs_ok : ∀ {a b : List Nat}, eqNs a b = true → a = b
  | [], [], _ => rfl
  | a :: as, b :: bs, h => by
    simp only [eqNs, Bool.and_eq_true] at h
    rw [Nat.eq_of_beq_eq_true h.1, eqNs_ok h.2]
mutual
def mT (S : Sc) : PV.TG → Expr → Bool
  | .nm i, .Name x _ => decide (S.N[i]? = some x) && stOk S x
  | .tp ts, .Tuple es _ _ => mTs S ts es
  | _, _ => false
def mTs (S : Sc) : TGL → List Expr → Bool
  | .nil, [] => true
  | .cons t ts, e :: es => mT S t e && notStar e && mTs S ts es
  | _, _ => false
end
def isTupE : Expr → Bool
  | .Tuple .. => true
  | _ => false
def isR : IT → Bool
  | .r1 _ => true
  | .r2 _ _ => true
  | _ => false
mutual
def mX (R : RowT) (S : Sc) : PV.X → Expr → Bool
  | .v i, ex => match ex with
    | .Name x _ => nmOk S i x
    | _ => false
  | .i z, ex => match ex with
    | .Constant (.int z') _ _ => decide (z = z')
    | _ => false
  | .b z, ex => match ex with
    | .Constant (.bool z') _ _ => z == z'
    | _ => false
  | .n, ex => match ex with
    | .Constant .none _ _ => true
    | _ => false
  | .s z, ex => match ex with
    | .Constant (.str z') _ _ => eqS z z'
    | _ => false
  | .tu es, ex => match ex with
    | .Tuple es' _ _ => mL R S es es'
    | _ => false
  | .ls es, ex => match ex with
    | .List es' _ => mL R S es es'
    | _ => false
  | .bi o a b, ex => match ex with
    | .BinOp a' o' b' _ => o2B o o' && mX R S a a' && mX R S b b'
    | _ => false
  | .cm o a b, ex => match ex with
    | .Compare a' [o'] [b'] _ => ocB o o' && mX R S a a' && mX R S b b' && !behindInMarks o' b'
    | _ => false
  | .ch o1 o2 a b c, ex => match ex with
    | .Compare a' [p1, p2] [b', c'] _ => ocB o1 p1 && ocB o2 p2 && mX R S a a' && mX R S b b' && mX R S c c' && !lastMarks [p1, p2] [b', c']
    | _ => false
  | .ng a, ex => match ex with
    | .UnaryOp .USub a' _ => mX R S a a'
    | _ => false
  | .nt a, ex => match ex with
    | .UnaryOp .Not a' _ => mX R S a a'
    | _ => false
  | .an a b, ex => match ex with
    | .BoolOp .And (a' :: b' :: r) p => mX R S a a' && (match r with
        | [] => mX R S b b'
        | _ :: _ => mX R S b (.BoolOp .And (b' :: r) p))
    | _ => false
  | .or a b, ex => match ex with
    | .BoolOp .Or (a' :: b' :: r) p => mX R S a a' && (match r with
        | [] => mX R S b b'
        | _ :: _ => mX R S b (.BoolOp .Or (b' :: r) p))
    | _ => false
  | .ie c a b, ex => match ex with
    | .IfExp c' a' b' _ => mX R S c c' && mX R S a a' && mX R S b b'
    | _ => false
  | .ca f es, ex => match ex with
    | .Call (.Name x _) es' [] _ => glOk S x && !(x == ("__debug__" : Str)) && decide (R.fns.lookup x = some f) && es'.all notStar && mL R S es es'
    | _ => false
  | .bc f a, ex => match ex with
    | .Call (.Name x _) [a'] [] _ => (match bfN f with
        | some (y, _) => eqS x y && glOk S x && notStar a' && mX R S a a'
        | none => (match f, a' with
          | .lenset, .Call (.Name z _) [a2] [] _ => eqS x "len" && glOk S x && eqS z "set" && glOk S z && notStar a2 && mX R S a a2
          | .sortset, .Call (.Name z _) [a2] [] _ => eqS x "sorted" && glOk S x && eqS z "set" && glOk S z && notStar a2 && mX R S a a2
          | _, _ => false))
    | _ => false
  | .isi ty a, ex => match ex with
    | .Call (.Name x _) [a', .Name y _] [] _ => eqS x "isinstance" && eqS y (tyN ty) && glOk S x && glOk S y && notStar a' && mX R S a a'
    | _ => false
  | .ix a b, ex => match ex with
    | .Subscript a' b' _ => plainIx b' && mX R S a a' && mX R S b b'
    | _ => false
  | .sl a lo hi, ex => match ex with
    | .Subscript a' (.Slice lo' hi' none _) _ => mX R S a a' && mO R S lo lo' && mO R S hi hi'
    | _ => false
  | .lc e tg it c, ex => match ex with
    | .ListComp e' [⟨t', it', ifs, 0⟩] scope _ => mI R S it t' it' && notSet it' && blkC S.N S.sc scope (ownOf tg t') && eqNs ((ownOf tg t').map (·.2)) tg.slots && mT ⟨S.N, relS scope S.sc, some scope⟩ tg t' &&
          mC R ⟨S.N, relS scope S.sc, some scope⟩ c ifs && mX R ⟨S.N, relS scope S.sc, some scope⟩ e e'
    | _ => false
  | .l2 e tg it t2 it2, ex => match ex with
    | .ListComp e' [⟨t', it', [], 0⟩, ⟨t2', it2', [], 0⟩] scope _ => mI R S it t' it' && notSet it' && notSet it2' && blkC S.N S.sc scope (ownOf tg t' ++ ownOf t2 t2') && eqNs ((ownOf tg t' ++ ownOf t2 t2').map (·.2)) (tg.slots ++ t2.slots) &&
          mT ⟨S.N, relS scope S.sc, some scope⟩ tg t' && mT ⟨S.N, relS scope S.sc, some scope⟩ t2 t2' && mI R ⟨S.N, relS scope S.sc, some scope⟩ it2 t2' it2' && mX R ⟨S.N, relS scope S.sc, some scope⟩ e e'
    | _ => false
  | .ol i, ex => match ex with
    | .Call (.Name x _) [.Name y _] [] _ => eqS x "len" && glOk S x && nmOk S i y
    | _ => false
  | .oi i b, ex => match ex with
    | .Subscript (.Name y _) b' _ => nmOk S i y && plainIx b' && mX R S b b'
    | _ => false
  | .stl i, ex => match ex with
    | .Call (.Name x _) [.Name y _] [] _ => eqS x "len" && glOk S x && nmOk S i y
    | _ => false
  | .stx i, ex => match ex with
    | .Subscript (.Name y _) (.Constant (.int z) _ _) _ => nmOk S i y && decide (z = 0)
    | _ => false
  | .og i a b, ex => match ex with
    | .Call (.Attribute (.Name y _) m ap) [a', b'] [] cp => nmOk S i y && eqS m "get" && (ap.endLine == cp.line) && notStar a' && notStar b' && mX R S a a' && mX R S b b'
    | _ => false
  | .ogx i a, ex => match ex with
    | .Subscript (.Name y _) a' _ => nmOk S i y && plainIx a' && mX R S a a'
    | _ => false
  | .oin i a, ex => match ex with
    | .Compare a' [.In] [.Name y _] _ => nmOk S i y && mX R S a a'
    | _ => false
  | .lir b it, ex => match ex with
    | .Call (.Name x _) [e'] [] _ => eqS x (if b = true then "tuple" else "list") && glOk S x && isR it && mI R S it e' e'
    | _ => false
  | .jn z a, ex => match ex with
    | .Call (.Attribute (.Constant (.str z') _ _) m ap) [a'] [] cp => eqS m "join" && eqS z z' && (ap.endLine == cp.line) && notStar a' && mX R S a a'
    | _ => false
  | .dg a b c, ex => match ex with
    | .Call (.Attribute (.Call (.Name x _) [a'] [] _) m ap) [b', c'] [] cp => eqS x "dict" && glOk S x && eqS m "get" && (ap.endLine == cp.line) && notStar a' && notStar b' && notStar c' && mX R S a a' && mX R S b b' && mX R S c c'
    | _ => false
  | .mn _ _, _ => false
  | .rv _, _ => false
def mL (R : RowT) (S : Sc) : XL → List Expr → Bool
  | .nil, [] => true
  | .cons e es, e' :: es' => mX R S e e' && notStar e' && mL R S es es'
  | _, _ => false
def mO (R : RowT) (S : Sc) : XO → Option Expr → Bool
  | .no, none => true
  | .so e, some e' => mX R S e e'
  | _, _ => false
def mC (R : RowT) (S : Sc) : XO → List Expr → Bool
  | .no, [] => true
  | .so e, [e'] => mX R S e e'
  | _, _ => false
def mI (R : RowT) (S : Sc) : IT → Expr → Expr → Bool
  | .ex e, _, e' => mX R S e e'
  | .r1 e, _, ex => match ex with
    | .Call (.Name x _) [e'] [] _ => eqS x "range" && glOk S x && notStar e' && mX R S e e'
    | _ => false
  | .r2 a b, _, ex => match ex with
    | .Call (.Name x _) [a', b'] [] _ => eqS x "range" && glOk S x && notStar a' && notStar b' && mX R S a a' && mX R S b b'
    | _ => false
  | .en e, t, ex => match ex with
    | .Call (.Name x _) [e'] [] _ => eqS x "enumerate" && glOk S x && notStar e' && isTupE t && mX R S e e'
    | _ => false
  | .zp a b, t, ex => match ex with
    | .Call (.Name x _) [a', b'] [] _ => eqS x "zip" && glOk S x && notStar a' && notStar b' && isTupE t && mX R S a a' && mX R S b b'
    | _ => false
  | .dk i, _, ex => match ex with
    | .Name y _ => nmOk S i y
    | _ => false
end

/-! ### the context -/
structure CG (R : RowT) (l : Nat) (C : Cal) (X : Cx) (W : WX) (S : Sc) : Prop where
  calm : X.calm = true
  nd : X.N.Nodup
  N : X.N = S.N
  sc : X.env.scope = S.sc
  fn : ∀ x, stOk S x = true → X.fn x = true ∨ X.env.scope.names.lookup x = some .local
  room : Room (l + 10) X.A
  tk : Takes X W
  fns : ∀ x f, R.fns.lookup x = some f → FnAt X.prog X.w X.K X.mg X.base (l + 10) C x f
  free : ∀ x ∈ blts, X.mg x = none
section
variable {R : RowT} {l : Nat} {C : Cal} {X : Cx} {W : WX} {S : Sc}
theorem CG.hu (g : CG R l C X W S) : X.A.units + 300 < cLine := by have := g.room.un; omega
theorem vis_of (g : CG R l C X W S) {x : Str} (h : vis S x = true) : Vis X.env.scope x := by
  unfold vis at h
  rw [← g.sc] at h
  unfold Vis
  split at h
  · rename_i e; exact .inl e
  · rename_i e; exact .inr (.inl e)
  · rename_i e; exact .inr (.inr e)
  · cases h
theorem CG.nm (g : CG R l C X W S) {i : Nat} {x : Str} (h : nmOk S i x = true) : X.N[i]? = some x ∧ Vis X.env.scope x ∧ (x == ("__debug__" : Str)) = false ∧ (x == ("__classdict__" : Str)) = false := by
  unfold nmOk at h
  simp only [Bool.and_eq_true, decide_eq_true_eq, Bool.not_eq_true'] at h
  exact ⟨by rw [g.N]; exact h.1.1.1, vis_of g h.1.1.2, h.1.2, h.2⟩
theorem CG.gl (g : CG R l C X W S) {x : Str} (h : glOk S x = true) : Gl X x := by
  unfold glOk at h
  rw [← g.sc] at h
  split at h
  · rename_i e; exact e
  · cases h
theorem CG.loc (g : CG R l C X W S) {x : Str} (h : stOk S x = true) : Loc X.env.scope x := by
  unfold stOk at h
  rw [← g.sc] at h
  split at h
  · rename_i e; exact .inl e
  · rename_i e; exact .inr e
  · cases h
theorem eqS_ok {a b : Str} (h : eqS a b = true) : a = b := of_decide_eq_true h
/-- a block's context -/
theorem CG.blk (g : CG R l C X W S) (scope : Scope) (s : Shared) (H : Hp) (c : Addr) (cl : List (Str × Addr)) (fp : List Addr) : CG R l C (X.blk s H scope (compEnvC scope cl c X.env) fp) W0 ⟨S.N, relS scope S.sc, some scope⟩ where
  calm := g.calm
  nd := g.nd
  N := g.N
  sc := by rw [← g.sc]; rfl
  fn := fun x h => by
    unfold stOk at h
    split at h
    · rename_i e
      refine .inr ?_
      rw [← g.sc] at e
      exact e
    · exact .inl h
    · cases h
  room := g.room
  tk := takes0
  fns := g.fns
  free := g.free
theorem assignEach_cons {e : Expr} {es : List Expr} {env : PySem.Env} (h : notStar e = true) : assignEach (e :: es) env = (false, assign e env) :: assignEach es env := by
  cases e <;> first
    | rfl
    | (simp [notStar] at h)
theorem assignEach_ok {S : Sc} {env : PySem.Env} : ∀ {ts : TGL} {es : List Expr}, mTs S ts es = true → (assignEach es env).length = es.length ∧ (assignEach es env).findIdx? (·.1) = none ∧ ∀ ds ev ev', asgL ts ds ev = some ev' → ds.length = es.length
  | .nil, [], _ => ⟨rfl, rfl, fun ds ev ev' h => by cases ds <;> simp [asgL] at h ⊢⟩
  | .cons t ts, e :: es, h => by
    simp only [mTs, Bool.and_eq_true] at h
    obtain ⟨h1, h2, h3⟩ := assignEach_ok (env := env) h.2
    rw [assignEach_cons h.1.2]
    refine ⟨by simp [h1], by simp [List.findIdx?_cons, h2], fun ds ev ev' h => ?_⟩
    cases ds with
    | nil => simp [asgL] at h
    | cons d ds =>
      simp only [asgL] at h
      split at h
      · simp [h3 _ _ _ h]
      · cases h
  | .nil, _ :: _, h => by simp [mTs] at h
  | .cons _ _, [], h => by simp [mTs] at h
mutual
theorem pg_main (g : CG R l C X W S) : ∀ (t : PV.TG) (e : Expr), mT S t e = true → PG X e (gD t)
  | .nm i, e, h => by
    cases e <;> first
      | (simp [mT] at h; done)
      | skip
    simp only [mT, Bool.and_eq_true, decide_eq_true_eq] at h
    exact pg_nm g.nd (by rw [g.N]; exact h.1) (g.loc h.2) (g.fn _ h.2)
  | .tp ts, e, h => by
    cases e <;> first
      | (simp [mT] at h; done)
      | skip
    simp only [mT] at h
    obtain ⟨h1, h2, h3⟩ := assignEach_ok (env := X.env) h
    exact pg_tp g.calm (pgs_main g ts _ h) h3 h1 h2
theorem pgs_main (g : CG R l C X W S) : ∀ (ts : TGL) (es : List Expr), mTs S ts es = true → PGs X es (gDs ts)
  | .nil, [], _ => pgs_nilD
  | .cons t ts, e :: es, h => by
    simp only [mTs, Bool.and_eq_true] at h
    exact pgs_consD (pg_main g t e h.1.1) (pgs_main g ts es h.2) (by rw [assignEach_cons h.1.2]; rfl)
  | .nil, _ :: _, h => by simp [mTs] at h
  | .cons _ _, [], h => by simp [mTs] at h
end
theorem CG.blt (g : CG R l C X W S) {x : Str} (h : x ∈ blts) : X.mg x = none := g.free x h
/-- the comprehension as a value -/
theorem px_lc {re : PV.X} {rt : PV.TG} {rit : IT} {rc : XO} {elt tg iter : Expr} {ifs : List Expr} {scope : Scope} {pos : Pos} (g : CG R l C X W S) (hi : PI X tg iter (tXI X.K W (evI C rit))) (ok : BlkOk X.N X.env.scope scope (ownOf rt tg)) (hsl : (ownOf rt tg).map (·.2) = rt.slots)
    (hg : ∀ (s : Shared) (H : Hp) (c : Addr) (cl : List (Str × Addr)) (fp : List Addr), PG (X.blk s H scope (compEnvC scope cl c X.env) fp) tg (gD rt)) (ht : ∀ (s : Shared) (H : Hp) (c : Addr) (cl : List (Str × Addr)) (fp : List Addr), PTs (X.blk s H scope (compEnvC scope cl c X.env) fp) ifs (tXC X.K (evC C rc)))
    (he : ∀ (s : Shared) (H : Hp) (c : Addr) (cl : List (Str × Addr)) (fp : List Addr), PE (X.blk s H scope (compEnvC scope cl c X.env) fp) elt (tX X.K W0 (evE C re false))) (hs : notSet iter = true) :
    PX X W C (.ListComp elt [⟨tg, iter, ifs, 0⟩] scope pos) (.lc re rt rit rc) := by
  refine PX.of (PEi (pe_lc g.calm g.nd hi ok hg ht he (folded_ok hs X.env)) fun σ H Q h => ?_) (fun env n k x h => ?_) (fun _ => rfl) (fun _ _ _ z => nomatch z)
  · rw [hsl]; exact tX_lc h
  · rw [evE_lc] at h ⊢
    simpa only [fin_f] using h
theorem px_l2 {re : PV.X} {rt rt2 : PV.TG} {rit rit2 : IT} {elt tg iter tg2 iter2 : Expr} {scope : Scope} {pos : Pos} (g : CG R l C X W S) (hi : PI X tg iter (tXI X.K W (evI C rit))) (ok : BlkOk X.N X.env.scope scope (ownOf rt tg ++ ownOf rt2 tg2)) (hsl : (ownOf rt tg ++ ownOf rt2 tg2).map (·.2) = rt.slots ++ rt2.slots)
    (hg : ∀ (s : Shared) (H : Hp) (c : Addr) (cl : List (Str × Addr)) (fp : List Addr), PG (X.blk s H scope (compEnvC scope cl c X.env) fp) tg (gD rt)) (hg2 : ∀ (s : Shared) (H : Hp) (c : Addr) (cl : List (Str × Addr)) (fp : List Addr), PG (X.blk s H scope (compEnvC scope cl c X.env) fp) tg2 (gD rt2))
    (hi2 : ∀ (s : Shared) (H : Hp) (c : Addr) (cl : List (Str × Addr)) (fp : List Addr), PI (X.blk s H scope (compEnvC scope cl c X.env) fp) tg2 iter2 (tXI X.K W0 (evI C rit2)))
    (he : ∀ (s : Shared) (H : Hp) (c : Addr) (cl : List (Str × Addr)) (fp : List Addr), PE (X.blk s H scope (compEnvC scope cl c X.env) fp) elt (tX X.K W0 (evE C re false))) (hs : notSet iter = true) (hs2 : notSet iter2 = true) :
    PX X W C (.ListComp elt [⟨tg, iter, [], 0⟩, ⟨tg2, iter2, [], 0⟩] scope pos) (.l2 re rt rit rt2 rit2) := by
  refine PX.of (PEi (pe_lc2 (vs1 := rt2.slots) g.calm g.nd hi ok (fun i hi => by rw [hsl]; exact List.mem_append_right _ hi) hg (fun _ _ _ _ _ => pxc_no (C := C)) hi2 hg2 (fun _ _ _ _ _ => pxc_no (C := C)) he (folded_ok hs X.env) (folded_ok hs2)) fun σ H Q h => ?_) (fun env n k x h => ?_) (fun _ => rfl) (fun _ _ _ z => nomatch z)
  · rw [hsl]; exact tX_l2 h
  · rw [evE_l2] at h ⊢
    simpa only [fin_f] using h
end
end PV
end
section
set_option Elab.async false
set_option linter.all false
set_option maxRecDepth 100000
set_option maxHeartbeats 8000000
namespace PV
open PySem PySem.Spec PyProof.Rows L2
section
variable {R : RowT} {l : Nat} {C : Cal}
def POt (X : Cx) (W : WX) (C : Cal) (lo : Option Expr) (rl : XO) : Prop := PO X lo (fun σ H Q => ∃ c H0 G env n k x, Pre c H0 env σ G H n ∧ evO C rl env n k x ∧ (∀ o n' G' H', Ev c G H G' H' → Base c G' H' n' → k o n' → Q o H') ∧ xOk X.K W c σ G H x)
theorem mem_blts {x : Str} {b : Bool} (f : BF) (h : bfN f = some (x, b)) : x ∈ blts := by
  cases f <;> simp [bfN] at h <;> obtain ⟨rfl, rfl⟩ := h <;> decide +kernel
theorem ty_blts (ty : TY) : (tyN ty : Str) ∈ blts := by cases ty <;> decide +kernel
theorem px_bcall {X : Cx} {W : WX} {S : Sc} (g : CG R l C X W S) {f : BF} {x : Str} {b : Bool} {a : Expr} {ra : PV.X} {p pos : Pos} (hb : bfN f = some (x, b)) (hg : Gl X x) (ha : PX X W C a ra) (hs : notStar a = true) : PX X W C (.Call (.Name x p) [a] [] pos) (.bc f ra) := by
  have hm := g.blt (mem_blts f hb)
  cases f <;> simp [bfN] at hb <;> obtain ⟨rfl, rfl⟩ := hb
  · exact px_bc cb_len hg hm boot_len (by decide +kernel) (by decide +kernel) ha hs
  · exact px_bc cb_abs hg hm boot_abs (by decide +kernel) (by decide +kernel) ha hs
  · exact px_bc (cb_sum g.calm) hg hm boot_sum (by decide +kernel) (by decide +kernel) ha hs
  · exact px_bc (cb_max g.calm) hg hm boot_max (by decide +kernel) (by decide +kernel) ha hs
  · exact px_bc (cb_min g.calm) hg hm boot_min (by decide +kernel) (by decide +kernel) ha hs
  · exact px_bc (cb_all g.calm) hg hm boot_all (by decide +kernel) (by decide +kernel) ha hs
  · exact px_bc (cb_any g.calm) hg hm boot_any (by decide +kernel) (by decide +kernel) ha hs
  · exact px_bc (cb_sorted g.hu) hg hm boot_sorted (by decide +kernel) (by decide +kernel) ha hs
  · exact px_bt cb_list hg hm boot_list (by decide +kernel) (by decide +kernel) ha hs
  · exact px_bt cb_tuple hg hm boot_tuple (by decide +kernel) (by decide +kernel) ha hs
  · exact px_bt cb_int hg hm boot_int (by decide +kernel) (by decide +kernel) ha hs
  · exact px_bt cb_str hg hm boot_str (by decide +kernel) (by decide +kernel) ha hs
theorem isTupE_ok {e : Expr} (h : isTupE e = true) : ∃ es k p, e = .Tuple es k p := by
  cases e <;> simp [isTupE] at h
  exact ⟨_, _, _, rfl⟩
mutual
theorem px_main : ∀ (r : PV.X) (X : Cx) (W : WX) (S : Sc) (e : Expr), CG R l C X W S → mX R S r e = true → PX X W C e r
  | .v i, X, W, S, e, g, h => by
    simp only [mX] at h; split at h <;> try (cases h; done)
    obtain ⟨h1, h2, h3, h4⟩ := g.nm h
    exact px_v h1 h2 h3 h4
  | .i z, X, W, S, e, g, h => by
    simp only [mX] at h; split at h <;> try (cases h; done)
    cases of_decide_eq_true h
    exact px_i
  | .b z, X, W, S, e, g, h => by
    simp only [mX] at h; split at h <;> try (cases h; done)
    cases eq_of_beq h
    exact px_b
  | .n, X, W, S, e, g, h => by
    simp only [mX] at h; split at h <;> try (cases h; done)
    exact px_n
  | .s z, X, W, S, e, g, h => by
    simp only [mX] at h; split at h <;> try (cases h; done)
    cases eqS_ok h
    exact px_s
  | .tu es, X, W, S, e, g, h => by
    simp only [mX] at h; split at h <;> try (cases h; done)
    exact px_tu (pxl_main es X W S _ g h)
  | .ls es, X, W, S, e, g, h => by
    simp only [mX] at h; split at h <;> try (cases h; done)
    exact px_ls (pxl_main es X W S _ g h)
  | .bi o a b, X, W, S, e, g, h => by
    simp only [mX] at h; split at h <;> try (cases h; done)
    simp only [Bool.and_eq_true] at h
    obtain ⟨⟨h1, h2⟩, h3⟩ := h
    rw [o2_of h1]
    exact px_bi (px_main a X W S _ g h2) (px_main b X W S _ g h3)
  | .cm o a b, X, W, S, e, g, h => by
    simp only [mX] at h; split at h <;> try (cases h; done)
    simp only [Bool.and_eq_true, Bool.not_eq_true'] at h
    obtain ⟨⟨⟨h1, h2⟩, h3⟩, h4⟩ := h
    rw [oc_of h1] at h4 ⊢
    exact px_cm g.hu (px_main a X W S _ g h2) (px_main b X W S _ g h3) h4
  | .ch o1 o2 a b c, X, W, S, e, g, h => by
    simp only [mX] at h; split at h <;> try (cases h; done)
    simp only [Bool.and_eq_true, Bool.not_eq_true'] at h
    obtain ⟨⟨⟨⟨⟨h1, h2⟩, h3⟩, h4⟩, h5⟩, h6⟩ := h
    rw [oc_of h1, oc_of h2] at h6 ⊢
    exact px_ch g.hu (px_main a X W S _ g h3) (px_main b X W S _ g h4) (px_main c X W S _ g h5) h6
  | .ng a, X, W, S, e, g, h => by
    simp only [mX] at h; split at h <;> try (cases h; done)
    exact px_ng (px_main a X W S _ g h)
  | .nt a, X, W, S, e, g, h => by
    simp only [mX] at h; split at h <;> try (cases h; done)
    exact px_nt (px_main a X W S _ g h)
  | .an a b, X, W, S, e, g, h => by
    simp only [mX] at h; split at h <;> try (cases h; done)
    simp only [Bool.and_eq_true] at h
    obtain ⟨h1, h2⟩ := h
    split at h2
    · obtain ⟨p1, p2⟩ := px_one (op := .And) (pos := _) (px_main b X W S _ g h2)
      exact px_an (b' := .Constant .none 0 ⟨0, 0, 0, 0⟩) (px_main a X W S _ g h1) p1 p2
    · have p := px_main b X W S _ g h2
      exact px_an (b' := .Constant .none 0 ⟨0, 0, 0, 0⟩) (px_main a X W S _ g h1) p.pe (p.pw _ _ _ rfl)
  | .or a b, X, W, S, e, g, h => by
    simp only [mX] at h; split at h <;> try (cases h; done)
    simp only [Bool.and_eq_true] at h
    obtain ⟨h1, h2⟩ := h
    split at h2
    · obtain ⟨p1, p2⟩ := px_one (op := .Or) (pos := _) (px_main b X W S _ g h2)
      exact px_or (b' := .Constant .none 0 ⟨0, 0, 0, 0⟩) (px_main a X W S _ g h1) p1 p2
    · have p := px_main b X W S _ g h2
      exact px_or (b' := .Constant .none 0 ⟨0, 0, 0, 0⟩) (px_main a X W S _ g h1) p.pe (p.pw _ _ _ rfl)
  | .ie c a b, X, W, S, e, g, h => by
    simp only [mX] at h; split at h <;> try (cases h; done)
    simp only [Bool.and_eq_true] at h
    exact px_ie (px_main c X W S _ g h.1.1) (px_main a X W S _ g h.1.2) (px_main b X W S _ g h.2)
  | .ca f es, X, W, S, e, g, h => by
    simp only [mX] at h; split at h <;> try (cases h; done)
    simp only [Bool.and_eq_true, Bool.not_eq_true', decide_eq_true_eq] at h
    obtain ⟨⟨⟨⟨h1, h2⟩, h3⟩, h4⟩, h5⟩ := h
    have F := g.fns _ _ h3
    have p := pxl_main es X W S _ g h5
    rename_i x p1 es' p2
    cases es' with
    | nil =>
      cases es with
      | nil => exact px_ca0 F g.room g.tk (g.gl h1) h2
      | cons => simp [mL] at h5
    | cons e es' => exact px_ca F g.room g.tk (g.gl h1) h2 p h4
  | .bc f a, X, W, S, e, g, h => by
    simp only [mX] at h; split at h <;> try (cases h; done)
    split at h
    · rename_i hb
      simp only [Bool.and_eq_true] at h
      obtain ⟨⟨⟨h1, h2⟩, h3⟩, h4⟩ := h
      have e1 := eqS_ok h1
      subst e1
      exact px_bcall g hb (g.gl h2) (px_main a X W S _ g h4) h3
    · split at h <;> try (cases h; done)
      · simp only [Bool.and_eq_true] at h
        obtain ⟨⟨⟨⟨⟨h1, h2⟩, h3⟩, h4⟩, h5⟩, h6⟩ := h
        have e1 := eqS_ok h1
        subst e1
        have e2 := eqS_ok h3
        subst e2
        exact px_lenset g.calm g.hu (g.gl h2) (g.blt (by decide +kernel)) (g.gl h4) (g.blt (by decide +kernel)) (px_main a X W S _ g h6) h5
      · simp only [Bool.and_eq_true] at h
        obtain ⟨⟨⟨⟨⟨h1, h2⟩, h3⟩, h4⟩, h5⟩, h6⟩ := h
        have e1 := eqS_ok h1
        subst e1
        have e2 := eqS_ok h3
        subst e2
        exact px_sortset g.calm (g.gl h2) (g.blt (by decide +kernel)) (g.gl h4) (g.blt (by decide +kernel)) (px_main a X W S _ g h6) h5
  | .isi ty a, X, W, S, e, g, h => by
    simp only [mX] at h; split at h <;> try (cases h; done)
    simp only [Bool.and_eq_true] at h
    obtain ⟨⟨⟨⟨⟨h1, h2⟩, h3⟩, h4⟩, h5⟩, h6⟩ := h
    have e1 := eqS_ok h1
    have e2 := eqS_ok h2
    subst e1; subst e2
    exact px_isi (g.gl h3) (g.blt (by decide +kernel)) (g.gl h4) (g.blt (ty_blts ty)) (by cases ty <;> decide +kernel) (by cases ty <;> decide +kernel) (px_main a X W S _ g h6) h5
  | .ix a b, X, W, S, e, g, h => by
    simp only [mX] at h; split at h <;> try (cases h; done)
    simp only [Bool.and_eq_true] at h
    exact px_ix (px_main a X W S _ g h.1.2) (px_main b X W S _ g h.2) h.1.1
  | .sl a lo hi, X, W, S, e, g, h => by
    simp only [mX] at h; split at h <;> try (cases h; done)
    simp only [Bool.and_eq_true] at h
    exact px_sl (px_main a X W S _ g h.1.1) (pxo_main lo X W S _ g h.1.2) (pxo_main hi X W S _ g h.2)
  | .rv a, X, W, S, e, g, h => by
    simp [mX] at h
  | .lc re rt rit rc, X, W, S, e, g, h => by
    simp only [mX] at h; split at h <;> try (cases h; done)
    simp only [Bool.and_eq_true] at h
    obtain ⟨⟨⟨⟨⟨⟨h1, h2⟩, h3⟩, h4⟩, h5⟩, h6⟩, h7⟩ := h
    have ok := blkOk_by h3
    rw [← g.N, ← g.sc] at ok
    exact px_lc g (pxi_main rit X W S _ _ g h1) ok (eqNs_ok h4) (fun s H c cl fp => pg_main (g.blk _ s H c cl fp) rt _ h5) (fun s H c cl fp => pxc_main rc _ _ _ (g.blk _ s H c cl fp) h6) (fun s H c cl fp => (px_main re _ _ _ _ (g.blk _ s H c cl fp) h7).pe) h2
  | .l2 re rt rit rt2 rit2, X, W, S, e, g, h => by
    simp only [mX] at h; split at h <;> try (cases h; done)
    simp only [Bool.and_eq_true] at h
    obtain ⟨⟨⟨⟨⟨⟨⟨⟨h1, h2⟩, h3⟩, h4⟩, h5⟩, h6⟩, h7⟩, h8⟩, h9⟩ := h
    have ok := blkOk_by h4
    rw [← g.N, ← g.sc] at ok
    exact px_l2 g (pxi_main rit X W S _ _ g h1) ok (eqNs_ok h5) (fun s H c cl fp => pg_main (g.blk _ s H c cl fp) rt _ h6) (fun s H c cl fp => pg_main (g.blk _ s H c cl fp) rt2 _ h7) (fun s H c cl fp => pxi_main rit2 _ _ _ _ _ (g.blk _ s H c cl fp) h8) (fun s H c cl fp => (px_main re _ _ _ _ (g.blk _ s H c cl fp) h9).pe) h2 h3
  | .ol i, X, W, S, e, g, h => by
    simp only [mX] at h; split at h <;> try (cases h; done)
    simp only [Bool.and_eq_true] at h
    obtain ⟨⟨h1, h2⟩, h3⟩ := h
    have e1 := eqS_ok h1
    subst e1
    obtain ⟨q1, q2, q3, q4⟩ := g.nm h3
    exact px_ol q1 q2 q3 q4 (g.gl h2) (g.blt (by decide +kernel))
  | .stl i, X, W, S, e, g, h => by
    simp only [mX] at h; split at h <;> try (cases h; done)
    simp only [Bool.and_eq_true] at h
    obtain ⟨⟨h1, h2⟩, h3⟩ := h
    have e1 := eqS_ok h1
    subst e1
    obtain ⟨q1, q2, q3, q4⟩ := g.nm h3
    exact px_stl q1 q2 q3 q4 (g.gl h2) (g.blt (by decide +kernel))
  | .og i ra rb, X, W, S, e, g, h => by
    simp only [mX] at h; split at h <;> try (cases h; done)
    simp only [Bool.and_eq_true] at h
    obtain ⟨⟨⟨⟨⟨⟨h1, h2⟩, h3⟩, h4⟩, h5⟩, h6⟩, h7⟩ := h
    have e1 := eqS_ok h2
    subst e1
    obtain ⟨q1, q2, q3, q4⟩ := g.nm h1
    exact px_og g.hu q1 q2 q3 q4 h3 (px_main ra X W S _ g h6) h4 (px_main rb X W S _ g h7) h5
  | .ogx i ra, X, W, S, e, g, h => by
    simp only [mX] at h; split at h <;> try (cases h; done)
    simp only [Bool.and_eq_true] at h
    obtain ⟨⟨h1, h2⟩, h3⟩ := h
    obtain ⟨q1, q2, q3, q4⟩ := g.nm h1
    exact px_ogx g.hu q1 q2 q3 q4 (px_main ra X W S _ g h3) h2
  | .oin i ra, X, W, S, e, g, h => by
    simp only [mX] at h; split at h <;> try (cases h; done)
    simp only [Bool.and_eq_true] at h
    obtain ⟨h1, h2⟩ := h
    obtain ⟨q1, q2, q3, q4⟩ := g.nm h1
    exact px_oin g.hu q1 q2 q3 q4 (px_main ra X W S _ g h2)
  | .jn z a, X, W, S, e, g, h => by
    simp only [mX] at h; split at h <;> try (cases h; done)
    simp only [Bool.and_eq_true] at h
    obtain ⟨⟨⟨⟨h1, h2⟩, h3⟩, h4⟩, h5⟩ := h
    have e1 := eqS_ok h1
    have e2 := eqS_ok h2
    subst e1
    subst e2
    exact px_jn (px_main a X W S _ g h5) h4 h3
  | .dg ra rb rc, X, W, S, e, g, h => by
    simp only [mX] at h; split at h <;> try (cases h; done)
    simp only [Bool.and_eq_true] at h
    obtain ⟨⟨⟨⟨⟨⟨⟨⟨⟨h1, h2⟩, h3⟩, h4⟩, h5⟩, h6⟩, h7⟩, h8⟩, h9⟩, h10⟩ := h
    have e1 := eqS_ok h1
    have e2 := eqS_ok h3
    subst e1
    subst e2
    exact px_dg g.calm g.hu (g.gl h2) (g.blt (by decide +kernel)) h4 (px_main ra X W S _ g h8) h5 (px_main rb X W S _ g h9) h6 (px_main rc X W S _ g h10) h7
  | .mn _ _, X, W, S, e, g, h => by
    simp [mX] at h
  | .lir b it, X, W, S, e, g, h => by
    simp only [mX] at h; split at h <;> try (cases h; done)
    simp only [Bool.and_eq_true] at h
    obtain ⟨⟨⟨h1, h2⟩, h3⟩, h4⟩ := h
    have e1 := eqS_ok h1
    have hm := g.blt (x := if b = true then "tuple" else "list") (by cases b <;> decide +kernel)
    rw [← e1] at hm
    cases it with
    | r1 ra =>
      simp only [mI] at h4; split at h4 <;> try (cases h4; done)
      simp only [Bool.and_eq_true] at h4
      obtain ⟨⟨⟨q1, q2⟩, q3⟩, q4⟩ := h4
      have e2 := eqS_ok q1
      subst e2
      exact px_lir1 g.calm e1 (g.gl h2) hm (g.gl q2) (g.blt (by decide +kernel)) (px_main ra X W S _ g q4) q3
    | r2 ra rb =>
      simp only [mI] at h4; split at h4 <;> try (cases h4; done)
      simp only [Bool.and_eq_true] at h4
      obtain ⟨⟨⟨⟨⟨q1, q2⟩, q3⟩, q4⟩, q5⟩, q6⟩ := h4
      have e2 := eqS_ok q1
      subst e2
      exact px_lir2 g.calm e1 (g.gl h2) hm (g.gl q2) (g.blt (by decide +kernel)) (px_main ra X W S _ g q5) q3 (px_main rb X W S _ g q6) q4
    | ex _ => cases h3
    | en _ => cases h3
    | zp _ _ => cases h3
    | dk _ => cases h3
  | .stx i, X, W, S, e, g, h => by
    simp only [mX] at h; split at h <;> try (cases h; done)
    simp only [Bool.and_eq_true, decide_eq_true_eq] at h
    obtain ⟨h1, h2⟩ := h
    subst h2
    obtain ⟨q1, q2, q3, q4⟩ := g.nm h1
    exact px_stx q1 q2 q3 q4
  | .oi i b, X, W, S, e, g, h => by
    simp only [mX] at h; split at h <;> try (cases h; done)
    simp only [Bool.and_eq_true] at h
    obtain ⟨⟨h1, h2⟩, h3⟩ := h
    obtain ⟨q1, q2, q3, q4⟩ := g.nm h1
    exact px_oi q1 q2 q3 q4 (px_main b X W S _ g h3) h2
theorem pxl_main : ∀ (r : XL) (X : Cx) (W : WX) (S : Sc) (es : List Expr), CG R l C X W S → mL R S r es = true → PA X es (tXL X.K W (evL C r))
  | .nil, X, W, S, es, g, h => by
    match es, h with
    | [], h => exact pxl_nil
  | .cons r rs, X, W, S, es, g, h => by
    match es, h with
    | e :: es, h =>
      simp only [mL, Bool.and_eq_true] at h
      exact pxl_cons (px_main r X W S _ g h.1.1) (pxl_main rs X W S _ g h.2) h.1.2
theorem pxo_main : ∀ (r : XO) (X : Cx) (W : WX) (S : Sc) (e : Option Expr), CG R l C X W S → mO R S r e = true → POt X W C e r
  | .no, X, W, S, e, g, h => by
    cases e with
    | none => exact pxo_no
    | some e => simp [mO] at h
  | .so r, X, W, S, e, g, h => by
    cases e with
    | none => simp [mO] at h
    | some e => exact pxo_so (px_main r X W S _ g (by simpa [mO] using h))
theorem pxc_main : ∀ (r : XO) (X : Cx) (S : Sc) (es : List Expr), CG R l C X W0 S → mC R S r es = true → PTs X es (tXC X.K (evC C r))
  | .no, X, S, e, g, h => by
    cases e with
    | nil => exact pxc_no
    | cons e es => simp [mC] at h
  | .so r, X, S, e, g, h => by
    match e, h with
    | [e], h => exact pxc_so (px_main r X W0 S _ g (by simpa [mC] using h))
theorem pxi_main : ∀ (r : IT) (X : Cx) (W : WX) (S : Sc) (t e : Expr), CG R l C X W S → mI R S r t e = true → PI X t e (tXI X.K W (evI C r))
  | .ex r, X, W, S, t, e, g, h => pxi_ex (px_main r X W S _ g (by simpa [mI] using h))
  | .r1 r, X, W, S, t, e, g, h => by
    simp only [mI] at h; split at h <;> try (cases h; done)
    simp only [Bool.and_eq_true] at h
    obtain ⟨⟨⟨h1, h2⟩, h3⟩, h4⟩ := h
    have e1 := eqS_ok h1
    subst e1
    exact pxi_r1 (g.gl h2) (g.blt (by decide +kernel)) (px_main r X W S _ g h4) h3
  | .r2 a b, X, W, S, t, e, g, h => by
    simp only [mI] at h; split at h <;> try (cases h; done)
    simp only [Bool.and_eq_true] at h
    obtain ⟨⟨⟨⟨⟨h1, h2⟩, h3⟩, h4⟩, h5⟩, h6⟩ := h
    have e1 := eqS_ok h1
    subst e1
    exact pxi_r2 (g.gl h2) (g.blt (by decide +kernel)) (px_main a X W S _ g h5) h3 (px_main b X W S _ g h6) h4
  | .en r, X, W, S, t, e, g, h => by
    simp only [mI] at h; split at h <;> try (cases h; done)
    simp only [Bool.and_eq_true] at h
    obtain ⟨⟨⟨⟨h1, h2⟩, h3⟩, h5⟩, h4⟩ := h
    have e1 := eqS_ok h1
    subst e1
    obtain ⟨es, k, p, rfl⟩ := isTupE_ok h5
    exact pxi_en (g.gl h2) (g.blt (by decide +kernel)) (px_main r X W S _ g h4) h3
  | .zp a b, X, W, S, t, e, g, h => by
    simp only [mI] at h; split at h <;> try (cases h; done)
    simp only [Bool.and_eq_true] at h
    obtain ⟨⟨⟨⟨⟨⟨h1, h2⟩, h3⟩, h4⟩, h7⟩, h5⟩, h6⟩ := h
    have e1 := eqS_ok h1
    subst e1
    obtain ⟨es, k, p, rfl⟩ := isTupE_ok h7
    exact pxi_zp (g.gl h2) (g.blt (by decide +kernel)) (px_main a X W S _ g h5) h3 (px_main b X W S _ g h6) h4
  | .dk i, X, W, S, t, e, g, h => by
    simp only [mI] at h; split at h <;> try (cases h; done)
    obtain ⟨q1, q2, q3, q4⟩ := g.nm h
    exact pxi_dk q1 q2 q3 q4
end
end
end PV
end
section
set_option Elab.async false
set_option linter.all false
set_option maxRecDepth 100000
set_option maxHeartbeats 4000000
namespace PV
open PySem PySem.Spec PyProof.Rows L2

/-! ### a value that may be a new list of one's own -/
/-- Hs: the heap ahead -/
def SlR (c : Addr) (G H Hs : Hp) (o : Bool) (v : V) (d : D) : Prop := match o with
  | false => Rep c G v d
  | true => ∃ p vs ds, v = .ref p ∧ d = .lst ds ∧ H p = some (.lst vs) ∧ G p = none ∧ Hs p = none ∧ p ≠ c ∧ RepL c G vs ds
def tXs (K : PySem.W.Frag) (W : WX) (o : Bool) (f : ME) : TE := fun σ H Q => ∃ c H0 G env n k x, Pre c H0 env σ G H n ∧ f env n k x ∧ (∀ v d n' G' H', Ev c G H G' H' → Base c G' H' n' → SlR c G' H' H o v d → k d n' → Q v H') ∧ xOk K W c σ G H x
section
variable {c : Addr} {G H G' H' Hs : Hp} {o : Bool} {v : V} {d : D}
theorem SlR.ev (s : SlR c G H Hs o v d) (e : Ev c G H G' H') : SlR c G' H' Hs o v d := by
  cases o with
  | false => exact Rep.mono e.g s
  | true =>
    obtain ⟨p, vs, ds, h1, h2, h3, h4, h5, h6, h7⟩ := s
    refine ⟨p, vs, ds, h1, h2, e.h _ _ h3 h6, ?_, h5, h6, h7.mono e.g⟩
    cases q : G' p with
    | none => rfl
    | some u =>
      rcases e.nw _ _ q with ⟨_, z⟩ | z | ⟨_, z⟩
      · rw [h4] at z; cases z
      · rw [h3] at z; cases z
      · rw [h3] at z; cases z
theorem Ev.fresh (e : Ev c G H G' H') (b : Base c G' H' n) {p : Addr} (hp : H' p = none) : H p = none := by
  cases q : H p with
  | none => rfl
  | some u =>
    by_cases hc : p = c
    · obtain ⟨ns, h, _⟩ := b.cell
      rw [hc, h] at hp; cases hp
    · rw [e.h _ _ q hc] at hp; cases hp
theorem Ev.back (e : Ev c G H G' H') {p : Addr} (hp : H' p = none) (hc : p ≠ c) : H p = none := by
  cases q : H p with
  | none => rfl
  | some u => rw [e.h _ _ q hc] at hp; cases hp
end
section
variable {X : Cx} {W : WX} {C : Cal} {e : Expr} {r : PV.X}
theorem tXs_f {K : PySem.W.Frag} {f : ME} {σ : L2.St} {H : Hp} {Q : VK} (h : tXs K W false f σ H Q) : tX K W f σ H Q := h
/-- the readings of new lists -/
theorem pxs_ls {es : List Expr} {rs : XL} {pos : Pos} (h : PA X es (tXL X.K W (evL C rs))) : PE X (.List es pos) (tXs X.K W true (evE C (.ls rs) false)) := by
  refine PEi (pe_lst h) fun σ H Q h => ?_
  obtain ⟨c, H0, G, env, n, k, x, pre, hf, hv, hx⟩ := h
  simp only [evE] at hf
  refine ⟨c, H0, G, env, n, _, x, pre, hf, fun vs ds n1 G1 H1 e1 b1 r1 h1 => ?_, hx⟩
  have h1 : small ds.length ∧ fin false k _ n1 := h1
  rw [fin_f] at h1
  refine ⟨by rw [r1.length]; exact line_small h1.1, fun p hp => ?_⟩
  have hpc : p ≠ c := fun z => by obtain ⟨ns, q, _⟩ := b1.cell; rw [z, q] at hp; cases hp
  exact hv (.ref p) (.lst ds) n1 G1 _ (e1.updD (e1.fresh b1 hp)) (b1.updD (b1.gp hp) hpc) ⟨p, vs, ds, rfl, rfl, upd_same, b1.gp hp, e1.fresh b1 hp, hpc, r1⟩ h1.2
theorem tXs_lc {K : PySem.W.Frag} {re : PV.X} {rt : PV.TG} {rit : IT} {rc : XO} {σ : L2.St} {H : Hp} {Q : VK} (h : tXs K W true (evE C (.lc re rt rit rc) false) σ H Q) :
    tLc (tXI K W (evI C rit)) (gD rt) (tXC K (evC C rc)) (tX K W0 (evE C re false)) rt.slots σ H Q := by
  obtain ⟨c, H0, G, env, n, k, x, pre, hf, hv, hx⟩ := h
  rw [evE_lc] at hf
  refine tLc_core pre hf hx fun D acc vs n' G' H' e b hd hg hD hDc l go => ?_
  rw [fin_f] at go
  exact hv (.ref D) (.lst acc) n' G' H' e b ⟨D, vs, acc, rfl, rfl, hd, hg, hD, hDc, l⟩ go
/-- list(e), xs + ys, xs * n -/
theorem ownNew {c : Addr} {G H G1 H1 : Hp} {n1 : Nat} {k : KD} {Q : VK} {vs : List V} {ds : List D} (e1 : Ev c G H G1 H1) (b1 : Base c G1 H1 n1) (hv : ∀ v d n' G' H', Ev c G H G' H' → Base c G' H' n' → SlR c G' H' H true v d → k d n' → Q v H') (l : RepL c G1 vs ds) (hk : k (.lst ds) n1) :
    ∀ p, H1 p = none → Q (.ref p) (upd H1 p (.lst vs)) := fun p hp => by
  have hpc : p ≠ c := fun z => by obtain ⟨ns, q, _⟩ := b1.cell; rw [z, q] at hp; cases hp
  exact hv (.ref p) (.lst ds) n1 G1 _ (e1.updD (e1.fresh b1 hp)) (b1.updD (b1.gp hp) hpc) ⟨p, vs, ds, rfl, rfl, upd_same, b1.gp hp, e1.fresh b1 hp, hpc, l⟩ hk
theorem pxs_list {a : Expr} {ra : PV.X} {p pos : Pos} (hg : Gl X "list") (hm : X.mg "list" = none) (ha : PX X W C a ra) (hs : notStar a = true) : PE X (.Call (.Name "list" p) [a] [] pos) (tXs X.K W true (evE C (.bc .list ra) false)) := by
  refine PEi (pe_callTy call_list_of hg hm boot_list (pa_cons ha.pe pa_nil (star_one hs)) (by decide +kernel) (by decide +kernel) (star_one hs) rfl) fun σ H Q h => ?_
  obtain ⟨c, H0, G, env, n, k, x, pre, hf, hv, hx⟩ := h
  simp only [evE] at hf
  refine ⟨c, H0, G, env, n, _, x, pre, hf, fun v d n1 G1 H1 e1 b1 r1 h1 => ?_, hx⟩
  simp only [fin_f] at h1
  cases d <;> first
    | exact (show False from h1).elim
    | skip
  · cases r1 with
    | tup h q => exact ⟨_, _, rfl, .inr (.inl (h.rd b1.gh)), ownNew e1 b1 hv q h1⟩
  · cases r1 with
    | lst h q => exact ⟨_, _, rfl, .inl (.inl (.inl (b1.gh _ _ h))), ownNew e1 b1 hv q h1⟩
/-- where a list is wanted -/
def tXa (K : PySem.W.Frag) (W : WX) (f : ME) : TE := fun σ H Q => ∃ c H0 G env n k x, Pre c H0 env σ G H n ∧ (∀ d n', k d n' → ∃ ds, d = PV.D.lst ds) ∧ f env n k x ∧ (∀ v d n' G' H', Ev c G H G' H' → Base c G' H' n' → SlR c G' H' H true v d → k d n' → Q v H') ∧ xOk K W c σ G H x
theorem tXa_s {K : PySem.W.Frag} {f : ME} {σ : L2.St} {H : Hp} {Q : VK} (h : tXa K W f σ H Q) : tXs K W true f σ H Q := by
  obtain ⟨c, H0, G, env, n, k, x, pre, _, hf, hv, hx⟩ := h
  exact ⟨c, H0, G, env, n, k, x, pre, hf, hv, hx⟩
theorem pxs_add {a b : Expr} {ra rb : PV.X} {pos : Pos} (ha : PX X W C a ra) (hb : PX X W C b rb) : PE X (.BinOp a .Add b pos) (tXa X.K W (evE C (.bi .add ra rb) false)) := by
  refine PEi (pe_op op_cat ha.pe hb.pe) fun σ H Q h => ?_
  obtain ⟨c, H0, G, env, n, k, x, pre, hk, hf, hv, hx⟩ := h
  simp only [evE, fin_f] at hf
  refine ⟨c, H0, G, env, n, _, x, pre, hf, fun v d n1 G1 H1 e1 b1 r1 h1 => ?_, hx⟩
  refine ⟨c, H0, G1, env, n1, _, x, pre.ev e1 b1, h1, fun v2 d2 n2 G2 H2 e2 b2 r2 h2 => ?_, hx.ev e1⟩
  have r1 := r1.mono e2.g
  have no : ∀ {d : PV.D}, k d n2 → (∀ ds, d ≠ .lst ds) → False := fun h z => by obtain ⟨ds, e⟩ := hk _ _ h; exact z ds e
  cases d <;> cases d2 <;> first
    | exact (show False from h2).elim
    | (refine (no h2 ?_).elim; intro _ z; cases z; done)
    | (refine (no h2.2 ?_).elim; intro _ z; cases z; done)
    | skip
  obtain ⟨hs, h2⟩ := h2
  cases r1 with
  | lst g1 l1 => cases r2 with
    | lst g2 l2 =>
      refine ⟨_, _, _, _, rfl, rfl, b2.gh _ _ g1, b2.gh _ _ g2, ?_, ownNew (e1.trans e2) b2 hv (l1.append l2) h2⟩
      rw [l1.length, l2.length]; exact line_small hs
theorem pxs_mul {a b : Expr} {ra rb : PV.X} {pos : Pos} (ha : PX X W C a ra) (hb : PX X W C b rb) : PE X (.BinOp a .Mult b pos) (tXa X.K W (evE C (.bi .mul ra rb) false)) := by
  refine PEi (pe_op op_rep ha.pe hb.pe) fun σ H Q h => ?_
  obtain ⟨c, H0, G, env, n, k, x, pre, hk, hf, hv, hx⟩ := h
  simp only [evE, fin_f] at hf
  refine ⟨c, H0, G, env, n, _, x, pre, hf, fun v d n1 G1 H1 e1 b1 r1 h1 => ?_, hx⟩
  refine ⟨c, H0, G1, env, n1, _, x, pre.ev e1 b1, h1, fun v2 d2 n2 G2 H2 e2 b2 r2 h2 => ?_, hx.ev e1⟩
  have r1 := r1.mono e2.g
  have no : ∀ {d : PV.D}, k d n2 → (∀ ds, d ≠ .lst ds) → False := fun h z => by obtain ⟨ds, e⟩ := hk _ _ h; exact z ds e
  cases d <;> cases d2 <;> first
    | exact (show False from h2).elim
    | (refine (no h2 ?_).elim; intro _ z; cases z; done)
    | (refine (no h2.2 ?_).elim; intro _ z; cases z; done)
    | (refine (no h2.2.2 ?_).elim; intro _ z; cases z; done)
    | (refine (no h2.2.2.2.2 ?_).elim; intro _ z; cases z; done)
    | skip
  obtain ⟨hs, hb2, h2⟩ := h2
  cases r1 with
  | lst g1 l1 => cases r2 with
    | int i =>
      refine ⟨_, _, _, rfl, rfl, b2.gh _ _ g1, by omega, by omega, ?_, ownNew (e1.trans e2) b2 hv (l1.rep _) h2⟩
      rw [l1.length]; exact line_small hs
end

/-! ### statements -/
abbrev StF := Env → Nat → (Env → Nat → Prop) → KD → KX → Prop
def tS (K : PySem.W.Frag) (W : WX) (f : StF) : TS := fun D σ H => ∃ c H0 G0 G env n k r x, Pre c H0 env σ G H n ∧ Ev c G0 H0 G H ∧ f env n k r x ∧
  (∀ σ' env' G' H' n', Pre c H0 env' σ' G' H' n' → Ev c G0 H0 G' H' → Same G G' → k env' n' → D.nx σ' H') ∧
  (∀ v d n' G' H', Ev c G0 H0 G' H' → Base c G' H' n' → Rep c G' v d → r d n' → D.rt v H') ∧
  ∀ nm n' σ' G' H', Ev c G0 H0 G' H' → Base c G' H' n' → x nm n' → W (.ref (He.ga K nm)) none σ' H'
section
variable {X : Cx} {W : WX} {C : Cal}
theorem PSi {st : Stmt} {t t' : TS} (h : PS X st t) (w : ∀ D σ H, t' D σ H → t D σ H) : PS X st t' := ⟨fun pins s σ H D I q => h.run pins s σ H D I (w D σ H q)⟩
theorem PSsi {st : List Stmt} {t t' : TS} (h : PSs X st t) (w : ∀ D σ H, t' D σ H → t D σ H) : PSs X st t' := ⟨fun pins s σ H D I q => h.run pins s σ H D I (w D σ H q)⟩
theorem xst {K : PySem.W.Frag} {c : Addr} {G0 H0 G H : Hp} {σ : L2.St} {x : KX} (e : Ev c G0 H0 G H) (hx : ∀ nm n' σ' G' H', Ev c G0 H0 G' H' → Base c G' H' n' → x nm n' → W (.ref (He.ga K nm)) none σ' H') : xOk K W c σ G H x :=
  fun nm n' G' H' e' b h => hx nm n' σ G' H' (e.trans e') b h
theorem pst_nil : PSs X [] (tS X.K W (evB C .nil)) := PSsi pss_nil fun D σ H h => by
  obtain ⟨c, H0, G0, G, env, n, k, r, x, pre, e0, hf, hn, hr, hx⟩ := h
  simp only [evB] at hf
  exact hn σ env G H n pre e0 (fun _ _ h => h) hf
theorem pst_cons {st : Stmt} {rest : List Stmt} {s : S} {ss : SL} (h1 : PS X st (tS X.K W (evS C s))) (h2 : PSs X rest (tS X.K W (evB C ss))) : PSs X (st :: rest) (tS X.K W (evB C (.cons s ss))) := PSsi (pss_cons h1 h2) fun D σ H h => by
  obtain ⟨c, H0, G0, G, env, n, k, r, x, pre, e0, hf, hn, hr, hx⟩ := h
  simp only [evB] at hf
  exact ⟨c, H0, G0, G, env, n, _, r, x, pre, e0, hf, fun σ' env' G' H' n' pre' e' s' hk => ⟨c, H0, G0, G', env', n', k, r, x, pre', e', hk, fun σ2 env2 G2 H2 n2 p2 e2 s2 hk2 => hn σ2 env2 G2 H2 n2 p2 e2 (s'.trans s2) hk2, hr, hx⟩, hr, hx⟩
/-- own lists are frozen -/
theorem EnvR.frz1 {c : Addr} {H0 G H : Hp} {env : Env} {σ : L2.St} {i : Nat} {ds : List D} (r : EnvR c H0 env σ G H) (h : gt env i = .own ds) : ∃ a vs, H a = some (.lst vs) ∧ G a = none ∧ H0 a = none ∧ a ≠ c ∧ EnvR c H0 (env.set i (.val (.lst ds))) σ (upd G a (.lst vs)) H := by
  obtain ⟨a, vs, h1, h2, h3, h4, h5, h6⟩ := r.own i ds h
  have hi : i < env.length := by
    by_cases q : i < env.length
    · exact q
    · unfold gt at h; rw [List.getD_eq_getElem?_getD, List.getElem?_eq_none (Nat.le_of_not_lt q)] at h; cases h
  have sm : Same G (upd G a (.lst vs)) := sameD h3
  refine ⟨a, vs, h2, h3, h4, h5, ⟨by rw [List.length_set]; exact r.len, fun j d hj => ?_, fun j es hj => ?_, fun j l b es fs h1' h2' h3' h4' => ?_, fun j lk kvs hj => ?_, fun j l b lk lk' kvs kvs' h1' h2' h3' h4' => ?_⟩⟩
  · rw [gt_set hi] at hj
    by_cases z : j = i
    · rw [if_pos z] at hj; cases hj
      rw [z]; exact ⟨_, h1, .lst upd_same (h6.mono sm)⟩
    · rw [if_neg z] at hj
      obtain ⟨v, q1, q2⟩ := r.val j d hj
      exact ⟨v, q1, q2.mono sm⟩
  · rw [gt_set hi] at hj
    by_cases z : j = i
    · rw [if_pos z] at hj; cases hj
    · rw [if_neg z] at hj
      obtain ⟨b, ws, q1, q2, q3, q4, q5, q6⟩ := r.own j es hj
      have hb : b ≠ a := fun e => z (r.sep j i b es ds hj h q1 (by rw [e]; exact h1))
      exact ⟨b, ws, q1, q2, by rw [upd_ne hb]; exact q3, q4, q5, q6.mono sm⟩
  · rw [gt_set hi] at h1' h2'
    by_cases z : j = i
    · rw [if_pos z] at h1'; cases h1'
    · rw [if_neg z] at h1'
      by_cases z2 : l = i
      · rw [if_pos z2] at h2'; cases h2'
      · rw [if_neg z2] at h2'
        exact r.sep j l b es fs h1' h2' h3' h4'
  · rw [gt_set hi] at hj
    by_cases z : j = i
    · rw [if_pos z] at hj; cases hj
    · rw [if_neg z] at hj
      exact (r.dct j lk kvs hj).map sm fun b kv q2 q3 q4 q5 => ⟨q2, by rw [upd_ne (fun e => by rw [e, h2] at q2; cases q2)]; exact q3, q4⟩
  · rw [gt_set hi] at h1' h2'
    by_cases z : j = i
    · rw [if_pos z] at h1'; cases h1'
    · rw [if_neg z] at h1'
      by_cases z2 : l = i
      · rw [if_pos z2] at h2'; cases h2'
      · rw [if_neg z2] at h2'
        exact r.sepd j l b lk lk' kvs kvs' h1' h2' h3' h4'
theorem Pre.frz {c : Addr} {H0 G0 H : Hp} {σ : L2.St} {n : Nat} : ∀ (is : List Nat) {env : Env} {G : Hp}, Pre c H0 env σ G H n → Ev c G0 H0 G H → ∃ G', Pre c H0 (freeze env is) σ G' H n ∧ Ev c G0 H0 G' H ∧ Same G G'
  | [], _, G, p, e => ⟨G, p, e, fun _ _ h => h⟩
  | i :: is, env, G, p, e => by
    obtain ⟨G1, p1, e1, s1⟩ := Pre.frz is p e
    unfold freeze
    split
    · rename_i ds h
      obtain ⟨a, vs, q1, q2, q3, q4, q5⟩ := p1.r.frz1 h
      exact ⟨_, ⟨p1.b.frz q1 q2 q4, q5⟩, e1.frz q3 q2 q4, s1.trans (sameD q2)⟩
    · exact ⟨G1, p1, e1, s1⟩
theorem pst_fz {rest : List Stmt} {is : List Nat} {ss : SL} (h : PSs X rest (tS X.K W (evB C ss))) : PSs X rest (tS X.K W (evB C (.cons (.fz is) ss))) := PSsi h fun D σ H h => by
  obtain ⟨c, H0, G0, G, env, n, k, r, x, pre, e0, hf, hn, hr, hx⟩ := h
  simp only [evB, evS] at hf
  obtain ⟨G', p', e', s'⟩ := Pre.frz is pre e0
  exact ⟨c, H0, G0, G', _, n, k, r, x, p', e', hf, fun σ2 env2 G2 H2 n2 p2 e2 s2 hk2 => hn σ2 env2 G2 H2 n2 p2 e2 (s'.trans s2) hk2, hr, hx⟩
end
end PV
end
section
set_option Elab.async false
set_option linter.all false
set_option maxRecDepth 100000
set_option maxHeartbeats 4000000
namespace PV
open PySem PySem.Spec PyProof.Rows L2
/-! ### one statement -/
section
variable {X : Cx} {W : WX} {C : Cal}
theorem opA_iff {o : Option Env} {k : Env → Prop} : opA o k ↔ ∃ env, o = some env ∧ k env := by
  unfold opA; cases o <;> simp
/-- target = value -/
theorem pst_as {tg e : Expr} {t : PV.TG} {r : PV.X} {te : TE} {pos : Pos} (hp : PS X (.Assign [tg] e pos) (tAsg te (gD t))) (hte : ∀ σ H Q, tX X.K W (evE C r false) σ H Q → te σ H Q) : PS X (.Assign [tg] e pos) (tS X.K W (evS C (.as t r))) := PSi hp fun D σ H h => by
  obtain ⟨c, H0, G0, G, env, n, k, rr, x, pre, e0, hf, hn, hr, hx⟩ := h
  simp only [evS] at hf
  refine hte σ H _ ⟨c, H0, G, env, n, _, x, pre, hf, fun v d n' G' H' e b rp hk => ?_, xst e0 hx⟩
  obtain ⟨env', ha, hk⟩ := opA_iff.mp hk
  exact ⟨c, H0, G', env, d, env', (pre.ev e b).r, b.gh, rp, ha, fun σ' rs ks ls => hn σ' env' G' H' n' ⟨b, rs⟩ (e0.trans e) e.g hk⟩
theorem EnvR.setS {c : Addr} {H0 G H Hs : Hp} {env : Env} {σ : L2.St} {i : Nat} {o : Bool} {v : V} {d : PV.D} (r : EnvR c H0 env σ G H) (hi : i < env.length) (s : SlR c G H Hs o v d) (h0 : ∀ p, Hs p = none → p ≠ c → H0 p = none)
    (hn : ∀ p, Hs p = none → H p ≠ none → ∀ j es, gt env j = .own es → j ≠ i → σ[j]? ≠ some (some (.ref p))) : EnvR c H0 (env.set i (slotOf o d)) (σ.set i (some v)) G H := by
  cases o with
  | false =>
    have : slotOf false d = .val d := by cases d <;> rfl
    rw [this]
    exact r.set hi s
  | true =>
    obtain ⟨p, vs, ds, rfl, rfl, h3, h4, h5, h6, h7⟩ := s
    exact r.setOwn hi h3 h4 (h0 p h5 h6) h6 h7 (fun j es hj hne => hn p h5 (by rw [h3]; exact fun z => nomatch z) j es hj hne)
theorem own_old {c : Addr} {H0 G H G' H' : Hp} {env : Env} {σ : L2.St} (r : EnvR c H0 env σ G H) : ∀ p, H p = none → ∀ j es, gt env j = .own es → σ[j]? ≠ some (some (.ref p)) := fun p hp j es hj z => by
  obtain ⟨a, vs, q1, q2, _⟩ := r.own j es hj
  rw [q1] at z; cases z
  rw [hp] at q2; cases q2
theorem pst_ao {i : Nat} {x : Str} {e : Expr} {r : PV.X} {te : TE} {p pos : Pos} (hp : PS X (.Assign [.Name x p] e pos) (tAsg te (gName i))) (hte : ∀ σ H Q, tXa X.K W (evE C r false) σ H Q → te σ H Q) : PS X (.Assign [.Name x p] e pos) (tS X.K W (evS C (.ao i r))) := PSi hp fun D σ H h => by
  obtain ⟨c, H0, G0, G, env, n, k, rr, x, pre, e0, hf, hn, hr, hx⟩ := h
  simp only [evS] at hf
  refine hte σ H _ ⟨c, H0, G, env, n, _, x, pre, fun d n' hk => hk.2.1 rfl, hf, fun v d n' G' H' e b s hk => ?_, xst e0 hx⟩
  obtain ⟨hi, _, hk⟩ := hk
  refine hn _ _ G' H' n' ⟨b, ?_⟩ (e0.trans e) e.g hk
  have r1 := (pre.ev e b).r
  refine r1.setS hi s (fun p hp hc => e0.back hp hc) (fun p hp _ j es hj _ => own_old (G' := G') (H' := H') pre.r p hp j es hj)
/-- the pair of values -/
def tP2 (i j : Nat) (ta : TA) : TS := tPar i j ta
theorem pst_p2 {i j : Nat} {oi oj : Bool} {ra rb : PV.X} {ta tb : TE} {st : Stmt} (hij : i ≠ j) (hps : PS X st (tPar i j (tCons ta (tCons tb tNil)))) (hta : ∀ σ H Q, tXs X.K W oi (evE C ra false) σ H Q → ta σ H Q) (htb : ∀ σ H Q, tXs X.K W oj (evE C rb false) σ H Q → tb σ H Q) :
    PS X st (tS X.K W (evS C (.p2 i oi j oj ra rb)))   := PSi hps fun D σ H h => by
  obtain ⟨c, H0, G0, G, env, n, k, rr, x, pre, e0, hf, hn, hr, hx⟩ := h
  simp only [evS] at hf
  refine hta σ H _ ⟨c, H0, G, env, n, _, x, pre, hf, fun v d n1 G1 H1 e1 b1 s1 h1 => ?_, xst e0 hx⟩
  refine htb σ H1 _ ⟨c, H0, G1, env, n1, _, x, pre.ev e1 b1, h1, fun v2 d2 n2 G2 H2 e2 b2 s2 h2 => ?_, xst (e0.trans e1) hx⟩
  obtain ⟨hi, _, hj, _, hk⟩ := h2
  refine ⟨v, v2, rfl, ?_⟩
  refine hn _ _ G2 H2 n2 ⟨b2, ?_⟩ ((e0.trans e1).trans e2) (e1.g.trans e2.g) hk
  have r2 := ((pre.ev e1 b1).ev e2 b2).r
  have r3 := r2.setS (o := oi) (v := v) (d := d) (Hs := H) hi (s1.ev e2) (fun p hp hc => e0.back hp hc) (fun p hp _ l es hl _ => own_old (G' := G2) (H' := H2) pre.r p hp l es hl)
  refine r3.setS hj s2 (fun p hp hc => (e0.trans e1).back hp hc) (fun p hp hpn l es hl hne => ?_)
  -- the second list is newer than the first
  rw [gt_set hi] at hl
  by_cases z : l = i
  · subst z
    have hl' : l < σ.length := by rw [← pre.r.len]; exact hi
    rw [List.getElem?_set_self hl']
    intro e
    cases e
    rw [if_pos rfl] at hl
    cases oi with
    | false => cases d <;> simp [slotOf] at hl
    | true =>
      obtain ⟨q, vs, ds, q1, q2, q3, q4, q5, q6, q7⟩ := s1
      cases q1
      rw [hp] at q3; cases q3
  · rw [if_neg z] at hl
    rw [List.getElem?_set_ne (Ne.symm z)]
    exact own_old (G' := G2) (H' := H2) (pre.ev e1 b1).r p hp l es hl
theorem pst_p3 {i j l : Nat} {ra rb rc : PV.X} {ta tb tc : TE} {st : Stmt} (hp : PS X st (tPar3 i j l (tCons ta (tCons tb (tCons tc tNil))))) (hta : ∀ σ H Q, tX X.K W (evE C ra false) σ H Q → ta σ H Q) (htb : ∀ σ H Q, tX X.K W (evE C rb false) σ H Q → tb σ H Q)
    (htc : ∀ σ H Q, tX X.K W (evE C rc false) σ H Q → tc σ H Q) : PS X st (tS X.K W (evS C (.p3 i j l ra rb rc))) := PSi hp fun D σ H h => by
  obtain ⟨c, H0, G0, G, env, n, k, rr, x, pre, e0, hf, hn, hr, hx⟩ := h
  simp only [evS] at hf
  refine hta σ H _ ⟨c, H0, G, env, n, _, x, pre, hf, fun v d n1 G1 H1 e1 b1 s1 h1 => ?_, xst e0 hx⟩
  refine htb σ H1 _ ⟨c, H0, G1, env, n1, _, x, pre.ev e1 b1, h1, fun v2 d2 n2 G2 H2 e2 b2 s2 h2 => ?_, xst (e0.trans e1) hx⟩
  refine htc σ H2 _ ⟨c, H0, G2, env, n2, _, x, (pre.ev e1 b1).ev e2 b2, h2, fun v3 d3 n3 G3 H3 e3 b3 s3 h3 => ?_, xst ((e0.trans e1).trans e2) hx⟩
  obtain ⟨hi, _, hj, _, hl, _, hk⟩ := h3
  refine ⟨v, v2, v3, rfl, ?_⟩
  have sl : ∀ d : PV.D, slotOf false d = .val d := fun d => by cases d <;> rfl
  rw [sl] at hj hl hk
  rw [sl] at hl hk
  rw [sl] at hk
  refine hn _ _ G3 H3 n3 ⟨b3, ?_⟩ (((e0.trans e1).trans e2).trans e3) ((e1.g.trans e2.g).trans e3.g) hk
  have r3 := (((pre.ev e1 b1).ev e2 b2).ev e3 b3).r
  exact ((r3.set hi ((s1.mono e2.g).mono e3.g)).set hj (s2.mono e3.g)).set hl s3
theorem pst_ag {i : Nat} {r : PV.X} {te : TE} {st : Stmt} (hp : PS X st (tAug i te (ipI fun i j => i + j))) (hte : ∀ σ H Q, tX X.K W (evE C r false) σ H Q → te σ H Q) : PS X st (tS X.K W (evS C (.ag i r))) := PSi hp fun D σ H h => by
  obtain ⟨c, H0, G0, G, env, n, k, rr, x, pre, e0, hf, hn, hr, hx⟩ := h
  simp only [evS] at hf
  obtain ⟨z, hg, hf⟩ := hf
  obtain ⟨v, h1, h2⟩ := pre.r.val i _ hg
  cases h2
  refine ⟨_, h1, hte σ H _ ⟨c, H0, G, env, n, _, x, pre, hf, fun v d n' G' H' e b rp hk => ?_, xst e0 hx⟩⟩
  cases d <;> first
    | exact (show False from hk).elim
    | skip
  rename_i y
  cases rp
  refine ⟨z, y, rfl, rfl, hn _ _ G' H' n' ⟨b, ?_⟩ (e0.trans e) e.g hk⟩
  have hi : i < env.length := by
    by_cases q : i < env.length
    · exact q
    · unfold gt at hg; rw [List.getD_eq_getElem?_getD, List.getElem?_eq_none (Nat.le_of_not_lt q)] at hg; cases hg
  exact (pre.ev e b).r.set hi (.int _)
theorem gt_lt {env : Env} {i : Nat} {ds : List PV.D} (h : gt env i = .own ds) : i < env.length := by
  by_cases q : i < env.length
  · exact q
  · unfold gt at h; rw [List.getD_eq_getElem?_getD, List.getElem?_eq_none (Nat.le_of_not_lt q)] at h; cases h
/-- an own list is written -/
theorem EnvR.wr {c : Addr} {H0 G H : Hp} {env : Env} {σ : L2.St} {i : Nat} {ds ds' : List PV.D} {a : Addr} {vs vs' : List V} (r : EnvR c H0 env σ G H) (h : gt env i = .own ds) (ha : σ[i]? = some (some (.ref a))) (l : RepL c G vs' ds') :
    EnvR c H0 (env.set i (.own ds')) σ G (upd H a (.lst vs')) := by
  have hi := gt_lt h
  obtain ⟨a', ws, h1, h2, h3, h4, h5, h6⟩ := r.own i ds h
  rw [ha] at h1; cases h1
  refine ⟨by rw [List.length_set]; exact r.len, fun j d hj => ?_, fun j es hj => ?_, fun j m b es fs h1' h2' h3' h4' => ?_, fun j lk kvs hj => ?_, fun j m b lk lk' kvs kvs' h1' h2' h3' h4' => ?_⟩
  · rw [gt_set hi] at hj
    by_cases z : j = i
    · rw [if_pos z] at hj; cases hj
    · rw [if_neg z] at hj; exact r.val j d hj
  · rw [gt_set hi] at hj
    by_cases z : j = i
    · rw [if_pos z] at hj; cases hj
      rw [z]; exact ⟨a, vs', ha, upd_same, h3, h4, h5, l⟩
    · rw [if_neg z] at hj
      obtain ⟨b, us, q1, q2, q3, q4, q5, q6⟩ := r.own j es hj
      have hb : b ≠ a := fun e => z (r.sep j i b es ds hj h q1 (by rw [e]; exact ha))
      exact ⟨b, us, q1, by rw [upd_ne hb]; exact q2, q3, q4, q5, q6⟩
  · have g' : ∀ {j es}, gt (env.set i (.own ds')) j = .own es → ∃ es', gt env j = .own es' := fun {j es} q => by
      rw [gt_set hi] at q
      by_cases z : j = i
      · exact ⟨ds, by rw [z]; exact h⟩
      · rw [if_neg z] at q; exact ⟨es, q⟩
    obtain ⟨es', q1⟩ := g' h1'
    obtain ⟨fs', q2⟩ := g' h2'
    exact r.sep j m b es' fs' q1 q2 h3' h4'
  · rw [gt_set hi] at hj
    by_cases z : j = i
    · rw [if_pos z] at hj; cases hj
    · rw [if_neg z] at hj
      exact (r.dct j lk kvs hj).map (fun _ _ h => h) fun b kv q2 q3 q4 q5 => ⟨by rw [upd_ne (fun e => by rw [e, h2] at q2; cases q2)]; exact q2, q3, q4⟩
  · rw [gt_set hi] at h1' h2'
    by_cases z : j = i
    · rw [if_pos z] at h1'; cases h1'
    · rw [if_neg z] at h1'
      by_cases z2 : m = i
      · rw [if_pos z2] at h2'; cases h2'
      · rw [if_neg z2] at h2'
        exact r.sepd j m b lk lk' kvs kvs' h1' h2' h3' h4'
theorem Pre.wr {c : Addr} {H0 G0 G H : Hp} {env : Env} {σ : L2.St} {n i : Nat} {ds ds' : List PV.D} {a : Addr} {vs' : List V} (p : Pre c H0 env σ G H n) (e : Ev c G0 H0 G H) (h : gt env i = .own ds) (ha : σ[i]? = some (some (.ref a))) (l : RepL c G vs' ds') :
    Pre c H0 (env.set i (.own ds')) σ G (upd H a (.lst vs')) n ∧ Ev c G0 H0 G (upd H a (.lst vs')) := by
  obtain ⟨a', ws, h1, h2, h3, h4, h5, h6⟩ := p.r.own i ds h
  rw [ha] at h1; cases h1
  exact ⟨⟨p.b.updD h3 h5, p.r.wr (vs := ws) h ha l⟩, e.updD h4⟩
theorem hfew_ok {e : Expr} {cpos : Pos} {env : PySem.Env} (hs : notStar e = true) : ((backTo cpos (starEach [e] env)).all (fun x => !x.1) && (backToKw cpos (keywordEach [] env)).all (fun x => x.1.isSome)
      && decide (([e] : List Expr).length + ([] : List Keyword).length + (if ([] : List Keyword).isEmpty then 0 else 1) < 30)) = true := by
  rw [star_one hs]; rfl
theorem pst_ap {i : Nat} {x : Str} {e : Expr} {r : PV.X} {p apos cpos pos : Pos} (hN : X.N[i]? = some x) (hv : Vis X.env.scope x) (hd : (x == ("__debug__" : Str)) = false) (hcd : (x == ("__classdict__" : Str)) = false) (he : PX X W C e r) (hs : notStar e = true) (hl : (apos.endLine == cpos.line) = true) :
    PS X (.Expr (.Call (.Attribute (.Name x p) "append" apos) [e] [] cpos) pos) (tS X.K W (evS C (.ap i r))) := by
  refine PSi (ps_expr (pe_bm PySem.F.plainAttrs_list PySem.F.slot_list_append PySem.F.type_list_append mt_append (pe_var hN hv hd hcd) (pa_cons he.pe pa_nil (star_one hs)) rfl (hfew_ok hs) hl (star_one hs) rfl)) fun D σ H h => ?_
  obtain ⟨c, H0, G0, G, env, n, k, rr, x, pre, e0, hf, hn, hr, hx⟩ := h
  simp only [evS] at hf
  obtain ⟨ds, hg, hf⟩ := hf
  obtain ⟨a, vs, h1, h2, h3, h4, h5, h6⟩ := pre.r.own i ds hg
  refine ⟨_, h1, .inl ⟨rfl, vs, .inl (.inl h2)⟩, c, H0, G, env, n, _, x, pre, hf, fun v d n' G' H' e b rp hk => ?_, xst e0 hx⟩
  have p1 := pre.ev e b
  obtain ⟨a', ws, q1, q2, q3, q4, q5, q6⟩ := p1.r.own i ds hg
  rw [h1] at q1; cases q1
  obtain ⟨w1, w2⟩ := p1.wr (e0.trans e) hg h1 (q6.append (.cons rp .nil))
  refine ⟨a, ws, v, rfl, rfl, q2, ?_, hn σ _ G' _ n' w1 w2 e.g hk.2⟩
  have := hk.1
  rw [q6.length]; unfold small at this; rw [sizeLine_eq]; omega
theorem pst_pp {i j : Nat} {x y : Str} {e : Expr} {r : PV.X} {p p2 apos apos2 cpos cpos2 pos : Pos} (hN : X.N[i]? = some x) (hv : Vis X.env.scope x) (hd : (x == ("__debug__" : Str)) = false) (hcd : (x == ("__classdict__" : Str)) = false)
    (hN2 : X.N[j]? = some y) (hv2 : Vis X.env.scope y) (hd2 : (y == ("__debug__" : Str)) = false) (hcd2 : (y == ("__classdict__" : Str)) = false) (he : PX X W C e r) (hs : notStar e = true) (hl : (apos.endLine == cpos.line) = true) (hl2 : (apos2.endLine == cpos2.line) = true) :
    PS X (.Expr (.Call (.Attribute (.Name x p) "append" apos) [.Call (.Attribute (.Name y p2) "pop" apos2) [e] [] cpos2] [] cpos) pos) (tS X.K W (evS C (.pp i j r))) := by
  refine PSi (ps_expr (pe_bm PySem.F.plainAttrs_list PySem.F.slot_list_append PySem.F.type_list_append mt_append (pe_var hN hv hd hcd)
    (pa_cons (pe_bm PySem.F.plainAttrs_list PySem.F.slot_list_pop PySem.F.type_list_pop mt_popAt (pe_var hN2 hv2 hd2 hcd2) (pa_cons he.pe pa_nil (star_one hs)) rfl (hfew_ok hs) hl2 (star_one hs) rfl) pa_nil) rfl rfl hl)) fun D σ H h => ?_
  obtain ⟨c, H0, G0, G, env, n, k, rr, x, pre, e0, hf, hn, hr, hx⟩ := h
  simp only [evS] at hf
  obtain ⟨ds, es, hg, hg2, hij, hf⟩ := hf
  obtain ⟨a, vs, h1, h2, h3, h4, h5, h6⟩ := pre.r.own i ds hg
  obtain ⟨a2, vs2, k1, k2, k3, k4, k5, k6⟩ := pre.r.own j es hg2
  have haa : a ≠ a2 := fun z => hij (pre.r.sep i j a ds es hg hg2 h1 (by rw [z]; exact k1))
  refine ⟨_, h1, .inl ⟨rfl, vs, .inl (.inl h2)⟩, _, k1, .inl ⟨rfl, vs2, .inl (.inl k2)⟩, c, H0, G, env, n, _, x, pre, hf, fun v d n' G' H' e b rp hk => ?_, xst e0 hx⟩
  cases d <;> first
    | exact (show False from hk).elim
    | skip
  rename_i z
  cases rp
  obtain ⟨hz, y, hy, hse, hsm, hk⟩ := hk
  have p1 := pre.ev e b
  obtain ⟨a', ws, q1, q2, q3, q4, q5, q6⟩ := p1.r.own j es hg2
  rw [k1] at q1; cases q1
  obtain ⟨w, hw, rw⟩ := q6.get hy
  obtain ⟨hlt, _⟩ := List.getElem?_eq_some_iff.mp hw
  have hsz : ws.length ≤ 1000000 := by rw [q6.length]; exact hse
  obtain ⟨u1, u2⟩ := p1.wr (e0.trans e) hg2 k1 (q6.eraseIdx z.toNat)
  refine ⟨a2, ws, z, z.toNat, w, rfl, rfl, q2, by omega, by omega, seqIndex_of hz (by omega), hw, ?_⟩
  have hg' : gt (env.set j (.own (es.eraseIdx z.toNat))) i = .own ds := by rw [gt_set (gt_lt hg2), if_neg hij]; exact hg
  obtain ⟨a', xs, q1, q2', q3', q4', q5', q6'⟩ := u1.r.own i ds hg'
  rw [h1] at q1; cases q1
  obtain ⟨u3, u4⟩ := u1.wr u2 hg' h1 (q6'.append (.cons rw .nil))
  refine ⟨a, xs, w, rfl, rfl, q2', ?_, hn σ _ G' _ n' u3 u4 e.g hk⟩
  rw [q6'.length]; unfold small at hsm; rw [sizeLine_eq]; omega
end
end PV
end
section
set_option Elab.async false
set_option linter.all false
set_option maxRecDepth 100000
set_option maxHeartbeats 4000000
namespace PV
open PySem PySem.Spec PyProof.Rows L2
section
variable {X : Cx} {W : WX} {C : Cal}
theorem pst_si {i : Nat} {x : Str} {a e : Expr} {ra r : PV.X} {p tpos pos : Pos} (hN : X.N[i]? = some x) (hv : Vis X.env.scope x) (hd : (x == ("__debug__" : Str)) = false) (hcd : (x == ("__classdict__" : Str)) = false) (ha : PX X W C a ra) (hpl : plainIx a = true) (he : PX X W C e r)
    (hs : swapsWithSole [.Subscript (.Name x p) a tpos] e pos.line X.env = pure false) (hw : swappedStores [.Subscript (.Name x p) a tpos] e X.env = pure none) :
    PS X (.Assign [.Subscript (.Name x p) a tpos] e pos) (tS X.K W (evS C (.si i ra r))) := by
  refine PSi (ps_asg he.pe (pg_sub (pe_var hN hv hd hcd) ha.pe set_list (by cases a <;> first | (intro _; rfl) | (simp [plainIx] at hpl))) hs hw rfl) fun D σ H h => ?_
  obtain ⟨c, H0, G0, G, env, n, k, rr, x, pre, e0, hf, hn, hr, hx⟩ := h
  simp only [evS] at hf
  obtain ⟨ds, hg, hf⟩ := hf
  refine ⟨c, H0, G, env, n, _, x, pre, hf, fun v d n1 G1 H1 e1 b1 r1 h1 => ?_, xst e0 hx⟩
  have p1 := pre.ev e1 b1
  obtain ⟨q, vs, q1, q2, q3, q4, q5, q6⟩ := p1.r.own i ds hg
  refine ⟨_, q1, c, H0, G1, env, n1, _, x, p1, h1, fun w dw n2 G2 H2 e2 b2 r2 h2 => ?_, xst (e0.trans e1) hx⟩
  cases dw <;> first
    | exact (show False from h2).elim
    | skip
  rename_i z
  cases r2
  obtain ⟨hz, hlt, hk⟩ := h2
  have p2 := p1.ev e2 b2
  obtain ⟨q', ws, u1, u2, u3, u4, u5, u6⟩ := p2.r.own i ds hg
  rw [q1] at u1; cases u1
  obtain ⟨w1, w2⟩ := p2.wr ((e0.trans e1).trans e2) hg q1 (RepL.set (r1.mono e2.g) z.toNat u6)
  have hl := u6.length
  refine ⟨q, ws, z, z.toNat, rfl, rfl, u2, ?_, hn σ _ G2 _ n2 w1 w2 (e1.g.trans e2.g) hk⟩
  unfold ixN
  rw [if_pos hz, if_pos (by omega)]
/-- the draws' list grows, is written -/
theorem Base.cellW {c : Addr} {G H : Hp} {n : Nat} {zs : List Int} (b : Base c G H n) : Base c G (upd H c (.lst (zs.map V.int))) zs.length :=
  ⟨fun a u ha => by rw [upd_ne (fun z => by rw [z, b.gc] at ha; cases ha)]; exact b.gh a u ha, b.gc, zs, upd_same, rfl⟩
theorem Ev.cellW {c : Addr} {G H G' H' : Hp} {o : HO} (e : Ev c G H G' H') : Ev c G H G' (upd H' c o) :=
  ⟨e.g, fun a u ha hc => by rw [upd_ne hc]; exact e.h a u ha hc, e.nw, e.nc⟩
theorem EnvR.cellW {c : Addr} {H0 G H : Hp} {env : Env} {σ : L2.St} {o : HO} (r : EnvR c H0 env σ G H) : EnvR c H0 env σ G (upd H c o) :=
  ⟨r.len, r.val, fun i ds hi => by
    obtain ⟨a, vs, h1, h2, h3, h4, h5, h6⟩ := r.own i ds hi
    exact ⟨a, vs, h1, by rw [upd_ne h5]; exact h2, h3, h4, h5, h6⟩, r.sep, fun i lk kvs hi => (r.dct i lk kvs hi).map (fun _ _ h => h) fun a kv h2 h3 h4 h5 => ⟨by rw [upd_ne h5]; exact h2, h3, h4⟩, r.sepd⟩
theorem pst_sta {i : Nat} {x : Str} {e : Expr} {r : PV.X} {p apos cpos pos : Pos} (hN : X.N[i]? = some x) (hv : Vis X.env.scope x) (hd : (x == ("__debug__" : Str)) = false) (hcd : (x == ("__classdict__" : Str)) = false) (he : PX X W C e r) (hs : notStar e = true) (hl : (apos.endLine == cpos.line) = true) :
    PS X (.Expr (.Call (.Attribute (.Name x p) "append" apos) [e] [] cpos) pos) (tS X.K W (evS C (.sta i r))) := by
  refine PSi (ps_expr (pe_bm PySem.F.plainAttrs_list PySem.F.slot_list_append PySem.F.type_list_append mt_append (pe_var hN hv hd hcd) (pa_cons he.pe pa_nil (star_one hs)) rfl (hfew_ok hs) hl (star_one hs) rfl)) fun D σ H h => ?_
  obtain ⟨c, H0, G0, G, env, n, k, rr, x, pre, e0, hf, hn, hr, hx⟩ := h
  simp only [evS] at hf
  obtain ⟨hst, hf⟩ := hf
  obtain ⟨v, h1, h2⟩ := pre.r.val i _ (isSt_ok hst)
  cases h2
  obtain ⟨ns0, h3, _⟩ := pre.b.cell
  refine ⟨_, h1, .inl ⟨rfl, _, .inl (.inl h3)⟩, c, H0, G, env, n, _, x, pre, hf, fun v d n' G' H' e b rp hk => ?_, xst e0 hx⟩
  cases d <;> first
    | exact (show False from hk).elim
    | skip
  rename_i z
  cases rp
  obtain ⟨hs', hk⟩ := hk
  obtain ⟨ns, h4, h5⟩ := b.cell
  have e1 : ns.map V.int ++ [V.int z] = (ns ++ [z]).map V.int := by simp
  have b2 := b.cellW (zs := ns ++ [z])
  rw [List.length_append, h5] at b2
  refine ⟨c, _, _, rfl, rfl, h4, ?_, ?_⟩
  · rw [List.length_map, h5, sizeLine_eq]; omega
  · rw [e1]
    exact hn σ env G' _ (n' + 1) ⟨b2, (pre.ev e b).r.cellW⟩ (e0.trans e).cellW e.g hk
theorem pst_sts {i : Nat} {x : Str} {e : Expr} {r : PV.X} {p p2 tpos pos : Pos} {j : Nat} (hN : X.N[i]? = some x) (hv : Vis X.env.scope x) (hd : (x == ("__debug__" : Str)) = false) (hcd : (x == ("__classdict__" : Str)) = false) (he : PX X W C e r)
    (hs : swapsWithSole [.Subscript (.Name x p) (.Constant (.int 0) j p2) tpos] e pos.line X.env = pure false) (hw : swappedStores [.Subscript (.Name x p) (.Constant (.int 0) j p2) tpos] e X.env = pure none) :
    PS X (.Assign [.Subscript (.Name x p) (.Constant (.int 0) j p2) tpos] e pos) (tS X.K W (evS C (.sts i r))) := by
  refine PSi (ps_asg he.pe (pg_sub (pe_var hN hv hd hcd) pe_int set_list) hs hw rfl) fun D σ H h => ?_
  obtain ⟨c, H0, G0, G, env, n, k, rr, x, pre, e0, hf, hn, hr, hx⟩ := h
  simp only [evS] at hf
  obtain ⟨hst, hf⟩ := hf
  refine ⟨c, H0, G, env, n, _, x, pre, hf, fun v d n' G' H' e b rp hk => ?_, xst e0 hx⟩
  cases d <;> first
    | exact (show False from hk).elim
    | skip
  rename_i z
  cases rp
  obtain ⟨hs', hk⟩ := hk
  obtain ⟨v, h1, h2⟩ := pre.r.val i _ (isSt_ok hst)
  cases h2
  obtain ⟨ns, h4, h5⟩ := b.cell
  have e1 : (ns.map V.int).set 0 (V.int z) = (ns.set 0 z).map V.int := by rw [List.map_set]
  have b2 := b.cellW (zs := ns.set 0 z)
  rw [List.length_set, h5] at b2
  refine ⟨_, h1, c, _, 0, 0, rfl, rfl, h4, ?_, ?_⟩
  · unfold ixN
    rw [List.length_map, if_pos (Int.le_refl 0), if_pos (by omega)]; rfl
  · rw [e1]
    exact hn σ env G' _ n' ⟨b2, (pre.ev e b).r.cellW⟩ (e0.trans e).cellW e.g hk
theorem pst_ex {e : Expr} {r : PV.X} {pos : Pos} (he : PX X W C e r) (hs : swapsWith e none pos.line X.env = pure false) : PS X (.Expr e pos) (tS X.K W (evS C (.ex r))) := PSi (ps_expr he.pe hs) fun D σ H h => by
  obtain ⟨c, H0, G0, G, env, n, k, rr, x, pre, e0, hf, hn, hr, hx⟩ := h
  simp only [evS] at hf
  exact ⟨c, H0, G, env, n, _, x, pre, hf, fun v d n' G' H' e b r hk => hn σ env G' H' n' (pre.ev e b) (e0.trans e) e.g hk, xst e0 hx⟩
theorem pst_fi {c : Expr} {a b : List Stmt} {rc : PV.X} {ra rb : SL} {pos : Pos} (hc : PX X W C c rc) (ha : PSs X a (tS X.K W (evB C ra))) (hb : PSs X b (tS X.K W (evB C rb))) : PS X (.If c a b pos) (tS X.K W (evS C (.fi rc ra rb))) := PSi (ps_if hc.pt ha hb) fun D σ H h => by
  obtain ⟨c, H0, G0, G, env, n, k, rr, x, pre, e0, hf, hn, hr, hx⟩ := h
  simp only [evS] at hf
  refine ⟨c, H0, G, env, n, _, x, pre, hf, fun p n' G' H' e b hk => ?_, xst e0 hx⟩
  have hk : (if p = true then evB C ra env n' k rr x else evB C rb env n' k rr x) := hk
  cases p with
  | true =>
    simp only [if_true] at hk ⊢
    exact ⟨c, H0, G0, G', env, n', k, rr, x, pre.ev e b, e0.trans e, hk, fun σ2 env2 G2 H2 n2 p2 e2 s2 hk2 => hn σ2 env2 G2 H2 n2 p2 e2 (e.g.trans s2) hk2, hr, hx⟩
  | false =>
    simp only [Bool.false_eq_true, if_false] at hk ⊢
    exact ⟨c, H0, G0, G', env, n', k, rr, x, pre.ev e b, e0.trans e, hk, fun σ2 env2 G2 H2 n2 p2 e2 s2 hk2 => hn σ2 env2 G2 H2 n2 p2 e2 (e.g.trans s2) hk2, hr, hx⟩
theorem pst_re {e : Expr} {r : PV.X} {pos : Pos} (he : PX X W C e r) : PS X (.Return (some e) pos) (tS X.K W (evS C (.re r))) := PSi (ps_ret he.pe) fun D σ H h => by
  obtain ⟨c, H0, G0, G, env, n, k, rr, x, pre, e0, hf, hn, hr, hx⟩ := h
  simp only [evS] at hf
  exact ⟨c, H0, G, env, n, _, x, pre, hf, fun v d n' G' H' e b r hk => hr v d n' G' H' (e0.trans e) b r hk, xst e0 hx⟩
theorem pst_reN {pos : Pos} : PS X (.Return none pos) (tS X.K W (evS C (.re .n))) := PSi ps_retN fun D σ H h => by
  obtain ⟨c, H0, G0, G, env, n, k, rr, x, pre, e0, hf, hn, hr, hx⟩ := h
  simp only [evS, evE, fin_f] at hf
  exact hr .non .non n G H e0 pre.b .non hf
theorem Pre.kill {c : Addr} {H0 G H : Hp} {env : Env} {σ : L2.St} {n : Nat} (p : Pre c H0 env σ G H n) (kl : List Nat) : Pre c H0 (killE env kl) σ G H n := ⟨p.b, p.r.kill kl rfl fun _ _ => rfl⟩
theorem pst_fo {tg iter : Expr} {body : List Stmt} {t : PV.TG} {it : IT} {kl : List Nat} {rb : SL} {pos : Pos} (hp : PassesOwn (model X.prog X.w) X.A X.env X.xe) (hc : X.calm = true) (hi : PI X tg iter (tXI X.K W (evI C it))) (hg : PG X tg (gD t)) (hb : PSs X body (tS X.K W (evB C rb)))
    (hs : ∀ x, foldedSetIterable iter X.env x = pure x) : PS X (.For tg iter body [] pos) (tS X.K W (evS C (.fo t it kl rb))) := PSi (ps_for hp hc hi hg hb hs) fun D σ H h => by
  obtain ⟨c, H0, G0, G, env, n, k, rr, x, pre, e0, hf, hn, hr, hx⟩ := h
  rw [evS_fo] at hf
  refine ⟨c, H0, G, env, n, _, x, pre, hf, fun J xs n1 G1 H1 e1 b1 w h1 => ?_, xst e0 hx⟩
  refine for_it w (fun i σ' H' => ∃ G' env' n', Pre c H0 env' σ' G' H' n' ∧ Ev c G0 H0 G' H' ∧ Same G1 G' ∧ Same G G' ∧ forGo (forF C t rb rr x) kl (xs.drop i) env' n' k) ?_ ?_ ?_ ?_
  · exact ⟨G1, env, n1, pre.ev e1 b1, e0.trans e1, fun _ _ h => h, e1.g, h1⟩
  · rintro i σ' H' hi ⟨G', env', n', p', e', s', _, _⟩
    exact s'.trans p'.b.gh
  · rintro i v σ' H' H'' hi ⟨G', env', n', p', e', s', s0, go⟩ y
    obtain ⟨G2, d, hx', e2, b2, rp⟩ := y G' n' p'.b s'
    rw [List.drop_eq_getElem_cons hi] at go
    have ed : xs[i] = d := by rw [List.getElem?_eq_getElem hi] at hx'; exact Option.some.inj hx'
    rw [ed] at go
    simp only [forGo] at go
    have go : opA (asg t d (killE env' kl)) fun env2 => evB C rb env2 n' (fun env' n' => forGo (forF C t rb rr x) kl (xs.drop (i + 1)) env' n' k) rr x := go
    obtain ⟨env2, ha, go⟩ := opA_iff.mp go
    have p2 := (p'.kill kl).ev e2 b2
    refine ⟨c, H0, G2, killE env' kl, d, env2, p2.r, b2.gh, rp, ha, fun σ2 rs ks ls => ?_⟩
    refine ⟨c, H0, G0, G2, env2, n', _, rr, x, ⟨b2, rs⟩, e'.trans e2, go, fun σ3 env3 G3 H3 n3 p3 e3 s3 hk => ⟨G3, env3, n3, p3, e3, (s'.trans e2.g).trans s3, (s0.trans e2.g).trans s3, hk⟩, hr, hx⟩
  · rintro σ' H' ⟨G', env', n', p', e', s', s0, go⟩
    rw [List.drop_length] at go
    simp only [forGo] at go
    exact hn σ' _ G' H' n' (p'.kill kl) e' s0 go
theorem pst_wh {cnd : Expr} {body : List Stmt} {rc : PV.X} {kl : List Nat} {rb : SL} {pos : Pos} (hp : PassesOwn (model X.prog X.w) X.A X.env X.xe) (hc : PX X W C cnd rc) (hb : PSs X body (tS X.K W (evB C rb))) : PS X (.While cnd body [] pos) (tS X.K W (evS C (.wh rc kl rb))) := PSi (ps_while hp hc.pt hb) fun D σ H h => by
  obtain ⟨c, H0, G0, G, env, n, k, rr, x, pre, e0, hf, hn, hr, hx⟩ := h
  rw [evS_wh] at hf
  obtain ⟨m, hf⟩ := hf
  refine ⟨fun m σ' H' => ∃ G' env' n', Pre c H0 env' σ' G' H' n' ∧ Ev c G0 H0 G' H' ∧ Same G G' ∧ whGo (whF C rc rb rr x) kl m env' n' k, ⟨m, G, env, n, pre, e0, fun _ _ h => h, hf⟩, ?_⟩
  rintro m σ' H' ⟨G', env', n', p', e', s0, go⟩
  cases m with
  | zero => exact (show False from go).elim
  | succ m =>
    have go : evE C rc true (killE env' kl) n' (kb fun p n2 => if p = true then evB C rb (killE env' kl) n2 (fun env' n' => whGo (whF C rc rb rr x) kl m env' n' k) rr x else k (killE (killE env' kl) kl) n2) x := go
    refine ⟨c, H0, G', killE env' kl, n', _, x, p'.kill kl, go, fun p n2 G2 H2 e2 b2 hk => ?_, xst e' hx⟩
    have hk : (if p = true then evB C rb (killE env' kl) n2 (fun env' n' => whGo (whF C rc rb rr x) kl m env' n' k) rr x else k (killE (killE env' kl) kl) n2) := hk
    have p2 := (p'.kill kl).ev e2 b2
    cases p with
    | true =>
      simp only [if_true] at hk ⊢
      refine ⟨fun σ' H' => ∃ G' env' n', Pre c H0 env' σ' G' H' n' ∧ Ev c G0 H0 G' H' ∧ Same G G' ∧ whGo (whF C rc rb rr x) kl m env' n' k, fun σ3 H3 q => ⟨m, Nat.lt_succ_self m, q⟩, ?_⟩
      exact ⟨c, H0, G0, G2, _, n2, _, rr, x, p2, e'.trans e2, hk, fun σ3 env3 G3 H3 n3 p3 e3 s3 hk3 => ⟨G3, env3, n3, p3, e3, (s0.trans e2.g).trans s3, hk3⟩, hr, hx⟩
    | false =>
      simp only [Bool.false_eq_true, if_false] at hk ⊢
      exact hn σ' _ G2 H2 n2 (p2.kill kl) (e'.trans e2) (s0.trans e2.g) hk

/-! ### exceptions -/
structure ExcAt (K : PySem.W.Frag) (mg : Str → Option Value) (x : Str) : Prop where
  mg : mg x = some (.ref (He.ga K x))
  q : PySem.W.excIn K (He.ga K x) He.veBase "ValueError.__new__" = true
  kp : PySem.W.keepIn K (.ref (He.ga K x)) = true
  sb : PySem.W.subIn K (.ref (He.ga K x)) (.type "BaseException") = some true
  ty : PySem.W.typeIn K (.ref (He.ga K x)) = some (.type "type")
/-- X() -/
theorem pmk_own0 {x : Str} {C : Addr} {bmB : List Value} {B newId initId : String} {p pos : Pos} (F : ExcBaseFacts B newId initId bmB) (q : PySem.W.excIn X.K C bmB newId = true) (gC : X.mg x = some (.ref C)) (kC : PySem.W.keepIn X.K (.ref C) = true) (r : Raises X (.ref C)) (hg : Gl X x)
    (hdb : (x == ("__debug__" : Str)) = false) : PMk X (.Call (.Name x p) [] [] pos) (fun _ H Q => Q (.ref C) none H) := by
  intro pins s σ H Q I h
  refine wpAny_Call_Name_kw (ld_glob I hg gC ?_ hdb)
  refine PySem.W.callWith_K0 I.kIn kC ?_
  obtain ⟨bm, N, nm, qn, bs, hdct, sn, sub, ab, col, dd, k0, k1, k2, k3, k5, mN, hC, hN, hni, T⟩ := exc_obj I.kIn q
  refine wpAny_call_exc_subT F T hC hN hni (fun h' e hm => ?_) (by show 0 ≤ sizeLine; rw [sizeLine_eq]; omega)
  exact mk_of I hm r h (I.hok.gone hm.new)
theorem pst_ra {x : Str} {p pos cpos : Pos} (hc : X.calm = true) (tk : Takes X W) (E : ExcAt X.K X.mg x) (hg : Gl X x) (hdb : (x == ("__debug__" : Str)) = false) : PS X (.Raise (some (.Call (.Name x p) [] [] cpos)) none pos) (tS X.K W (evS C (.ra x))) :=
  PSi (ps_raise hc tk (pmk_own0 PySem.F.excBase_ValueError E.q E.mg E.kp (raises_own E.sb E.ty) hg hdb)) fun D σ H h => by
  obtain ⟨c, H0, G0, G, env, n, k, rr, x, pre, e0, hf, hn, hr, hx⟩ := h
  simp only [evS] at hf
  exact hx _ n σ G H e0 pre.b hf
/-- try: return e, except X: return 'X' .. -/
def hdsL (K : PySem.W.Frag) (hs : List Str) : List (Value × (Addr → Value → Option Addr → TS)) := hs.map fun x => (.ref (He.ga K x), fun _ _ _ => tRet (tC (.str x)))
theorem pst_ty {e : Expr} {r : PV.X} {h₀ : ExceptHandler} {hds : List ExceptHandler} {hs : List Str} {pos rpos : Pos} (hst : X.stack = X.env :: X.outer) (hfr : X.env.frame = some X.env.locals) (tk : Takes X W)
    (he : ∀ (W' : WX) (pn : List (Addr × Obj)) (xe : Value → Shared → Prop), Takes (X.tr pn xe) W' → PX (X.tr pn xe) W' C e r) (hh : HdsOk X (h₀ :: hds) (hdsL X.K hs)) (hm : ∀ a ∈ hs, ∀ b ∈ hs, PySem.W.exmOne X.K (.ref (He.ga X.K a)) (.ref (He.ga X.K b)) = some (decide (a = b))) :
    PS X (.Try [.Return (some e) rpos] (h₀ :: hds) [] [] pos) (tS X.K W (evS C (.ty r hs))) := by
  refine PSi (ps_try_many (tb := fun W' => tRet (tX X.K W' (evE C r false))) hst hfr tk (fun W' pn xe tk' _ => pss_one (ps_ret (he W' pn xe tk').pe)) hh) fun D σ H h => ?_
  obtain ⟨c, H0, G0, G, env, n, k, rr, x, pre, e0, hf, hn, hr, hx⟩ := h
  simp only [evS] at hf
  refine ⟨c, H0, G, env, n, _, _, pre, hf, fun v d n' G' H' e b r hk => hr v d n' G' H' (e0.trans e) b r hk, fun nm n' G' H' e b hk => ?_⟩
  obtain ⟨hmem, hk⟩ := hk
  -- the clauses, one after the other
  have go : ∀ l : List Str, (∀ a ∈ l, a ∈ hs) → nm ∈ l → wMany X.K W D (hdsL X.K l) (.ref (He.ga X.K nm)) none σ H' := by
    intro l
    induction l with
    | nil => intro _ h; cases h
    | cons a l ih =>
      intro hl hn'
      refine ⟨_, hm nm hmem a (hl a List.mem_cons_self), fun q _ _ => ?_, fun q => ?_⟩
      · have : nm = a := of_decide_eq_true q
        subst this
        exact hr (.str nm) (.str nm) n' G' H' (e0.trans e) b (.str nm) hk
      · have : nm ≠ a := of_decide_eq_false q
        exact ih (fun b hb => hl b (List.mem_cons_of_mem _ hb)) ((List.mem_cons.mp hn').resolve_left this)
  exact go hs (fun _ h => h) hmem
end
end PV
end
section
set_option Elab.async false
set_option linter.all false
set_option maxRecDepth 100000
set_option maxHeartbeats 4000000
namespace PV
open PySem PySem.Spec PyProof.Rows L2
/-! ### statements on dicts of one's own -/
section
variable {c : Addr} {H0 G0 G H : Hp} {env : Env} {σ : L2.St} {n : Nat}
theorem gt_ltD {env : Env} {i : Nat} {lk : Bool} {kvs : List (List Int × PV.D)} (h : gt env i = .dct lk kvs) : i < env.length := by
  by_cases q : i < env.length
  · exact q
  · unfold gt at h; rw [List.getD_eq_getElem?_getD, List.getElem?_eq_none (Nat.le_of_not_lt q)] at h; cases h
/-- a new one -/
theorem EnvR.setD {i : Nat} {a : Addr} (r : EnvR c H0 env σ G H) (hi : i < env.length) (ha : H a = none) (hg : G a = none) (h0 : H0 a = none) (hc : a ≠ c) : EnvR c H0 (env.set i (.dct false [])) (σ.set i (some (.ref a))) G (upd H a (.dT [])) := by
  have hiσ : i < σ.length := by rw [← r.len]; exact hi
  have old : ∀ j lk kvs, gt env j = .dct lk kvs → (lk = false → σ[j]? ≠ some (some (.ref a))) := fun j lk kvs hj hl z => by
    subst hl
    obtain ⟨b, kv, q1, ⟨q2, _⟩, _⟩ := r.dct j false kvs hj
    rw [z] at q1; cases q1
    rw [ha] at q2; cases q2
  have old2 : ∀ j lk kvs, gt env j = .dct lk kvs → ∀ b, σ[j]? = some (some (.ref b)) → (H b = some (.dT []) → True) := fun _ _ _ _ _ _ _ => trivial
  refine ⟨by simp [r.len], fun j e hj => ?_, fun j es hj => ?_, fun j k b ds' es h1 h2 h3 h4 => ?_, fun j lk kvs hj => ?_, fun j k b lk lk' kvs kvs' h1 h2 h3 h4 => ?_⟩
  · rw [gt_set hi] at hj
    by_cases z : j = i
    · subst z; rw [if_pos rfl] at hj; cases hj
    · rw [if_neg z] at hj; rw [List.getElem?_set_ne (Ne.symm z)]; exact r.val j e hj
  · rw [gt_set hi] at hj
    by_cases z : j = i
    · subst z; rw [if_pos rfl] at hj; cases hj
    · rw [if_neg z] at hj; rw [List.getElem?_set_ne (Ne.symm z)]
      obtain ⟨b, vs, q1, q2, q3⟩ := r.own j es hj
      exact ⟨b, vs, q1, by rw [upd_ne (fun e => by rw [e, ha] at q2; cases q2)]; exact q2, q3⟩
  · rw [gt_set hi] at h1 h2
    by_cases z : j = i
    · subst z; rw [if_pos rfl] at h1; cases h1
    · by_cases z2 : k = i
      · subst z2; rw [if_pos rfl] at h2; cases h2
      · rw [if_neg z] at h1; rw [if_neg z2] at h2
        rw [List.getElem?_set_ne (Ne.symm z)] at h3; rw [List.getElem?_set_ne (Ne.symm z2)] at h4
        exact r.sep j k b ds' es h1 h2 h3 h4
  · rw [gt_set hi] at hj
    by_cases z : j = i
    · subst z; rw [if_pos rfl] at hj; cases hj
      exact ⟨a, [], List.getElem?_set_self hiσ, ⟨upd_same, hg, h0, hc⟩, .nil⟩
    · rw [if_neg z] at hj
      exact DctR.at ((r.dct j lk kvs hj).map (fun _ _ h => h) fun b kv q1 q2 q3 q4 => ⟨by rw [upd_ne (fun e => by rw [e, ha] at q1; cases q1)]; exact q1, q2, q3⟩) z
  · rw [gt_set hi] at h1 h2
    have key : ∀ j lk kvs, gt env j = .dct lk kvs → σ[j]? ≠ some (some (.ref a)) := fun j lk kvs hj z => by
      obtain ⟨b, kv, q1, q2, _⟩ := r.dct j lk kvs hj
      rw [z] at q1; cases q1
      cases lk with
      | false => obtain ⟨q2, _⟩ := q2; rw [ha] at q2; cases q2
      | true => obtain ⟨o, q2⟩ := q2; rw [hg] at q2; cases q2
    by_cases z : j = i
    · by_cases z2 : k = i
      · rw [z, z2]
      · subst z
        rw [if_neg z2] at h2
        rw [List.getElem?_set_self hiσ] at h3
        rw [List.getElem?_set_ne (Ne.symm z2)] at h4
        cases h3
        exact absurd h4 (key k _ _ h2)
    · by_cases z2 : k = i
      · subst z2
        rw [if_neg z] at h1
        rw [List.getElem?_set_self hiσ] at h4
        rw [List.getElem?_set_ne (Ne.symm z)] at h3
        cases h4
        exact absurd h3 (key j _ _ h1)
      · rw [if_neg z] at h1; rw [if_neg z2] at h2
        rw [List.getElem?_set_ne (Ne.symm z)] at h3; rw [List.getElem?_set_ne (Ne.symm z2)] at h4
        exact r.sepd j k b lk lk' kvs kvs' h1 h2 h3 h4
/-- the open dict in slot i is written, or locked: its cell is u in H', and (locked) in G' -/
theorem EnvR.wrD {i : Nat} {a : Addr} {kv kv' : List (List L2.Key × V)} {kvs kvs' : List (List Int × PV.D)} {lk : Bool} {G' : Hp} {u : HO} (r : EnvR c H0 env σ G H) (h : gt env i = .dct false kvs) (h1 : σ[i]? = some (some (.ref a))) (h2 : H a = some (.dT kv)) (h3 : G a = none)
    (sm : Same G G') (hG : ∀ b, b ≠ a → G' b = G b) (hn : HasD c H0 G' (upd H a u) a lk kv') (hr : RepK c G' kv' kvs') : EnvR c H0 (env.set i (.dct lk kvs')) σ G' (upd H a u) := by
  have hi := gt_ltD h
  refine ⟨by rw [List.length_set]; exact r.len, fun j e hj => ?_, fun j es hj => ?_, fun j k b ds' es q1 q2 q3 q4 => ?_, fun j lk2 kvs2 hj => ?_, fun j k b lk1 lk2 k1 k2 q1 q2 q3 q4 => ?_⟩
  · rw [gt_set hi] at hj
    by_cases z : j = i
    · rw [if_pos z] at hj; cases hj
    · rw [if_neg z] at hj
      obtain ⟨v, e1, e2⟩ := r.val j e hj
      exact ⟨v, e1, e2.mono sm⟩
  · rw [gt_set hi] at hj
    by_cases z : j = i
    · rw [if_pos z] at hj; cases hj
    · rw [if_neg z] at hj
      obtain ⟨b, vs, e1, e2, e3, e4, e5, e6⟩ := r.own j es hj
      have hb : b ≠ a := fun e => by rw [e, h2] at e2; cases e2
      exact ⟨b, vs, e1, by rw [upd_ne hb]; exact e2, by rw [hG b hb]; exact e3, e4, e5, e6.mono sm⟩
  · rw [gt_set hi] at q1 q2
    by_cases z : j = i
    · rw [if_pos z] at q1; cases q1
    · by_cases z2 : k = i
      · rw [if_pos z2] at q2; cases q2
      · rw [if_neg z] at q1; rw [if_neg z2] at q2
        exact r.sep j k b ds' es q1 q2 q3 q4
  · rw [gt_set hi] at hj
    by_cases z : j = i
    · rw [if_pos z] at hj; cases hj
      exact ⟨a, kv', by rw [z]; exact h1, hn, hr⟩
    · rw [if_neg z] at hj
      obtain ⟨b, kv2, e1, e2, e3⟩ := r.dct j lk2 kvs2 hj
      have hb : b ≠ a := fun e => z (r.sepd j i b lk2 false kvs2 kvs hj h e1 (by rw [e]; exact h1))
      refine ⟨b, kv2, e1, ?_, e3.mono sm⟩
      cases lk2 with
      | false =>
        obtain ⟨p1, p2, p3, p4⟩ := e2
        exact ⟨by rw [upd_ne hb]; exact p1, by rw [hG b hb]; exact p2, p3, p4⟩
      | true => obtain ⟨o, p⟩ := e2; exact ⟨o, sm _ _ p⟩
  · have g' : ∀ {j lk2 k2}, gt (env.set i (.dct lk kvs')) j = .dct lk2 k2 → ∃ lk3 k3, gt env j = .dct lk3 k3 := fun {j lk2 k2} q => by
      rw [gt_set hi] at q
      by_cases z : j = i
      · exact ⟨false, kvs, by rw [z]; exact h⟩
      · rw [if_neg z] at q; exact ⟨_, _, q⟩
    obtain ⟨_, _, q1⟩ := g' q1
    obtain ⟨_, _, q2⟩ := g' q2
    exact r.sepd j k b _ _ _ _ q1 q2 q3 q4
theorem Base.lockD {a : Addr} {u : HO} (b : Base c G H n) (hg : G a = none) (hc : a ≠ c) : Base c (upd G a u) (upd H a u) n := by
  obtain ⟨ns, h1, h2⟩ := b.cell
  refine ⟨fun x w hx => ?_, by rw [upd_ne (Ne.symm hc)]; exact b.gc, ns, by rw [upd_ne (Ne.symm hc)]; exact h1, h2⟩
  by_cases e : x = a
  · subst e; rw [upd_same] at hx ⊢; exact hx
  · rw [upd_ne e] at hx ⊢; exact b.gh x w hx
theorem sameU {a : Addr} {u : HO} (hg : G a = none) : Same G (upd G a u) := fun x w hx => by rw [upd_ne (fun z => by rw [z, hg] at hx; cases hx)]; exact hx
theorem Ev.lockD {a : Addr} {u : HO} (e : Ev c G0 H0 G H) (hg : G a = none) (h0 : H0 a = none) (hc : a ≠ c) : Ev c G0 H0 (upd G a u) (upd H a u) :=
  ⟨e.g.trans (sameU hg), fun x w hx hxc => by rw [upd_ne (fun z => by rw [z, h0] at hx; cases hx)]; exact e.h x w hx hxc, fun x w hx => by
    by_cases z : x = a
    · rw [z]; exact .inr (.inl h0)
    · rw [upd_ne z] at hx; exact e.nw x w hx, by rw [upd_ne (Ne.symm hc)]; exact e.nc⟩
end
section
variable {X : Cx} {W : WX} {C : Cal}
theorem pst_lk {rest : List Stmt} {i : Nat} {ss : SL} (h : PSs X rest (tS X.K W (evB C ss))) : PSs X rest (tS X.K W (evB C (.cons (.lk i) ss))) := by
  refine ⟨fun pins s σ H D I q => ?_⟩
  obtain ⟨c, H0, G0, G, env, n, k, r, x, pre, e0, hf, hn, hr, hx⟩ := q
  simp only [evB, evS] at hf
  obtain ⟨kvs, hg, hf⟩ := hf
  obtain ⟨a, kv, h1, ⟨h2, h3, h4, h5⟩, h6⟩ := pre.r.dct i false kvs hg
  obtain ⟨od, I'⟩ := I.lock h2 trivial
  have sm : Same G (upd G a (.frz od (.dT kv))) := sameU h3
  have pre' : Pre c H0 (env.set i (.dct true kvs)) σ (upd G a (.frz od (.dT kv))) (upd H a (.frz od (.dT kv))) n :=
    ⟨pre.b.lockD h3 h5, pre.r.wrD hg h1 h2 h3 sm (fun b hb => upd_ne hb) ⟨od, upd_same⟩ (h6.mono sm)⟩
  exact h.run pins s σ _ D I' ⟨c, H0, G0, _, _, n, k, r, x, pre', e0.lockD h3 h4 h5, hf, fun σ2 env2 G2 H2 n2 p2 e2 s2 hk2 => hn σ2 env2 G2 H2 n2 p2 e2 (sm.trans s2) hk2, hr, hx⟩
theorem pst_dn {i : Nat} {x : Str} {p dp pos : Pos} (hp : PS X (.Assign [.Name x p] (.Dict [] [] dp) pos) (tAsg tDNewT (gName i))) : PS X (.Assign [.Name x p] (.Dict [] [] dp) pos) (tS X.K W (evS C (.dn i))) := PSi hp fun D σ H h => by
  obtain ⟨c, H0, G0, G, env, n, k, rr, x, pre, e0, hf, hn, hr, hx⟩ := h
  simp only [evS] at hf
  intro p hp
  have hc : p ≠ c := fun z => by
    obtain ⟨ns, h1, _⟩ := pre.b.cell
    rw [z, h1] at hp; cases hp
  have hg := pre.b.gp hp
  have h0 : H0 p = none := e0.back hp hc
  exact hn _ _ G _ n ⟨pre.b.updD hg hc, pre.r.setD hf.1 hp hg h0 hc⟩ (e0.updD h0) (fun _ _ h => h) hf.2
theorem pst_ds {i : Nat} {x : Str} {p pos' pos : Pos} {a e : Expr} {ra re : PV.X} (hu : X.A.units + 300 < cLine) (hN : X.N[i]? = some x) (hv : Vis X.env.scope x) (hd : (x == ("__debug__" : Str)) = false) (hcd : (x == ("__classdict__" : Str)) = false) (ha : PX X W C a ra) (he : PX X W C e re) (hs : swapsWith e (some (.Subscript (.Name x p) a pos')) pos.line X.env = pure false) :
    PS X (.Assign [.Subscript (.Name x p) a pos'] e pos) (tS X.K W (evS C (.ds i ra re))) := by
  refine PSi (ps_dput (by omega) (pe_var hN hv hd hcd) ha.pe he.pe hs) fun D σ H h => ?_
  obtain ⟨c, H0, G0, G, env, n, k, rr, x, pre, e0, hf, hn, hr, hx⟩ := h
  simp only [evS] at hf
  obtain ⟨kvs, hg, hf⟩ := hf
  refine ⟨c, H0, G, env, n, _, x, pre, hf, fun v d n1 G1 H1 e1 b1 r1 m => ?_, xst e0 hx⟩
  obtain ⟨a0, kv, h1, h2, h3⟩ := (pre.r.ev e1).dct i false kvs hg
  refine ⟨.ref a0, h1, c, H0, G1, env, n1, _, x, pre.ev e1 b1, m, fun y dy n2 G2 H2 e2 b2 r2 m2 => ?_, xst (e0.trans e1) hx⟩
  obtain ⟨s, hk, hsm, m2⟩ := m2
  obtain ⟨a', kv', q1, ⟨q2, q3, q4, q5⟩, q6⟩ := ((pre.r.ev e1).ev e2).dct i false kvs hg
  rw [h1] at q1; cases q1
  obtain ⟨b', rfl, hb'⟩ := key_rep r2 hk
  have hl : kv'.length < sizeLine := by rw [repK_len q6, sizeLine_eq]; unfold small at hsm; omega
  refine ⟨a0, _, rfl, DPut.t (k := s.map Sum.inl) q2 (by rw [kV_inl]; exact b2.gh _ _ hb') hl, ?_⟩
  have rv := repK_put (s := s) q6 (r1.mono e2.g)
  exact hn σ _ G2 _ n2 ⟨b2.updD q3 q5, ((pre.r.ev e1).ev e2).wrD (lk := false) hg h1 q2 q3 (fun _ _ h => h) (fun _ _ => rfl) ⟨upd_same, q3, q4, q5⟩ rv⟩ (((e0.trans e1).trans e2).updD q4) (e1.g.trans e2.g) m2
end
/-! ### x = dict(pairs) -/
section
variable {c : Addr} {H0 G0 G H : Hp} {env : PV.Env} {σ : L2.St}
theorem EnvR.setDk {G' H' : Hp} {i : Nat} {p : Addr} {kv : List (List L2.Key × V)} {kvs : List (List Int × PV.D)} (r0 : EnvR c H0 env σ G H) (gh : Same G H) (r : EnvR c H0 env σ G' H') (hi : i < env.length) (hp : H p = none) (hp' : H' p = some (.dT kv)) (hg : G' p = none) (h0 : H0 p = none) (hc : p ≠ c) (hk : RepK c G' kv kvs) :
    EnvR c H0 (env.set i (.dct false kvs)) (σ.set i (some (.ref p))) G' H' := by
  have hiσ : i < σ.length := by rw [← r.len]; exact hi
  have key : ∀ j lk kvs, gt env j = .dct lk kvs → σ[j]? ≠ some (some (.ref p)) := fun j lk kvs hj z => by
    obtain ⟨b, kv, q1, q2, _⟩ := r0.dct j lk kvs hj
    rw [z] at q1; cases q1
    cases lk with
    | false => obtain ⟨q2, _⟩ := q2; rw [hp] at q2; cases q2
    | true => obtain ⟨o, q2⟩ := q2; rw [gh _ _ q2] at hp; cases hp
  refine ⟨by simp [r.len], fun j e hj => ?_, fun j es hj => ?_, fun j k b ds' es h1 h2 h3 h4 => ?_, fun j lk kvs' hj => ?_, fun j k b lk lk' k1 k2 h1 h2 h3 h4 => ?_⟩
  · rw [gt_set hi] at hj
    by_cases z : j = i
    · subst z; rw [if_pos rfl] at hj; cases hj
    · rw [if_neg z] at hj; rw [List.getElem?_set_ne (Ne.symm z)]; exact r.val j e hj
  · rw [gt_set hi] at hj
    by_cases z : j = i
    · subst z; rw [if_pos rfl] at hj; cases hj
    · rw [if_neg z] at hj; rw [List.getElem?_set_ne (Ne.symm z)]; exact r.own j es hj
  · rw [gt_set hi] at h1 h2
    by_cases z : j = i
    · subst z; rw [if_pos rfl] at h1; cases h1
    · by_cases z2 : k = i
      · subst z2; rw [if_pos rfl] at h2; cases h2
      · rw [if_neg z] at h1; rw [if_neg z2] at h2
        rw [List.getElem?_set_ne (Ne.symm z)] at h3; rw [List.getElem?_set_ne (Ne.symm z2)] at h4
        exact r.sep j k b ds' es h1 h2 h3 h4
  · rw [gt_set hi] at hj
    by_cases z : j = i
    · subst z; rw [if_pos rfl] at hj; cases hj
      exact ⟨p, kv, List.getElem?_set_self hiσ, ⟨hp', hg, h0, hc⟩, hk⟩
    · rw [if_neg z] at hj
      exact DctR.at (r.dct j lk kvs' hj) z
  · rw [gt_set hi] at h1 h2
    by_cases z : j = i
    · by_cases z2 : k = i
      · rw [z, z2]
      · subst z
        rw [if_neg z2] at h2
        rw [List.getElem?_set_self hiσ] at h3
        rw [List.getElem?_set_ne (Ne.symm z2)] at h4
        cases h3
        exact absurd h4 (key k _ _ h2)
    · by_cases z2 : k = i
      · subst z2
        rw [if_neg z] at h1
        rw [List.getElem?_set_self hiσ] at h4
        rw [List.getElem?_set_ne (Ne.symm z)] at h3
        cases h4
        exact absurd h3 (key j _ _ h1)
      · rw [if_neg z] at h1; rw [if_neg z2] at h2
        rw [List.getElem?_set_ne (Ne.symm z)] at h3; rw [List.getElem?_set_ne (Ne.symm z2)] at h4
        exact r.sepd j k b lk lk' k1 k2 h1 h2 h3 h4
end
section
variable {X : Cx} {W : WX} {C : Cal}
theorem pst_da {i : Nat} {x : Str} {e : Expr} {ra : PV.X} {p pos : Pos} (hp : PS X (.Assign [.Name x p] e pos) (tAsg (tDictX X.K W C ra) (gName i))) : PS X (.Assign [.Name x p] e pos) (tS X.K W (evS C (.da i ra))) := PSi hp fun D σ H h => by
  obtain ⟨c, H0, G0, G, env, n, k, rr, x, pre, e0, hf, hn, hr, hx⟩ := h
  simp only [evS] at hf
  refine ⟨c, H0, G, env, n, _, x, pre, hf, fun q kv kvs n1 G1 H1 e1 b1 h1 h2 h3 h4 h5 m => ?_, xst e0 hx⟩
  exact hn _ _ G1 H1 n1 ⟨b1, pre.r.setDk pre.b.gh (pre.ev e1 b1).r m.1 h3 h1 h2 (e0.back h3 h4) h4 h5⟩ (e0.trans e1) e1.g m.2
end
end PV
end
section
set_option Elab.async false
set_option linter.all false
set_option maxRecDepth 100000
set_option maxHeartbeats 8000000
namespace PV
open PySem PySem.Spec PyProof.Rows L2
/-! ### statements against a row's text -/
/-- the order of the stores of a written tuple: none where the model gives none -/
def swC (sc : Scope) (ts vs : List Expr) : Option (Option (List Str)) :=
  if !(ts.length == 2 || ts.length == 3) || vs.length != ts.length then some none
  else if (vs.any fun | .Starred .. => true | _ => false) then some none
  else
    let line := (ts.head?.map (·.pos.line)).getD 0
    let names := ts.filterMap fun
      | .Name id pos => if sc.names.lookup id == some .local && pos.line == line then some id else none
      | _ => none
    if names.length != ts.length || names.eraseDups.length != names.length then some none
    else if vs.all (foldedForSure 8) then some none
    else if vs.all (constantsAlone 8) then none
    else some (some names)
theorem swC_ok {sc : Scope} {ts vs : List Expr} {r : Option (List Str)} {env : PySem.Env} {k k2 : Nat} {p p2 : Pos} (h : swC sc ts vs = some r) (hs : env.scope = sc) (hk : sc.kind = .function) : swappedStores [.Tuple ts k p] (.Tuple vs k2 p2) env = pure r := by
  have hb : env.blockKind = .function := by unfold Env.blockKind; rw [hs, hk]; rfl
  have hl : ∀ id, env.kindOf id = sc.names.lookup id := fun id => by rw [← hs]; rfl
  unfold swappedStores
  unfold swC at h
  simp only [hb, bne_self_eq_false, Bool.or_false, hl]
  split at h
  · cases h; rw [if_pos (by assumption)]
  · rw [if_neg (by assumption)]
    split at h
    · cases h; rw [if_pos (by assumption)]
    · rw [if_neg (by assumption)]
      simp only [pure_bind] at h ⊢
      split at h
      · cases h; rw [if_pos (by assumption)]
      · rw [if_neg (by assumption)]
        split at h
        · cases h; rw [if_pos (by assumption)]
        · rw [if_neg (by assumption)]
          split at h
          · cases h
          · cases h; rw [if_neg (by assumption)]; rfl
def isComp : Expr → Bool
  | .ListComp .. => true
  | .SetComp .. => true
  | .DictComp .. => true
  | _ => false
/-- a list made anew is swapped with the name -/
def swB (S : Sc) (y : Str) (py : Pos) (scope : Scope) (pos : Pos) : Bool := S.sc.names.lookup y == some .local && py.line == pos.line && !(scope.names.any fun (n, k) => n == y && (k == .local || k == .cell))
theorem swB_ok {S : Sc} {y : Str} {py : Pos} {scope : Scope} {pos : Pos} {elt : Expr} {gs : List Comprehension} {l : Nat} {env : PySem.Env} (hs : env.scope = S.sc) (hk : S.sc.kind = .function) : swapsWith (.ListComp elt gs scope pos) (some (.Name y py)) l env = pure (swB S y py scope pos) := by
  have hb : env.blockKind = .function := by unfold Env.blockKind; rw [hs, hk]; rfl
  have hl : env.kindOf y = S.sc.names.lookup y := by rw [← hs]; rfl
  unfold swapsWith swB
  simp only [hb, hl, Expr.pos]
  rfl
theorem sw_plain {e : Expr} {t : Option Expr} {l : Nat} {env : PySem.Env} (h : isComp e = false) : swapsWith e t l env = pure false := by
  cases e <;> first
    | rfl
    | (simp [isComp] at h)
structure CS (R : RowT) (l : Nat) (C : Cal) (X : Cx) (W : WX) (S : Sc) : Prop where
  g : CG R l C X W S
  own : PassesOwn (model X.prog X.w) X.A X.env X.xe
  stk : X.stack = X.env :: X.outer
  fr : X.env.frame = some X.env.locals
  fun_ : S.sc.kind = .function
  exc : ∀ x ∈ R.exc, ExcAt X.K X.mg x
  exm : ∀ a ∈ R.exc, ∀ b ∈ R.exc, PySem.W.exmOne X.K (.ref (He.ga X.K a)) (.ref (He.ga X.K b)) = some (decide (a = b))
def isLoc (S : Sc) (x : Str) : Bool := S.sc.names.lookup x == some .local
/-- a value, or a new list -/
def mXo (R : RowT) (S : Sc) (o : Bool) (r : PV.X) (e : Expr) : Bool := mX R S r e && (!o || (match r with
  | .ls _ => true
  | .lc .. => true
  | .bc .list _ => true
  | _ => false))
def isAdd : PV.X → Bool
  | .bi .add _ _ => true
  | .bi .mul _ _ => true
  | _ => false
def mHds : List Str → List ExceptHandler → Bool
  | [], [] => true
  | h :: hs, .ExceptHandler (some (.Name x _)) none [.Return (some (.Constant (.str z) _ _)) _] _ :: r => eqS x h && eqS z h && mHds hs r
  | _, _ => false
def isLC : Expr → Bool
  | .ListComp .. => true
  | _ => false
def nmSide (e : Expr) : Bool := isLC e || !isComp e
def tpSide (sc : Scope) (ts : List Expr) (e : Expr) : Bool := match e with
  | .Tuple vs _ _ => (match swC sc ts vs with
    | some none => true
    | _ => false)
  | e => !isComp e
theorem tpSide_ok {sc : Scope} {ts : List Expr} {e : Expr} {env : PySem.Env} {k : Nat} {p : Pos} (h : tpSide sc ts e = true) (hs : env.scope = sc) (hk : sc.kind = .function) : swappedStores [.Tuple ts k p] e env = pure none ∧ isComp e = false := by
  cases e with
  | Tuple vs k2 p2 =>
    unfold tpSide at h
    simp only at h
    split at h
    · rename_i hsw
      exact ⟨swC_ok hsw hs hk, rfl⟩
    · cases h
  | _ => exact ⟨rfl, by simpa [tpSide] using h⟩
theorem isLC_ok {e : Expr} (h : isLC e = true) : ∃ elt gs sc p, e = .ListComp elt gs sc p := by
  cases e <;> simp [isLC] at h
  exact ⟨_, _, _, _, rfl⟩
def mAs (R : RowT) (S : Sc) (t : PV.TG) (r : PV.X) (tg e : Expr) : Bool := mT S t tg && mX R S r e && (match tg with
  | .Name _ _ => nmSide e
  | .Tuple ts _ _ => tpSide S.sc ts e
  | _ => false)
def isFz : PV.S → Bool
  | .fz _ => true
  | .lk _ => true
  | _ => false
theorem isFz_ok {s : PV.S} (h : isFz s = true) : (∃ is, s = .fz is) ∨ ∃ i, s = .lk i := by
  cases s <;> simp [isFz] at h
  · exact .inl ⟨_, rfl⟩
  · exact .inr ⟨_, rfl⟩
theorem sole_plain {t e : Expr} {l : Nat} {env : PySem.Env} (h : isComp e = false) : swapsWithSole [t] e l env = pure false := sw_plain h
mutual
def mS (R : RowT) (S : Sc) : PV.S → Stmt → Bool
  | .as t e, st => match st with
    | .Assign [tg] e' _ => mAs R S t e tg e'
    | _ => false
  | .ao i e, st => match st with
    | .Assign [.Name x _] e' _ => decide (S.N[i]? = some x) && stOk S x && (mXo R S true e e' || (isAdd e && mX R S e e')) && nmSide e'
    | _ => false
  | .p2 i oi j oj a b, st => match st with
    | .Assign [.Tuple [.Name x px, .Name y py] k p] (.Tuple [a', b'] k2 p2) _ => decide (S.N[i]? = some x) && decide (S.N[j]? = some y) && !(Nat.beq i j) && isLoc S x && isLoc S y && decide (swC S.sc [.Name x px, .Name y py] [a', b'] = some (some [x, y])) && mXo R S oi a a' && mXo R S oj b b' && notStar a' && notStar b'
    | _ => false
  | .p3 i j l a b c, st => match st with
    | .Assign [.Tuple [.Name x px, .Name y py, .Name z pz] k p] (.Tuple [a', b', c'] k2 p2) _ => decide (S.N[i]? = some x) && decide (S.N[j]? = some y) && decide (S.N[l]? = some z) && !(Nat.beq i j) && !(Nat.beq i l) && !(Nat.beq j l) && isLoc S x && isLoc S y && isLoc S z &&
        decide (swC S.sc [.Name x px, .Name y py, .Name z pz] [a', b', c'] = some (some [x, y, z])) && mX R S a a' && mX R S b b' && mX R S c c' && notStar a' && notStar b' && notStar c'
    | _ => false
  | .ag i e, st => match st with
    | .AugAssign (.Name x _) .Add e' _ => decide (S.N[i]? = some x) && stOk S x && mX R S e e'
    | _ => false
  | .ap i e, st => match st with
    | .Expr (.Call (.Attribute (.Name x _) m ap) [e'] [] cp) _ => eqS m "append" && nmOk S i x && mX R S e e' && notStar e' && (ap.endLine == cp.line)
    | _ => false
  | .pp i j e, st => match st with
    | .Expr (.Call (.Attribute (.Name x _) m ap) [.Call (.Attribute (.Name y _) m2 ap2) [e'] [] cp2] [] cp) _ => eqS m "append" && eqS m2 "pop" && nmOk S i x && nmOk S j y && mX R S e e' && notStar e' && (ap.endLine == cp.line) && (ap2.endLine == cp2.line)
    | _ => false
  | .si i a e, st => match st with
    | .Assign [.Subscript (.Name x _) a' _] e' _ => nmOk S i x && mX R S a a' && plainIx a' && mX R S e e' && !isComp e'
    | _ => false
  | .ex e, st => match st with
    | .Expr e' _ => mX R S e e' && !isComp e'
    | _ => false
  | .fi c a b, st => match st with
    | .If c' a' b' _ => mX R S c c' && mB R S a a' && mB R S b b'
    | _ => false
  | .fo t it kl body, st => match st with
    | .For t' it' body' [] _ => mT S t t' && mI R S it t' it' && notSet it' && mB R S body body'
    | _ => false
  | .wh c kl body, st => match st with
    | .While c' body' [] _ => mX R S c c' && mB R S body body'
    | _ => false
  | .re e, st => match st with
    | .Return (some e') _ => mX R S e e'
    | .Return none _ => (match e with
      | .n => true
      | _ => false)
    | _ => false
  | .ra c, st => match st with
    | .Raise (some (.Call (.Name x _) [] [] _)) none _ => eqS x c && glOk S x && !(x == ("__debug__" : Str)) && decide (x ∈ R.exc)
    | _ => false
  | .ty e hs, st => match st with
    | .Try [.Return (some e') _] (h₀ :: hds) [] [] _ => mX R S e e' && mHds hs (h₀ :: hds) && (hs.all fun x => decide (x ∈ R.exc) && glOk S x && !(x == ("__debug__" : Str)))
    | _ => false
  | .fz _, _ => false
  | .sta i e, st => match st with
    | .Expr (.Call (.Attribute (.Name x _) m ap) [e'] [] cp) _ => eqS m "append" && nmOk S i x && mX R S e e' && notStar e' && (ap.endLine == cp.line)
    | _ => false
  | .sts i e, st => match st with
    | .Assign [.Subscript (.Name x _) (.Constant (.int z) _ _) _] e' _ => nmOk S i x && decide (z = 0) && mX R S e e' && !isComp e'
    | _ => false
  | .dn i, st => match st with
    | .Assign [.Name x _] (.Dict [] [] _) _ => decide (S.N[i]? = some x) && stOk S x
    | _ => false
  | .ds i a e, st => match st with
    | .Assign [.Subscript (.Name x _) a' _] e' _ => nmOk S i x && mX R S a a' && mX R S e e' && !isComp e'
    | _ => false
  | .lk _, _ => false
  | .pd _ _ _ _, _ => false
  | .da i e, st => match st with
    | .Assign [.Name x _] (.Call (.Name y _) [e'] [] _) _ => decide (S.N[i]? = some x) && stOk S x && eqS y "dict" && glOk S y && notStar e' && mX R S e e'
    | _ => false
def mB (R : RowT) (S : Sc) : SL → List Stmt → Bool
  | .nil, sts => (match sts with
    | [] => true
    | _ => false)
  | .cons s ss, [] => isFz s && mB R S ss []
  | .cons s ss, st :: rest => if isFz s = true then mB R S ss (st :: rest) else mS R S s st && mB R S ss rest
end
section
variable {R : RowT} {l : Nat} {C : Cal} {X : Cx} {W : WX} {S : Sc}
theorem gD_nm {i : Nat} {v : V} {σ : L2.St} {H : Hp} {Q : L2.St → Hp → Prop} (h : gD (.nm i) v σ H Q) : gName i v σ H Q := by
  obtain ⟨c, H0, G, env, d, env', r, gh, rp, e, hq⟩ := h
  simp only [asg] at e
  split at e
  · rename_i hl
    cases e
    exact hq _ (r.set hl rp) (fun j hj => by rw [List.getElem?_set_ne]; intro z; subst z; exact hj (by simp [TG.slots])) (by simp)
  · cases e
/-- name = a comprehension (one clause, two) -/
theorem ps_comp {i : Nat} {y : Str} {py pos cp : Pos} {elt : Expr} {gs : List Comprehension} {scope : Scope} {r : PV.X} (g : CS R l C X W S) (hy : X.N[i]? = some y) (hst : stOk S y = true) (hm : mX R S r (.ListComp elt gs scope cp) = true) :
    ∃ te, PS X (.Assign [.Name y py] (.ListComp elt gs scope cp) pos) (tAsg te (gName i)) ∧ (∀ σ H Q, tX X.K W (evE C r false) σ H Q → te σ H Q) ∧ ((∀ re rt rit rt2 rit2, r ≠ .l2 re rt rit rt2 rit2) → ∀ σ H Q, tXa X.K W (evE C r false) σ H Q → te σ H Q) := by
  have hsw := swB_ok (y := y) (py := py) (scope := scope) (pos := cp) (elt := elt) (gs := gs) (l := pos.line) g.g.sc g.fun_
  have hloc : swB S y py scope cp = true → X.env.scope.names.lookup y = some .local := fun h => by
    unfold swB at h
    simp only [Bool.and_eq_true, beq_iff_eq] at h
    rw [g.g.sc]; exact h.1.1
  cases r with
  | lc re rt rit rc =>
    simp only [mX] at hm; split at hm <;> try (cases hm; done)
    rename_i heq
    cases heq
    simp only [Bool.and_eq_true] at hm
    obtain ⟨⟨⟨⟨⟨⟨h1, h2⟩, h3⟩, h4⟩, h5⟩, h6⟩, h7⟩ := hm
    have ok := blkOk_by h3
    rw [← g.g.N, ← g.g.sc] at ok
    have hsl := eqNs_ok h4
    have hi := pxi_main (C := C) rit X W S _ _ g.g h1
    have hg := fun s H c cl fp => pg_main (g.g.blk _ s H c cl fp) rt _ h5
    have ht := fun s H c cl fp => pxc_main (C := C) rc _ _ _ (g.g.blk _ s H c cl fp) h6
    have he := fun s H c cl fp => (px_main (C := C) re _ _ _ _ (g.g.blk _ s H c cl fp) h7).pe
    refine ⟨tLc (tXI X.K W (evI C rit)) (gD rt) (tXC X.K (evC C rc)) (tX X.K W0 (evE C re false)) rt.slots, ?_, fun σ H Q h => tX_lc h, fun _ σ H Q h => tXs_lc (tXa_s h)⟩
    rw [← hsl]
    cases hb : swB S y py scope cp with
    | true => exact ps_setLc g.g.calm g.g.nd hy (hloc hb) (by rw [hsw, hb]) hi ok hg ht he (folded_ok h2 X.env)
    | false => exact ps_set g.g.nd hy (g.g.loc hst) (pe_lc g.g.calm g.g.nd hi ok hg ht he (folded_ok h2 X.env)) (by rw [hsw, hb]) (g.g.fn _ hst)
  | l2 re rt rit rt2 rit2 =>
    simp only [mX] at hm; split at hm <;> try (cases hm; done)
    rename_i heq
    cases heq
    simp only [Bool.and_eq_true] at hm
    obtain ⟨⟨⟨⟨⟨⟨⟨⟨h1, h2⟩, h3⟩, h4⟩, h5⟩, h6⟩, h7⟩, h8⟩, h9⟩ := hm
    have ok := blkOk_by h4
    rw [← g.g.N, ← g.g.sc] at ok
    have hsl := eqNs_ok h5
    have hi := pxi_main (C := C) rit X W S _ _ g.g h1
    have hg := fun s H c cl fp => pg_main (g.g.blk _ s H c cl fp) rt _ h6
    have hg2 := fun s H c cl fp => pg_main (g.g.blk _ s H c cl fp) rt2 _ h7
    have hi2 := fun s H c cl fp => pxi_main (C := C) rit2 _ _ _ _ _ (g.g.blk _ s H c cl fp) h8
    have he := fun s H c cl fp => (px_main (C := C) re _ _ _ _ (g.g.blk _ s H c cl fp) h9).pe
    refine ⟨tLc2 (tXI X.K W (evI C rit)) (gD rt) (tXC X.K (evC C .no)) (tXI X.K W0 (evI C rit2)) (gD rt2) (tXC X.K (evC C .no)) (tX X.K W0 (evE C re false)) (rt.slots ++ rt2.slots) rt2.slots, ?_, fun σ H Q h => tX_l2 h, fun hn => absurd rfl (hn _ _ _ _ _)⟩
    rw [← hsl]
    have hv : ∀ i ∈ rt2.slots, i ∈ (ownOf rt _ ++ ownOf rt2 _).map (·.2) := fun i hi => by rw [hsl]; exact List.mem_append_right _ hi
    cases hb : swB S y py scope cp with
    | true => exact ps_setLc2 g.g.calm g.g.nd hy (hloc hb) (by rw [hsw, hb]) hi ok hv hg (fun _ _ _ _ _ => pxc_no (C := C)) hi2 hg2 (fun _ _ _ _ _ => pxc_no (C := C)) he (folded_ok h2 X.env) (folded_ok h3)
    | false => exact ps_set g.g.nd hy (g.g.loc hst) (pe_lc2 g.g.calm g.g.nd hi ok hv hg (fun _ _ _ _ _ => pxc_no (C := C)) hi2 hg2 (fun _ _ _ _ _ => pxc_no (C := C)) he (folded_ok h2 X.env) (folded_ok h3)) (by rw [hsw, hb]) (g.g.fn _ hst)
  | _ => simp [mX] at hm
/-- a value or a new list, as an argument -/
theorem pxo_main' {o : Bool} {r : PV.X} {e : Expr} (g : CS R l C X W S) (h : mXo R S o r e = true) : ∃ te, PE X e te ∧ ∀ σ H Q, tXs X.K W o (evE C r false) σ H Q → te σ H Q := by
  unfold mXo at h
  rw [Bool.and_eq_true] at h
  obtain ⟨h1, h2⟩ := h
  cases o with
  | false => exact ⟨_, (px_main r X W S e g.g h1).pe, fun σ H Q h => tXs_f h⟩
  | true =>
    simp only [Bool.not_true, Bool.false_or] at h2
    cases r with
    | ls es =>
      simp only [mX] at h1; split at h1 <;> try (cases h1; done)
      exact ⟨_, pxs_ls (pxl_main _ X W S _ g.g h1), fun σ H Q h => h⟩
    | lc re rt rit rc =>
      simp only [mX] at h1; split at h1 <;> try (cases h1; done)
      simp only [Bool.and_eq_true] at h1
      obtain ⟨⟨⟨⟨⟨⟨h1, h2⟩, h3⟩, h4⟩, h5⟩, h6⟩, h7⟩ := h1
      have ok := blkOk_by h3
      rw [← g.g.N, ← g.g.sc] at ok
      have hsl := eqNs_ok h4
      refine ⟨_, pe_lc (te := tX X.K W0 (evE C re false)) (tt := tXC X.K (evC C rc)) g.g.calm g.g.nd (pxi_main rit X W S _ _ g.g h1) ok (fun s H c cl fp => pg_main (g.g.blk _ s H c cl fp) rt _ h5) (fun s H c cl fp => pxc_main rc _ _ _ (g.g.blk _ s H c cl fp) h6) (fun s H c cl fp => (px_main re _ _ _ _ (g.g.blk _ s H c cl fp) h7).pe) (folded_ok h2 X.env), fun σ H Q h => ?_⟩
      rw [hsl]; exact tXs_lc h
    | bc f a =>
      cases f <;> first
        | (cases h2; done)
        | skip
      simp only [mX] at h1; split at h1 <;> try (cases h1; done)
      simp only [bfN, Bool.and_eq_true] at h1
      obtain ⟨⟨⟨h1, h2⟩, h3⟩, h4⟩ := h1
      have e1 := eqS_ok h1
      subst e1
      exact ⟨_, pxs_list (g.g.gl h2) (g.g.blt (by decide +kernel)) (px_main _ X W S _ g.g h4) h3, fun σ H Q h => h⟩
    | _ => cases h2
theorem isLoc_ok (g : CS R l C X W S) {x : Str} (h : isLoc S x = true) : X.env.scope.names.lookup x = some .local := by
  rw [g.g.sc]; exact eq_of_beq h
theorem CG.tr (g : CG R l C X W S) {W' : WX} {pn : List (Addr × Obj)} {xe : Value → Shared → Prop} (tk : Takes (X.tr pn xe) W') : CG R l C (X.tr pn xe) W' S :=
  ⟨g.calm, g.nd, g.N, g.sc, g.fn, g.room, tk, g.fns, g.free⟩
theorem hds_main (g : CS R l C X W S) : ∀ (hs : List Str) (hds : List ExceptHandler), mHds hs hds = true → (∀ x ∈ hs, x ∈ R.exc ∧ Gl X x ∧ (x == ("__debug__" : Str)) = false) → HdsOk X hds (hdsL X.K hs)
  | [], [], _, _ => .nil
  | h :: hs, hds, hm, hx => by
    cases hds with
    | nil => simp [mHds] at hm
    | cons hd r =>
      unfold mHds at hm
      split at hm
      · rename_i heq; cases heq
      · rename_i h' hs' x np z j p1 p2 p3 r' heq1 heq2
        cases heq1; cases heq2
        simp only [Bool.and_eq_true] at hm
        obtain ⟨⟨h1, h2⟩, h3⟩ := hm
        have e1 := eqS_ok h1
        have e2 := eqS_ok h2
        subst e1; subst e2
        obtain ⟨q1, q2, q3⟩ := hx _ List.mem_cons_self
        refine .cons ⟨q2, q3, .inl (g.exc _ q1).mg⟩ (fun a oe cls d pn _ _ => pss_one (ps_ret pe_str)) (hds_main g hs r h3 fun x hx' => hx x (List.mem_cons_of_mem _ hx'))
      · cases hm
  | [], _ :: _, hm, _ => by simp [mHds] at hm
end
end PV
end
section
set_option Elab.async false
set_option linter.all false
set_option maxRecDepth 100000
set_option maxHeartbeats 8000000
namespace PV
open PySem PySem.Spec PyProof.Rows L2
section
variable {R : RowT} {l : Nat} {C : Cal} {X : Cx} {W : WX} {S : Sc}
theorem beq_ne {i j : Nat} (h : (!Nat.beq i j) = true) : i ≠ j := fun e => by subst e; simp at h
theorem pst_asN {i : Nat} {tg e : Expr} {r : PV.X} {te : TE} {pos : Pos} (hp : PS X (.Assign [tg] e pos) (tAsg te (gName i))) (hte : ∀ σ H Q, tX X.K W (evE C r false) σ H Q → te σ H Q) : PS X (.Assign [tg] e pos) (tS X.K W (evS C (.as (.nm i) r))) := PSi hp fun D σ H h => by
  obtain ⟨c, H0, G0, G, env, n, k, rr, x, pre, e0, hf, hn, hr, hx⟩ := h
  simp only [evS] at hf
  refine hte σ H _ ⟨c, H0, G, env, n, _, x, pre, hf, fun v d n' G' H' e b rp hk => ?_, xst e0 hx⟩
  obtain ⟨env', ha, hk⟩ := opA_iff.mp hk
  exact gD_nm ⟨c, H0, G', env, d, env', (pre.ev e b).r, b.gh, rp, ha, fun σ' rs ks ls => hn σ' env' G' H' n' ⟨b, rs⟩ (e0.trans e) e.g hk⟩
theorem as_main (g : CS R l C X W S) {t : PV.TG} {r : PV.X} {tg e : Expr} {pos : Pos} (h : mAs R S t r tg e = true) : PS X (.Assign [tg] e pos) (tS X.K W (evS C (.as t r))) := by
  unfold mAs at h
  simp only [Bool.and_eq_true] at h
  obtain ⟨⟨h1, h2⟩, h3⟩ := h
  have hg := pg_main g.g t tg h1
  have plain : ∀ {e : Expr}, isComp e = false → mX R S r e = true → swappedStores [tg] e X.env = pure none → (assignEach [tg] X.env).map (·.2) = [assign tg X.env] → PS X (.Assign [tg] e pos) (tS X.K W (evS C (.as t r))) := fun hc hm hw ha =>
    pst_as (ps_asg (px_main r X W S _ g.g hm).pe hg (sw_plain hc) hw ha) fun _ _ _ h => h
  split at h3
  · unfold nmSide at h3
    rw [Bool.or_eq_true] at h3
    rcases h3 with h3 | h3
    · obtain ⟨elt, gs, scope, cp, rfl⟩ := isLC_ok h3
      cases t with
      | nm i =>
        simp only [mT, Bool.and_eq_true, decide_eq_true_eq] at h1
        obtain ⟨te, hp, hte, _⟩ := ps_comp (pos := pos) (i := i) g (by rw [g.g.N]; exact h1.1) h1.2 h2
        exact pst_asN hp hte
      | tp ts => simp [mT] at h1
    · exact plain (by simpa using h3) h2 rfl rfl
  · obtain ⟨q1, q2⟩ := tpSide_ok h3 g.g.sc g.fun_
    exact plain q2 h2 q1 rfl
  · cases h3
theorem ao_main (g : CS R l C X W S) {i : Nat} {r : PV.X} {x : Str} {e : Expr} {p pos : Pos} (h1 : S.N[i]? = some x) (h2 : stOk S x = true) (h3 : (mXo R S true r e || (isAdd r && mX R S r e)) = true) (h4 : nmSide e = true) : PS X (.Assign [.Name x p] e pos) (tS X.K W (evS C (.ao i r))) := by
  rw [← g.g.N] at h1
  unfold nmSide at h4
  rw [Bool.or_eq_true] at h4
  rcases h4 with h4 | h4
  · obtain ⟨elt, gs, scope, cp, rfl⟩ := isLC_ok h4
    rw [Bool.or_eq_true] at h3
    have hm : mX R S r (.ListComp elt gs scope cp) = true ∧ ∀ re rt rit rt2 rit2, r ≠ .l2 re rt rit rt2 rit2 := by
      rcases h3 with h | h
      · unfold mXo at h
        rw [Bool.and_eq_true] at h
        refine ⟨h.1, fun re rt rit rt2 rit2 z => ?_⟩
        subst z
        exact Bool.false_ne_true h.2
      · rw [Bool.and_eq_true] at h
        refine ⟨h.2, fun re rt rit rt2 rit2 z => ?_⟩
        subst z
        exact Bool.false_ne_true h.1
    obtain ⟨te, hp, _, hte⟩ := ps_comp (pos := pos) (py := p) (i := i) g h1 h2 hm.1
    exact pst_ao hp (hte hm.2)
  · have hc : isComp e = false := by simpa using h4
    rw [Bool.or_eq_true] at h3
    rcases h3 with h | h
    · obtain ⟨te, he, hte⟩ := pxo_main' g h
      exact pst_ao (ps_set g.g.nd h1 (g.g.loc h2) he (sw_plain hc) (g.g.fn _ h2)) fun σ H Q q => hte σ H Q (tXa_s q)
    · rw [Bool.and_eq_true] at h
      obtain ⟨ha, hm⟩ := h
      cases r with
      | bi o a b =>
        cases o with
        | add =>
          simp only [mX] at hm; split at hm <;> try (cases hm; done)
          simp only [Bool.and_eq_true] at hm
          obtain ⟨⟨q1, q2⟩, q3⟩ := hm
          have e1 := o2_of q1
          subst e1
          exact pst_ao (ps_set g.g.nd h1 (g.g.loc h2) (pxs_add (px_main a X W S _ g.g q2) (px_main b X W S _ g.g q3)) (sw_plain hc) (g.g.fn _ h2)) fun σ H Q q => q
        | mul =>
          simp only [mX] at hm; split at hm <;> try (cases hm; done)
          simp only [Bool.and_eq_true] at hm
          obtain ⟨⟨q1, q2⟩, q3⟩ := hm
          have e1 := o2_of q1
          subst e1
          exact pst_ao (ps_set g.g.nd h1 (g.g.loc h2) (pxs_mul (px_main a X W S _ g.g q2) (px_main b X W S _ g.g q3)) (sw_plain hc) (g.g.fn _ h2)) fun σ H Q q => q
        | _ => cases ha
      | _ => cases ha
mutual
theorem ps_main : ∀ (s : PV.S) (X : Cx) (W : WX) (st : Stmt), CS R l C X W S → mS R S s st = true → PS X st (tS X.K W (evS C s))
  | .as t r, X, W, st, g, h => by
    simp only [mS] at h; split at h <;> try (cases h; done)
    exact as_main g h
  | .ao i r, X, W, st, g, h => by
    simp only [mS] at h; split at h <;> try (cases h; done)
    simp only [Bool.and_eq_true, decide_eq_true_eq] at h
    exact ao_main g h.1.1.1 h.1.1.2 h.1.2 h.2
  | .p2 i oi j oj a b, X, W, st, g, h => by
    simp only [mS] at h; split at h <;> try (cases h; done)
    simp only [Bool.and_eq_true, decide_eq_true_eq] at h
    obtain ⟨⟨⟨⟨⟨⟨⟨⟨⟨h1, h2⟩, h3⟩, h4⟩, h5⟩, h6⟩, h7⟩, h8⟩, h9⟩, h10⟩ := h
    obtain ⟨ta, pa, qa⟩ := pxo_main' g h7
    obtain ⟨tb, pb, qb⟩ := pxo_main' g h8
    exact pst_p2 (beq_ne h3) (ps_par g.g.calm g.g.nd (by rw [g.g.N]; exact h1) (by rw [g.g.N]; exact h2) (beq_ne h3) (isLoc_ok g h4) (isLoc_ok g h5) (pa_cons pa (pa_cons pb pa_nil (star_one h10)) (star_one h9)) (swC_ok h6 g.g.sc g.fun_) rfl) qa qb
  | .p3 i j m a b c, X, W, st, g, h => by
    simp only [mS] at h; split at h <;> try (cases h; done)
    simp only [Bool.and_eq_true, decide_eq_true_eq] at h
    obtain ⟨⟨⟨⟨⟨⟨⟨⟨⟨⟨⟨⟨⟨⟨⟨h1, h2⟩, h3⟩, h4⟩, h5⟩, h6⟩, h7⟩, h8⟩, h9⟩, h10⟩, h11⟩, h12⟩, h13⟩, h14⟩, h15⟩, h16⟩ := h
    exact pst_p3 (ps_par3 g.g.calm g.g.nd (by rw [g.g.N]; exact h1) (by rw [g.g.N]; exact h2) (by rw [g.g.N]; exact h3) (beq_ne h4) (beq_ne h5) (beq_ne h6) (isLoc_ok g h7) (isLoc_ok g h8) (isLoc_ok g h9)
      (pa_cons (px_main a X W S _ g.g h11).pe (pa_cons (px_main b X W S _ g.g h12).pe (pa_cons (px_main c X W S _ g.g h13).pe pa_nil (star_one h16)) (star_one h15)) (star_one h14)) (swC_ok h10 g.g.sc g.fun_) rfl) (fun _ _ _ h => h) (fun _ _ _ h => h) (fun _ _ _ h => h)
  | .ag i r, X, W, st, g, h => by
    simp only [mS] at h; split at h <;> try (cases h; done)
    simp only [Bool.and_eq_true, decide_eq_true_eq] at h
    exact pst_ag (ps_aug g.g.nd (by rw [g.g.N]; exact h.1.1) (g.g.loc h.1.2) (px_main r X W S _ g.g h.2).pe ip_add (g.g.fn _ h.1.2)) fun _ _ _ h => h
  | .ap i r, X, W, st, g, h => by
    simp only [mS] at h; split at h <;> try (cases h; done)
    simp only [Bool.and_eq_true] at h
    obtain ⟨⟨⟨⟨h1, h2⟩, h3⟩, h4⟩, h5⟩ := h
    have e1 := eqS_ok h1
    subst e1
    obtain ⟨q1, q2, q3, q4⟩ := g.g.nm h2
    exact pst_ap q1 q2 q3 q4 (px_main r X W S _ g.g h3) h4 h5
  | .pp i j r, X, W, st, g, h => by
    simp only [mS] at h; split at h <;> try (cases h; done)
    simp only [Bool.and_eq_true] at h
    obtain ⟨⟨⟨⟨⟨⟨⟨h1, h2⟩, h3⟩, h4⟩, h5⟩, h6⟩, h7⟩, h8⟩ := h
    have e1 := eqS_ok h1
    have e2 := eqS_ok h2
    subst e1; subst e2
    obtain ⟨q1, q2, q3, q4⟩ := g.g.nm h3
    obtain ⟨u1, u2, u3, u4⟩ := g.g.nm h4
    exact pst_pp q1 q2 q3 q4 u1 u2 u3 u4 (px_main r X W S _ g.g h5) h6 h7 h8
  | .si i a r, X, W, st, g, h => by
    simp only [mS] at h; split at h <;> try (cases h; done)
    simp only [Bool.and_eq_true] at h
    obtain ⟨⟨⟨⟨h1, h2⟩, h3⟩, h4⟩, h5⟩ := h
    obtain ⟨q1, q2, q3, q4⟩ := g.g.nm h1
    exact pst_si q1 q2 q3 q4 (px_main a X W S _ g.g h2) h3 (px_main r X W S _ g.g h4) (sole_plain (by simpa using h5)) rfl
  | .ex r, X, W, st, g, h => by
    simp only [mS] at h; split at h <;> try (cases h; done)
    rw [Bool.and_eq_true] at h
    exact pst_ex (px_main r X W S _ g.g h.1) (sw_plain (by simpa using h.2))
  | .fi c a b, X, W, st, g, h => by
    simp only [mS] at h; split at h <;> try (cases h; done)
    simp only [Bool.and_eq_true] at h
    exact pst_fi (px_main c X W S _ g.g h.1.1) (pss_main a X W _ g h.1.2) (pss_main b X W _ g h.2)
  | .fo t it kl body, X, W, st, g, h => by
    simp only [mS] at h; split at h <;> try (cases h; done)
    simp only [Bool.and_eq_true] at h
    obtain ⟨⟨⟨h1, h2⟩, h3⟩, h4⟩ := h
    exact pst_fo g.own g.g.calm (pxi_main it X W S _ _ g.g h2) (pg_main g.g t _ h1) (pss_main body X W _ g h4) (folded_ok h3 X.env)
  | .wh c kl body, X, W, st, g, h => by
    simp only [mS] at h; split at h <;> try (cases h; done)
    simp only [Bool.and_eq_true] at h
    exact pst_wh g.own (px_main c X W S _ g.g h.1) (pss_main body X W _ g h.2)
  | .re r, X, W, st, g, h => by
    simp only [mS] at h; split at h <;> try (cases h; done)
    · exact pst_re (px_main r X W S _ g.g h)
    · split at h <;> try (cases h; done)
      exact pst_reN
  | .ra c, X, W, st, g, h => by
    simp only [mS] at h; split at h <;> try (cases h; done)
    simp only [Bool.and_eq_true, Bool.not_eq_true', decide_eq_true_eq] at h
    obtain ⟨⟨⟨h1, h2⟩, h3⟩, h4⟩ := h
    have e1 := eqS_ok h1
    subst e1
    exact pst_ra g.g.calm g.g.tk (g.exc _ h4) (g.g.gl h2) h3
  | .ty r hs, X, W, st, g, h => by
    simp only [mS] at h; split at h <;> try (cases h; done)
    simp only [Bool.and_eq_true, List.all_eq_true, decide_eq_true_eq, Bool.not_eq_true'] at h
    obtain ⟨⟨h1, h2⟩, h3⟩ := h
    exact pst_ty g.stk g.fr g.g.tk (fun W' pn xe tk => px_main r (X.tr pn xe) W' S _ (g.g.tr tk) h1) (hds_main g hs _ h2 fun x hx => ⟨(h3 x hx).1.1, g.g.gl (h3 x hx).1.2, (h3 x hx).2⟩) fun a ha b hb => g.exm a (h3 a ha).1.1 b (h3 b hb).1.1
  | .fz is, X, W, st, g, h => by simp [mS] at h
  | .lk i, X, W, st, g, h => by simp [mS] at h
  | .pd _ _ _ _, X, W, st, g, h => by simp [mS] at h
  | .da i r, X, W, st, g, h => by
    simp only [mS] at h; split at h <;> try (cases h; done)
    simp only [Bool.and_eq_true, decide_eq_true_eq] at h
    obtain ⟨⟨⟨⟨⟨h1, h2⟩, h3⟩, h4⟩, h5⟩, h6⟩ := h
    have e1 := eqS_ok h3
    subst e1
    exact pst_da (ps_set g.g.nd (by rw [g.g.N]; exact h1) (g.g.loc h2) (pe_dictX g.g.calm g.g.hu (g.g.gl h4) (g.g.blt (by decide +kernel)) (px_main r X W S _ g.g h6) h5) (sw_plain rfl) (g.g.fn _ h2))
  | .dn i, X, W, st, g, h => by
    simp only [mS] at h; split at h <;> try (cases h; done)
    simp only [Bool.and_eq_true, decide_eq_true_eq] at h
    exact pst_dn (ps_set g.g.nd (by rw [g.g.N]; exact h.1) (g.g.loc h.2) pe_dnewT (sw_plain rfl) (g.g.fn _ h.2))
  | .ds i a r, X, W, st, g, h => by
    simp only [mS] at h; split at h <;> try (cases h; done)
    simp only [Bool.and_eq_true] at h
    obtain ⟨⟨⟨h1, h2⟩, h3⟩, h4⟩ := h
    obtain ⟨q1, q2, q3, q4⟩ := g.g.nm h1
    exact pst_ds g.g.hu q1 q2 q3 q4 (px_main a X W S _ g.g h2) (px_main r X W S _ g.g h3) (sw_plain (by simpa using h4))
  | .sta i r, X, W, st, g, h => by
    simp only [mS] at h; split at h <;> try (cases h; done)
    simp only [Bool.and_eq_true] at h
    obtain ⟨⟨⟨⟨h1, h2⟩, h3⟩, h4⟩, h5⟩ := h
    have e1 := eqS_ok h1
    subst e1
    obtain ⟨q1, q2, q3, q4⟩ := g.g.nm h2
    exact pst_sta q1 q2 q3 q4 (px_main r X W S _ g.g h3) h4 h5
  | .sts i r, X, W, st, g, h => by
    simp only [mS] at h; split at h <;> try (cases h; done)
    simp only [Bool.and_eq_true, decide_eq_true_eq] at h
    obtain ⟨⟨⟨h1, h2⟩, h3⟩, h4⟩ := h
    subst h2
    obtain ⟨q1, q2, q3, q4⟩ := g.g.nm h1
    exact pst_sts q1 q2 q3 q4 (px_main r X W S _ g.g h3) (sole_plain (by simpa using h4)) rfl
theorem pss_main : ∀ (s : SL) (X : Cx) (W : WX) (sts : List Stmt), CS R l C X W S → mB R S s sts = true → PSs X sts (tS X.K W (evB C s))
  | .nil, X, W, sts, g, h => by
    simp only [mB] at h; split at h <;> try (cases h; done)
    exact pst_nil
  | .cons s ss, X, W, sts, g, h => by
    cases sts with
    | nil =>
      simp only [mB, Bool.and_eq_true] at h
      have q := pss_main ss X W [] g h.2
      rcases isFz_ok h.1 with ⟨is, e⟩ | ⟨is, e⟩
      · rw [e]
        exact pst_fz q
      · rw [e]
        exact pst_lk q
    | cons st rest =>
      simp only [mB] at h
      by_cases hz : isFz s = true
      · rw [if_pos hz] at h
        have q := pss_main ss X W (st :: rest) g h
        rcases isFz_ok hz with ⟨is, e⟩ | ⟨is, e⟩
        · rw [e]
          exact pst_fz q
        · rw [e]
          exact pst_lk q
      · rw [if_neg hz, Bool.and_eq_true] at h
        exact pst_cons (ps_main s X W _ g h.1) (pss_main ss X W _ g h.2)
end
end
end PV
end
section
set_option Elab.async false
set_option linter.all false
set_option maxRecDepth 100000
set_option maxHeartbeats 8000000
namespace PV
open PySem PySem.Spec PyProof.Rows L2

/-! ### the hook: facts over what is no list -/
def isLst (o : Obj) : Bool := match o.cls with
  | .type n => n == "list"
  | _ => false
def noL (g : Addr → Option Obj) : Addr → Option Obj := fun a => match g a with
  | some o => if isLst o = true then none else some o
  | none => none
theorem noL_ok {g : Addr → Option Obj} {a : Addr} {o : Obj} (h : noL g a = some o) : g a = some o ∧ o.cls ≠ .type "list" := by
  unfold noL at h
  split at h
  · rename_i o' ho
    split at h
    · cases h
    · rename_i hn
      cases h
      refine ⟨ho, fun e => hn ?_⟩
      unfold isLst
      rw [e]; rfl
  · cases h
def obsP (n : Nat) (fa : List He.Fa) (fn : List He.DefD) (g : Addr → Option Obj) : He.AlD := He.obsD fa fn (He.frG (noL g) (He.asD g n))
def hookP (n : Nat) (fa : List He.Fa) (fn : List He.DefD) : PySem.W.Hook where
  α := He.AlD
  obs := fun s => obsP n fa fn s.heap.get?
  val := fun _ => He.valD fn
  says := fun _ h => ∃ K : PySem.W.Frag, K.In h ∧ He.SaysD fa fn K ∧ ∀ a o, K.lookup a = some o → o.cls ≠ .type "list"
  of := fun _ s e => ⟨He.frG (noL s.heap.get?) (He.asD s.heap.get? n), fun a o h => (noL_ok (He.frG_at _ h)).1, e, fun a o h => (noL_ok (He.frG_at _ h)).2⟩
  keeps := fun _ _ _ ⟨K, hK, c⟩ k => ⟨K, PySem.W.Frag.In.keeps hK k, c⟩
theorem obsP_eq {n : Nat} {fa : List He.Fa} {fn : List He.DefD} {g : Addr → Option Obj} {s : Shared} (h : ∀ a, g a = s.heap.get? a) : obsP n fa fn g = (hookP n fa fn).obs s := by
  have e : g = s.heap.get? := funext h
  rw [e] <;> rfl
theorem says_fact {fa : List He.Fa} {fn : List He.DefD} {K : PySem.W.Frag} (c : He.SaysD fa fn K) {f : He.Fa} (h : f ∈ fa) : f.ok K = true := by
  obtain ⟨i, hi⟩ := List.mem_iff_getElem?.mp h
  exact c.fact i hi
theorem says_def {fa : List He.Fa} {fn : List He.DefD} {K : PySem.W.Frag} (c : He.SaysD fa fn K) {d : He.DefD} (h : d ∈ fn) : ∃ fd, FunD K d.name d.qual d.params d.body d.scope (d.dvs K) (d.kws K) (He.fAd K d.at_) fd := by
  obtain ⟨i, hi⟩ := List.mem_iff_getElem?.mp h
  exact c.def_ i hi

/-! ### the defs of a row -/
/-- a def of the row: its name, its number, its names (the parameters first), its text -/
structure DefE where
  x : Str
  f : Nat
  N : List Str
  st : Stmt
def DefE.d (e : DefE) : He.DefD := ⟨(e.x, none), e.x, e.x, defArgs e.st, defBody e.st, defScope e.st, [], []⟩
def argsB (p : Arguments) (ps : List Str) : Bool := (match p with
  | ⟨[], args, none, [], _, none, []⟩ => decide (args.map (·.arg) = ps)
  | _ => false) && decide ps.Nodup
def scB (N P : List Str) (sc : Scope) : Bool := (match sc.kind with
  | .function => true
  | _ => false) && !sc.isCoroutine && !sc.isGenerator && decide N.Nodup && decide (N.take P.length = P) && (P.all fun x => match sc.names.lookup x with
  | some .local => true
  | some .cell => true
  | _ => false) && sc.names.all fun y => match y.2 with
  | .free => false
  | _ => true
theorem scB_ok {N P : List Str} {sc : Scope} (h : scB N P sc = true) : FnScope N P sc := by
  unfold scB at h
  simp only [Bool.and_eq_true, Bool.not_eq_true', List.all_eq_true, decide_eq_true_eq] at h
  obtain ⟨⟨⟨⟨⟨⟨h1, h2⟩, h3⟩, h4⟩, h5⟩, h6⟩, h7⟩ := h
  refine ⟨?_, h2, h3, h4, h5, fun x hx => ?_, fun y hy e => ?_⟩
  · split at h1
    · assumption
    · cases h1
  · have := h6 x hx
    split at this
    · rename_i q; exact .inl q
    · rename_i q; exact .inr q
    · cases this
  · have := h7 y hy
    rw [e] at this; cases this
theorem fm_congr {α β : Type} {f g : α → Option β} : ∀ {l : List α}, (∀ n ∈ l, f n = g n) → l.filterMap f = l.filterMap g
  | [], _ => rfl
  | a :: l, h => by
    rw [List.filterMap_cons, List.filterMap_cons, h a List.mem_cons_self, fm_congr fun n hn => h n (List.mem_cons_of_mem _ hn)]
theorem zl_some {α : Type} : ∀ {ns : List Str} {us : List α} {n : Str}, us.length = ns.length → n ∈ ns → ((ns.zip us).lookup n).isSome = true
  | a :: ns, u :: us, n, hl, h => by
    rw [List.zip_cons_cons, List.lookup_cons]
    cases hb : n == a with
    | true => rfl
    | false =>
      refine zl_some (by simpa using hl) ((List.mem_cons.mp h).resolve_left fun e => ?_)
      subst e; simp at hb
theorem zl_map {α : Type} : ∀ {ns : List Str} {us : List α}, ns.Nodup → us.length = ns.length → (ns.filterMap fun n => ((ns.zip us).lookup n).map (n, ·)) = ns.zip us
  | [], [], _, _ => rfl
  | a :: ns, u :: us, nd, hl => by
    rw [List.nodup_cons] at nd
    rw [List.zip_cons_cons, List.filterMap_cons]
    simp only [List.lookup_cons, beq_self_eq_true, Option.map_some]
    congr 1
    have ih := zl_map (us := us) nd.2 (by simpa using hl)
    refine Eq.trans (fm_congr fun n hn => ?_) ih
    have : (n == a) = false := by
      rw [beq_eq_false_iff_ne]; intro e; subst e; exact nd.1 hn
    rw [this]
section
variable {x qual : Str} {body : List Stmt} {scope : Scope} {kwd : List (Option Expr)} {kV doc pm : Value} {an : Option Addr} {cdv ct : Value}
theorem bind_ok (args : List Arg) (us : List Value) (nd : (args.map (·.arg)).Nodup) (hl : us.length = args.length) : bindArgs (PySem.W.fnOf x qual ⟨[], args, none, [], kwd, none, []⟩ body scope .none kV doc pm an cdv ct) ⟨us, []⟩ = pure ((args.map (·.arg)).zip us) := by
  have hl' : us.length = (args.map (·.arg)).length := by rw [hl, List.length_map]
  have e1 := zl_map nd hl'
  have e2 : ((args.map (·.arg)).filter fun n => (((args.map (·.arg)).zip us).lookup n).isNone) = [] := by
    rw [List.filter_eq_nil_iff]
    intro n hn
    have := zl_some hl' hn
    cases h : ((args.map (·.arg)).zip us).lookup n with
    | none => rw [h] at this; cases this
    | some v => simp
  have e3 : seqItems? Value.none = pure none := rfl
  have e4 : ¬ (us.length > (args.map (·.arg)).length) := by omega
  unfold bindArgs PySem.W.fnOf
  simp only [List.map_nil, List.nil_append, List.forIn_nil, pure_bind, e3, Option.getD_none, List.length_nil, Nat.zero_sub, List.drop_nil, Nat.sub_zero, List.take_length, List.drop_length, List.zip_nil_right, List.append_nil, e2, e1, Option.isNone_none, Bool.and_true, decide_eq_true_eq, if_neg e4, List.isEmpty_nil, Bool.not_true, Bool.false_eq_true, if_false]
end
theorem binds_ok {K : PySem.W.Frag} {x qual : Str} {p : Arguments} {body : List Stmt} {scope : Scope} {f : Addr} {fd : FuncData} {ps : List Str} (F : FunD K x qual p body scope [] [] f fd) (h : argsB p ps = true) : L2.Binds K fd ps [] := by
  unfold argsB at h
  rw [Bool.and_eq_true] at h
  obtain ⟨h1, h2⟩ := h
  split at h1
  · rename_i args kwd
    have e := of_decide_eq_true h1
    have h3 := of_decide_eq_true h2
    subst e
    exact F.bindsN fun kV doc pm an cdv ct us hl => bind_ok args us h3 (by rw [hl, List.length_map])
  · cases h1
theorem bindsA_ok {K : PySem.W.Frag} {x qual : Str} {p : Arguments} {body : List Stmt} {scope : Scope} {f : Addr} {fd : FuncData} {ps : List Str} (F : FunD K x qual p body scope [] [] f fd) (h : argsB p ps = true) (s : Shared) (us : List Value) (hl : us.length = ps.length) : BindsTo s fd ⟨us, []⟩ (ps.zip us) := by
  unfold argsB at h
  rw [Bool.and_eq_true] at h
  obtain ⟨h1, h2⟩ := h
  split at h1
  · rename_i args kwd
    have e := of_decide_eq_true h1
    have h3 := of_decide_eq_true h2
    subst e
    exact F.bindsA (fun kV doc pm an cdv ct us hl => bind_ok args us h3 (by rw [hl, List.length_map])) s us hl
  · cases h1

/-! ### the draw -/
/-- the names: script, state, many, cell, k, digits, number, more -/
abbrev drawT2 : SL := .cons (.as (.nm 5) (.bi .mod (.stx 1) (.i 65536)))
  (.cons (.sts 1 (.bi .fdiv (.stx 1) (.i 65536)))
  (.cons (.as (.nm 6) (.bi .mod (.bi .add (.bi .add (.v 3) (.bi .mul (.i 40503) (.v 5))) (.bi .mul (.i 104729) (.v 4))) (.i 4294967291)))
  (.cons (.as (.nm 6) (.bi .mod (.bi .mul (.bi .mod (.bi .mul (.v 6) (.v 6)) (.i 4294967279)) (.i 48271)) (.i 4294967291)))
  (.cons (.as (.nm 7) (.bi .mod (.bi .mul (.bi .mod (.bi .mul (.v 6) (.v 6)) (.i 4294967279)) (.i 69621)) (.i 4294967291)))
  (.cons (.re (.bi .mod (.bi .add (.bi .mul (.bi .fdiv (.v 6) (.i 64)) (.i 67108864)) (.bi .fdiv (.v 7) (.i 64))) (.v 2))) .nil)))))
abbrev drawTl : SL := .cons (.sta 1 (.i 0))
  (.cons (.as (.nm 4) (.stl 1))
  (.cons (.as (.nm 3) (.ie (.v 0) (.ix (.v 0) (.bi .mod (.v 4) (.bc .len (.v 0)))) (.i 0))) drawT2))
abbrev drawDf : Df := ⟨3, 8, .cons (.fi (.nt (.v 1)) (.cons (.sta 1 (.bc .max (.bi .add (.lc (.bc .abs (.v 3)) (.nm 3) (.ex (.v 0)) .no) (.ls (.cons (.i 0) .nil))))) .nil) .nil) drawTl⟩
def T0 (T : Nat → Option Df) : Nat → Option Df := fun f => if f = 0 then some drawDf else T f
section
variable {P : Program} {w : World} {K : PySem.W.Frag} {mg : Str → Option Value} {base : Heap} {T : Nat → Option Df} {R : RowT}
/-- what the callee's number means by its body -/
def drawOk : Prop := ∀ (C : Cal) (ds : List PV.D) (n : Nat) (k : KD) (x : KX), drawK ds n k → ds.length = 3 ∧ evB C drawDf.body (initE ds 8) n (fun _ n' => k .non n') k x
structure RowOk (K : PySem.W.Frag) (mg : Str → Option Value) (R : RowT) : Prop where
  free : ∀ x ∈ blts, mg x = none
  exc : ∀ x ∈ R.exc, ExcAt K mg x
  exm : ∀ a ∈ R.exc, ∀ b ∈ R.exc, PySem.W.exmOne K (.ref (He.ga K a)) (.ref (He.ga K b)) = some (decide (a = b))
/-- a def's text is what the table says -/
def entB (R : RowT) (T : Nat → Option Df) (e : DefE) : Bool := match T0 T e.f with
  | some df => mB R ⟨e.N, defScope e.st, none⟩ df.body (defBody e.st) && scB e.N (e.N.take df.np) (defScope e.st) && argsB (defArgs e.st) (e.N.take df.np) && Nat.beq df.ns e.N.length && Nat.ble df.np e.N.length
  | none => false
theorem initE_r {c : Addr} {G H : Hp} {vs : List V} {ds : List PV.D} {ns : Nat} {N : List Str} (hn : ns = N.length) (r : RepL c G vs ds) (hl : ds.length ≤ N.length) : EnvR c H (initE ds ns) (L2.start N vs) G H := by
  subst hn
  have lv := r.length
  have g : ∀ i s, gt (initE ds N.length) i = s → s ≠ .no → ∃ d, ds[i]? = some d ∧ s = .val d := fun i s h hn => by
    unfold gt initE at h
    rw [List.getD_eq_getElem?_getD] at h
    by_cases hi : i < ds.length
    · rw [List.getElem?_append_left (by simpa using hi), List.getElem?_map, List.getElem?_eq_getElem hi] at h
      exact ⟨ds[i], List.getElem?_eq_getElem hi, h.symm⟩
    · rw [List.getElem?_append_right (by simpa using hi), List.getElem?_replicate] at h
      split at h <;> exact absurd h.symm hn
  refine ⟨by simp [initE, L2.start, lv], fun i d h => ?_, fun i es h => ?_, fun i j a es fs h _ _ _ => ?_, fun i lk kvs h => ?_, fun i j a lk lk' kvs kvs' h _ _ _ => ?_⟩
  · obtain ⟨d', h1, h2⟩ := g i _ h (by simp)
    cases h2
    obtain ⟨v, e1, e2⟩ := r.get h1
    refine ⟨v, ?_, e2⟩
    unfold L2.start
    have hi : i < vs.length := (List.getElem?_eq_some_iff.mp e1).1
    rw [List.getElem?_append_left (by simpa using hi), List.getElem?_map, e1]; rfl
  · obtain ⟨d', _, h2⟩ := g i _ h (by simp)
    cases h2
  · obtain ⟨d', _, h2⟩ := g i _ h (by simp)
    cases h2
  · obtain ⟨d', _, h2⟩ := g i _ h (by simp)
    cases h2
  · obtain ⟨d', _, h2⟩ := g i _ h (by simp)
    cases h2
theorem cs_of {qual : Str} {f : Addr} {cdv : Value} {A : Around} {outer : List PySem.Env} {s : Shared} {H : Hp} {E : XK} {sc : Scope} {N ps : List Str} {l : Nat} {C : Cal} (ro : RowOk K mg R) (fs : FnScope N ps sc)
    (hr : Room (l + 10) (A.deeper (envOfC qual sc s.heap.objs.size f cdv))) (fns : ∀ x f, R.fns.lookup x = some f → FnAt P w K mg base (l + 10) C x f) :
    CS R l C (cxOf (L2.CX P w) P w K mg base N qual sc f cdv A outer s H E) (fun cls d _ H' => E cls d H') ⟨N, sc, none⟩ where
  g := ⟨rfl, fs.nd, rfl, rfl, fun _ _ => .inl rfl, hr, takes_of rfl rfl rfl rfl, fns, ro.free⟩
  own := passes_of rfl
  stk := rfl
  fr := rfl
  fun_ := fs.kind
  exc := ro.exc
  exm := ro.exm
/-- the law's own context: nothing is let out -/
theorem cs_law {qual : Str} {f : Addr} {cdv : Value} {A : Around} {outer : List PySem.Env} {s : Shared} {H : Hp} {E : XK} {sc : Scope} {N ps : List Str} {l : Nat} {C : Cal} (ro : RowOk K mg R) (fs : FnScope N ps sc)
    (hr : Room (l + 10) (A.deeper (envOfC qual sc s.heap.objs.size f cdv))) (fns : ∀ x f, R.fns.lookup x = some f → FnAt P w K mg base (l + 10) C x f) :
    CS R l C (cxOf L2.CX0 P w K mg base N qual sc f cdv A outer s H E) W0 ⟨N, sc, none⟩ where
  g := ⟨rfl, fs.nd, rfl, rfl, fun _ _ => .inl rfl, hr, takes0, fns, ro.free⟩
  own := passes_of rfl
  stk := rfl
  fr := rfl
  fun_ := fs.kind
  exc := ro.exc
  exm := ro.exm
theorem fns_main {es : List DefE} (dr : drawOk) (ro : RowOk K mg R) (hR : R.fns = es.map fun e => (e.x, e.f)) (hT : T 0 = none) (he : ∀ e ∈ es, entB R T e = true)
    (hf : ∀ e ∈ es, mg e.x = some (.ref (He.ga K e.x)) ∧ ∃ fd, FunD K e.x e.x (defArgs e.st) (defBody e.st) (defScope e.st) [] [] (He.ga K e.x) fd) :
    ∀ (d : Nat) (x : Str) (f : Nat), R.fns.lookup x = some f → FnAt P w K mg base (d + 10) (callW T d) x f := by
  have ent : ∀ {x f}, R.fns.lookup x = some f → ∃ e ∈ es, e.x = x ∧ e.f = f := fun {x f} h => by
    have := PySem.mem_of_lookup h
    rw [hR] at this
    obtain ⟨e, h1, h2⟩ := List.mem_map.mp this
    cases h2
    exact ⟨e, h1, rfl, rfl⟩
  intro d
  induction d with
  | zero =>
    intro x f h
    obtain ⟨e, hm, rfl, rfl⟩ := ent h
    obtain ⟨h1, fd, F⟩ := hf e hm
    have hb := he e hm
    unfold entB at hb
    split at hb
    · rename_i df hdf
      simp only [Bool.and_eq_true] at hb
      obtain ⟨⟨⟨⟨b1, b2⟩, b3⟩, b4⟩, b5⟩ := hb
      exact ⟨_, fd, _, h1, F.kp, binds_ok F b3, (F.ok (CX := L2.CX P w) (k := 9) (scB_ok b2) (fun vs H Q E h => by obtain ⟨c, G, ds, n, k, x, _, _, h, _⟩ := h; exact h.elim) (fun cdv A outer s H vs Q E hr h => by obtain ⟨c, G, ds, n, k, x, _, _, h, _⟩ := h; exact h.elim))⟩
    · cases hb
  | succ d ih =>
    intro x f h
    obtain ⟨e, hm, rfl, rfl⟩ := ent h
    obtain ⟨h1, fd, F⟩ := hf e hm
    have hb := he e hm
    unfold entB at hb
    split at hb
    · rename_i df hdf
      simp only [Bool.and_eq_true] at hb
      obtain ⟨⟨⟨⟨b1, b2⟩, b3⟩, b4⟩, b5⟩ := hb
      have hns := Nat.eq_of_beq_eq_true b4
      have hnp := Nat.le_of_ble_eq_true b5
      -- the callee's meaning by its body
      have body : ∀ {ds n k x}, callW T (d + 1) e.f ds n k x → ds.length = df.np ∧ evB (callW T d) df.body (initE ds df.ns) n (fun _ n' => k .non n') k x := fun {ds n k x} h => by
        unfold T0 at hdf
        by_cases h0 : e.f = 0
        · rw [if_pos h0] at hdf
          cases hdf
          rw [h0] at h
          exact dr (callW T d) ds n k x h
        · rw [if_neg h0] at hdf
          unfold callW at h
          split at h
          · rename_i z; exact absurd z h0
          · rw [hdf] at h
            exact h
      refine ⟨_, fd, _, h1, F.kp, binds_ok F b3, (F.ok (CX := L2.CX P w) (k := d + 10) (scB_ok b2) (fun vs H Q E h => ?_) (fun cdv A outer s H vs Q E hr h => ?_))⟩
      · obtain ⟨c, G, ds, n, k, x, b, rl, h, _⟩ := h
        obtain ⟨q1, _⟩ := body h
        rw [rl.length, q1, List.length_take, Nat.min_eq_left hnp]
      · refine ⟨_, pss_main df.body _ _ _ (cs_of (l := d) (C := callW T d) ro (scB_ok b2) hr ih) b1, ?_⟩
        obtain ⟨c, G, ds, n, k, x, b, rl, h, hv, hx⟩ := h
        obtain ⟨q1, q2⟩ := body h
        refine ⟨c, H, G, G, initE ds df.ns, n, _, _, x, ⟨b, initE_r hns rl (by omega)⟩, Ev.refl b.gc, q2, fun σ' env' G' H' n' p' e' _ hk => hv .non .non n' G' H' e' p'.b .non hk, fun v d n' G' H' e b r hk => hv v d n' G' H' e b r hk, fun nm n' σ' G' H' e b hk => hx nm n' G' H' e b hk⟩
    · cases hb
end
end PV
end
section
set_option Elab.async false
set_option linter.all false
set_option maxRecDepth 100000
set_option maxHeartbeats 8000000
namespace PV
open PySem PySem.Spec PyProof.Rows L2
/-! ### the law -/
/-- the law's def: its list of draws first, then the body -/
def lawB (R : RowT) (e : DefE) (body : SL) : Bool := (match defBody e.st with
  | .Assign [.Name y _] (.List [] _) _ :: rest => decide (e.N[1]? = some y) && stOk ⟨e.N, defScope e.st, none⟩ y && mB R ⟨e.N, defScope e.st, none⟩ body rest
  | _ => false) && scB e.N (e.N.take 1) (defScope e.st) && argsB (defArgs e.st) (e.N.take 1) && Nat.ble 2 e.N.length
def lawSp (K : PySem.W.Frag) : Sp := fun vs H Q _ => ∃ (a : Addr) (ns : List Int), vs = [.ref a] ∧ ns.length ≤ 63 ∧ Only H ∧ SqL K H a (ns.map V.int) ∧ ∀ H', Q (.bl true) H'
section
variable {P : Program} {w : World} {K : PySem.W.Frag} {mg : Str → Option Value} {base : Heap} {T : Nat → Option Df} {R : RowT}
theorem law_ok {le : DefE} {body : SL} {d : Nat} {fa : Addr} {fd : FuncData} (ro : RowOk K mg R) (nl : ∀ a o, K.lookup a = some o → o.cls ≠ .type "list") (hb : lawB R le body = true) (F : FunD K le.x le.x (defArgs le.st) (defBody le.st) (defScope le.st) [] [] fa fd)
    (fns : ∀ (x : Str) (f : Nat), R.fns.lookup x = some f → FnAt P w K mg base (d + 10) (callW T d) x f) (hl : LawHolds T d body le.N.length) : FnOk P w K mg base L2.CX0 (d + 11) fa fd (le.N.take 1) (lawSp K) := by
  unfold lawB at hb
  simp only [Bool.and_eq_true] at hb
  obtain ⟨⟨⟨b1, b2⟩, b3⟩, b4⟩ := hb
  have hN := Nat.le_of_ble_eq_true b4
  have hN1 : (le.N.take 1).length = 1 := by rw [List.length_take]; omega
  refine F.ok (CX := L2.CX0) (k := d + 10) (scB_ok b2) (fun vs H Q E h => ?_) (fun cdv A outer s H vs Q E hr h => ?_)
  · obtain ⟨a, ns, rfl, _⟩ := h
    rw [hN1]; rfl
  · obtain ⟨a, ns, rfl, hns, hO, hS, hQ⟩ := h
    have cs := cs_law (s := s) (H := H) (E := E) (outer := outer) (l := d) (C := callW T d) (P := P) (w := w) (mg := mg) (base := base) (qual := le.x) (f := fa) (cdv := cdv) (A := A) ro (scB_ok b2) hr fns
    split at b1 <;> try (cases b1; done)
    rename_i y py lp ap rest hbody
    rw [hbody]
    simp only [Bool.and_eq_true, decide_eq_true_eq] at b1
    obtain ⟨⟨q1, q2⟩, q3⟩ := b1
    refine ⟨_, pss_cons (ps_set (i := 1) cs.g.nd (by rw [cs.g.N]; exact q1) (cs.g.loc q2) (pe_lst pa_nil) (sw_plain rfl) (.inl rfl)) (pss_main body _ _ _ cs q3), ?_⟩
    refine ⟨Nat.zero_le _, fun p hp => ?_⟩
    -- the script
    have hsc : ∃ o, H a = some (.frz o (.lst (ns.map V.int))) := by
      rcases hS with (h | ⟨o, h⟩) | ⟨o, its, n, hk, hc, _⟩
      · rcases hO a with z | ⟨o, xs, z⟩
        · rw [z] at h; cases h
        · rw [z] at h; cases h
      · exact ⟨o, h⟩
      · exact absurd hc (nl a o hk)
    obtain ⟨o, ha⟩ := hsc
    have hap : a ≠ p := fun z => by rw [z, hp] at ha; cases ha
    refine ⟨p, upd H p (.lst []), fun b => if b = a then H a else none, fun b => if b = a then H a else none, initE [.scr ns, .st] le.N.length, 0, fun _ _ => False, fun v _ => v = .bl true, fun _ _ => False, ⟨⟨fun b u hb => ?_, ?_, [], upd_same, rfl⟩, ?_⟩, Ev.refl ?_, hl ns hns, fun _ _ _ _ _ _ _ _ z => z.elim, fun v dd n' G' H' _ _ rp hv => ?_, fun _ _ _ _ _ _ _ z => z.elim⟩
    · have hb : (if b = a then H a else none) = some u := hb
      split at hb
      · rename_i e; rw [e, upd_ne hap]; exact hb
      · cases hb
    · exact if_neg (Ne.symm hap)
    · refine ⟨by simp [initE, L2.start]; omega, fun i dd hi => ?_, fun i ds hi => ?_, fun i j b ds es hi _ _ _ => ?_, fun i lk kvs hi => ?_, fun i j b l l2 ks ks2 hi _ _ _ => ?_⟩
      · have hlen : 2 ≤ (L2.start le.N [V.ref a]).length := by simp [L2.start]; omega
        match i, hi with
        | 0, hi =>
          have e : dd = .scr ns := by simp [gt, initE] at hi; exact hi.symm
          subst e
          refine ⟨.ref a, by simp [L2.start], .scr (o := o) ?_⟩
          show (if a = a then H a else none) = _
          rw [if_pos rfl, ha]
        | 1, hi =>
          have e : dd = .st := by simp [gt, initE] at hi; exact hi.symm
          subst e
          exact ⟨.ref p, by rw [List.getElem?_set_self (by omega)], .st⟩
        | i + 2, hi =>
          exfalso
          unfold gt initE at hi
          rw [List.getD_eq_getElem?_getD, List.getElem?_append_right (by simp), List.getElem?_replicate] at hi
          split at hi <;> cases hi
      · exfalso
        unfold gt initE at hi
        rw [List.getD_eq_getElem?_getD] at hi
        match i, hi with
        | 0, hi => simp at hi
        | 1, hi => simp at hi
        | i + 2, hi =>
          rw [List.getElem?_append_right (by simp), List.getElem?_replicate] at hi
          split at hi <;> cases hi
      · exfalso
        unfold gt initE at hi
        rw [List.getD_eq_getElem?_getD] at hi
        match i, hi with
        | 0, hi => simp at hi
        | 1, hi => simp at hi
        | i + 2, hi =>
          rw [List.getElem?_append_right (by simp), List.getElem?_replicate] at hi
          split at hi <;> cases hi
      · exfalso
        unfold gt initE at hi
        rw [List.getD_eq_getElem?_getD] at hi
        match i, hi with
        | 0, hi => simp at hi
        | 1, hi => simp at hi
        | i + 2, hi =>
          rw [List.getElem?_append_right (by simp), List.getElem?_replicate] at hi
          split at hi <;> cases hi
      · exfalso
        unfold gt initE at hi
        rw [List.getD_eq_getElem?_getD] at hi
        match i, hi with
        | 0, hi => simp at hi
        | 1, hi => simp at hi
        | i + 2, hi =>
          rw [List.getElem?_append_right (by simp), List.getElem?_replicate] at hi
          split at hi <;> cases hi
    · exact if_neg (Ne.symm hap)
    · subst hv
      cases rp
      exact hQ H'
end
/-! ### the head's facts -/
def faOf (R : RowT) (es : List DefE) (le : DefE) : List He.Fa := (es.map fun e => .glo e.x) ++ [.glo le.x] ++ blts.map .free ++ R.exc.map .exc ++ R.exc.map .glo ++ R.exc.flatMap fun a => R.exc.map fun b => .exm a b (decide (a = b))
def fnOf (es : List DefE) (le : DefE) : List He.DefD := es.map DefE.d ++ [le.d]
theorem row_ok {K : PySem.W.Frag} {mg : Str → Option Value} {h : Heap} {R : RowT} {es : List DefE} {le : DefE} (X : K.In h) (G : h.Ns mainGlobals mg) (c : He.SaysD (faOf R es le) (fnOf es le) K) : RowOk K mg R where
  free := fun x hx => He.free_ok X G (says_fact c (f := .free x) (by unfold faOf; simp [hx]))
  exc := fun x hx => by
    obtain ⟨h1, h2, h3, h4⟩ := He.exc_ok (says_fact c (f := .exc x) (by unfold faOf; simp [hx]))
    exact ⟨He.glo_ok X G (says_fact c (f := .glo x) (by unfold faOf; simp [hx])), h1, h2, h3, h4⟩
  exm := fun a ha b hb => He.exm_ok (says_fact c (f := .exm a b (decide (a = b))) (by
    unfold faOf
    refine List.mem_append_right _ (List.mem_flatMap.mpr ⟨a, ha, List.mem_map.mpr ⟨b, hb, rfl⟩⟩)))
theorem def_ok {K : PySem.W.Frag} {mg : Str → Option Value} {h : Heap} {R : RowT} {es : List DefE} {le : DefE} (X : K.In h) (G : h.Ns mainGlobals mg) (c : He.SaysD (faOf R es le) (fnOf es le) K) {e : DefE} (he : e ∈ es ∨ e = le) :
    mg e.x = some (.ref (He.ga K e.x)) ∧ ∃ fd, FunD K e.x e.x (defArgs e.st) (defBody e.st) (defScope e.st) [] [] (He.ga K e.x) fd := by
  refine ⟨He.glo_ok X G (says_fact c (f := .glo e.x) ?_), says_def c (d := e.d) ?_⟩
  · unfold faOf
    rcases he with he | rfl
    · simp only [List.mem_append, List.mem_map]
      exact .inl (.inl (.inl (.inl (.inl ⟨e, he, rfl⟩))))
    · simp
  · unfold fnOf
    rcases he with he | rfl
    · exact List.mem_append_left _ (List.mem_map.mpr ⟨e, he, rfl⟩)
    · exact List.mem_append_right _ (by simp)
theorem facts {P : Program} {w : World} {K : PySem.W.Frag} {mg : Str → Option Value} {h : Heap} {T : Nat → Option Df} {R : RowT} {es : List DefE} {le : DefE} {body : SL} {d : Nat} {fa : Addr} {x : Str} (X : K.In h) (G : h.Ns mainGlobals mg) (hfa : mg le.x = some (.ref fa))
    (c : He.SaysD (faOf R es le) (fnOf es le) K) (nl : ∀ a o, K.lookup a = some o → o.cls ≠ .type "list") (dr : drawOk) (hR : R.fns = es.map fun e => (e.x, e.f)) (hT : T 0 = none) (he : es.all (entB R T) = true) (hb : lawB R le body = true) (hx : le.N.take 1 = [x]) (hl : LawHolds T d body le.N.length) :
    ∃ fd : FuncData, (∀ (s : Shared) (u : Value), BindsTo s fd ⟨[u], []⟩ [(x, u)]) ∧ ∀ base : Heap, K.In base → base.Ns mainGlobals mg → FnOk P w K mg base L2.CX0 (d + 11) fa fd [x] (lawSp K) := by
  have ro := row_ok X G c
  obtain ⟨h1, fd, F⟩ := def_ok X G c (e := le) (.inr rfl)
  rw [hfa] at h1
  cases h1
  have hb' := hb
  unfold lawB at hb'
  simp only [Bool.and_eq_true] at hb'
  refine ⟨fd, fun s u => ?_, fun base _ _ => ?_⟩
  · have := bindsA_ok F hb'.1.2 s [u] (by rw [hx]; rfl)
    rw [hx] at this
    exact this
  · have q := law_ok (P := P) (w := w) (mg := mg) (base := base) (T := T) (d := d) ro nl hb F (fun x f => fns_main dr ro hR hT (List.all_eq_true.mp he) (fun e hm => def_ok X G c (.inl hm)) d x f) hl
    rw [hx] at q
    exact q
end PV
end
section
set_option Elab.async false
set_option linter.all false
set_option maxRecDepth 100000
set_option maxHeartbeats 400000
namespace PV
open PySem
/-- one step -/
local macro_rules | `(tactic| o_asPy) => `(tactic| first
  | with_reducible refine wB0 ?_
  | with_reducible refine wB ?_
  | with_reducible refine wAs ?_
  | with_reducible refine wAo ?_
  | with_reducible refine wP2 ?_
  | with_reducible refine wP3 ?_
  | with_reducible refine wEx ?_
  | with_reducible refine wFi ?_
  | with_reducible refine wFo ?_
  | with_reducible refine wRe ?_
  | with_reducible refine wRa ?_
  | with_reducible refine wTy ?_
  | with_reducible refine wFz ?_
  | with_reducible refine wI ?_
  | with_reducible refine wBl ?_
  | with_reducible refine wN ?_
  | with_reducible refine wS ?_
  | with_reducible refine wTu ?_
  | with_reducible refine wLs ?_
  | with_reducible refine wBi ?_
  | with_reducible refine wCm ?_
  | with_reducible refine wCh ?_
  | with_reducible refine wNg ?_
  | with_reducible refine wNt ?_
  | with_reducible refine wAn ?_
  | with_reducible refine wOr ?_
  | with_reducible refine wIe ?_
  | with_reducible refine wCa ?_
  | with_reducible refine wBc ?_
  | with_reducible refine wIsi ?_
  | with_reducible refine wIx ?_
  | with_reducible refine wSl ?_
  | with_reducible refine wRv ?_
  | with_reducible refine wLc ?_
  | with_reducible refine wL2 ?_
  | with_reducible refine wL0 ?_
  | with_reducible refine wL ?_
  | with_reducible refine wO0 ?_
  | with_reducible refine wO ?_
  | with_reducible refine wC0 ?_
  | with_reducible refine wC ?_
  | with_reducible refine wIex ?_
  | with_reducible refine wIr1 ?_
  | with_reducible refine wIr2 ?_
  | with_reducible refine wIen ?_
  | with_reducible refine wIzp ?_
  | with_reducible refine wF ?_
  | with_reducible refine wFt ?_
  | with_reducible refine wKb ?_
  | with_reducible refine oAdd ?_
  | with_reducible refine oSub ?_
  | with_reducible refine oNg ?_
  | with_reducible refine oInt ?_
  | with_reducible refine oSqT ?_
  | with_reducible refine oSqL ?_
  | with_reducible refine oSqR ?_
  | with_reducible refine oLt ?_
  | with_reducible refine oLe ?_
  | with_reducible refine oGt ?_
  | with_reducible refine oGe ?_
  | with_reducible refine oEqI ?_
  | with_reducible refine oNeI ?_
  | with_reducible refine bLenT ?_
  | with_reducible refine bLenL ?_
  | with_reducible refine bLenR ?_
  | with_reducible refine bAbs ?_
  | with_reducible refine bList ?_
  | with_reducible refine bListT ?_
  | with_reducible refine bTup ?_
  | with_reducible refine bTupT ?_
  | with_reducible refine oST ?_
  | with_reducible refine oSL ?_
  | with_reducible refine oZTT ?_
  | with_reducible refine oZTL ?_
  | with_reducible refine oZLT ?_
  | with_reducible refine oZLL ?_
  | with_reducible refine oET ?_
  | with_reducible refine oEL ?_
  | ((with_reducible refine' wV ?h ?_); (case h => rfl))
  | ((with_reducible refine' wVo ?h ?_); (case h => rfl))
  | ((with_reducible refine' wAg ?h ?_); (case h => rfl))
  | ((with_reducible refine' wAp ?h ?_); (case h => rfl))
  | ((with_reducible refine' wSi ?h ?_); (case h => rfl))
  | ((with_reducible refine' wSta ?h ?_); (case h => rfl))
  | ((with_reducible refine' wSts ?h ?_); (case h => rfl))
  | ((with_reducible refine' wOl ?h ?_); (case h => rfl))
  | ((with_reducible refine' wOi ?h ?_); (case h => rfl))
  | ((with_reducible refine' wStl ?h ?_); (case h => rfl))
  | ((with_reducible refine' wFtN ?h ?_); (case h => rfl))
  | ((with_reducible refine' wA ?h ?_); (case h => rfl))
  | ((with_reducible refine' oT ?h ?_); (case h => rfl))
  | ((with_reducible refine' oI ?h ?_); (case h => rfl))
  | ((with_reducible refine' oXT ?h ?_); (case h => rfl))
  | ((with_reducible refine' oXL ?h ?_); (case h => rfl))
  | ((with_reducible refine' iteT ?h ?_); (case h => rfl))
  | ((with_reducible refine' iteF ?h ?_); (case h => rfl))
  | ((with_reducible refine' wSet ?h ?_); (case h => rfl))
  | ((with_reducible refine' wSetO ?h ?_); (case h => rfl))
  | ((with_reducible refine' oCatT ?h ?_); (case h => simp [small]; done)))
theorem draw_t2 {C : Cal} {sc : List Int} {m z kk : Int} {n : Nat} {k : KD} {kE : Env → Nat → Prop} {x : KX} (h2 : 0 < m) (h0 : 0 < n) (hk0 : 0 ≤ kk) (hk : kk < 2000000) (h4 : ∀ r : Int, 0 ≤ r → r < m → k (.int r) n) : evB C drawT2 [.val (.scr sc), .val .st, .val (.int m), .val (.int z), .val (.int kk), .no, .no, .no] n kE k x := by
  repeat o_asPy
  refine wStx rfl h0 fun z1 => ?_
  repeat o_asPy
  refine oMod (by decide) ?_
  repeat o_asPy
  refine wStx rfl h0 fun z2 => ?_
  repeat o_asPy
  refine oDiv (by decide) (div_ok (by decide)) ?_
  repeat o_asPy
  refine ⟨h0, ?_⟩
  have q1 := mod_lt (a := z1) (b := 65536) (by decide)
  generalize z1 % 65536 = d1 at q1
  repeat o_asPy
  refine oMul (mul_ok (by decide) (nab 65536 q1.1 (by omega) (by decide))) ?_
  repeat o_asPy
  refine oMul (mul_ok (by decide) (nab 2000000 hk0 (by omega) (by decide))) ?_
  repeat o_asPy
  refine oMod (by decide) ?_
  have q2 := mod_lt (a := z + 40503 * d1 + 104729 * kk) (b := 4294967291) (by decide)
  generalize (z + 40503 * d1 + 104729 * kk) % 4294967291 = d2 at q2
  have p2 : d2.natAbs < 2 ^ 200 := nab 4294967291 q2.1 (by omega) (by decide)
  repeat o_asPy
  refine oMul (mul_ok p2 p2) ?_
  repeat o_asPy
  refine oMod (by decide) ?_
  have q3 := mod_lt (a := d2 * d2) (b := 4294967279) (by decide)
  generalize d2 * d2 % 4294967279 = d3 at q3
  repeat o_asPy
  refine oMul (mul_ok (nab 4294967279 q3.1 (by omega) (by decide)) (by decide)) ?_
  repeat o_asPy
  refine oMod (by decide) ?_
  have q4 := mod_lt (a := d3 * 48271) (b := 4294967291) (by decide)
  generalize d3 * 48271 % 4294967291 = d4 at q4
  have p4 : d4.natAbs < 2 ^ 200 := nab 4294967291 q4.1 (by omega) (by decide)
  repeat o_asPy
  refine oMul (mul_ok p4 p4) ?_
  repeat o_asPy
  refine oMod (by decide) ?_
  have q5 := mod_lt (a := d4 * d4) (b := 4294967279) (by decide)
  generalize d4 * d4 % 4294967279 = d5 at q5
  repeat o_asPy
  refine oMul (mul_ok (nab 4294967279 q5.1 (by omega) (by decide)) (by decide)) ?_
  repeat o_asPy
  refine oMod (by decide) ?_
  generalize d5 * 69621 % 4294967291 = d6
  repeat o_asPy
  refine oDiv (by decide) (div_ok (by decide)) ?_
  repeat o_asPy
  refine oMul (mul_ok (nab 4294967291 (by omega) (by omega) (by decide)) (by decide)) ?_
  repeat o_asPy
  refine oDiv (by decide) (div_ok (by decide)) ?_
  repeat o_asPy
  refine oMod h2 ?_
  repeat o_asPy
  have q7 := mod_lt (a := d4 / 64 * 67108864 + d6 / 64) h2
  exact h4 _ q7.1 q7.2
theorem draw_tl {C : Cal} {sc : List Int} {m : Int} {n : Nat} {k : KD} {kE : Env → Nat → Prop} {x : KX} (h1 : sc.length ≤ 63) (h2 : 0 < m) (h3 : n ≤ 1000002) (h4 : ∀ r : Int, 0 ≤ r → r < m → k (.int r) (n + 1)) : evB C drawTl (initE [.scr sc, .st, .int m] 8) n kE k x := by
  repeat o_asPy
  refine ⟨by omega, ?_⟩
  repeat o_asPy
  refine oItr (fun hs => ?_) (fun hs => ?_)
  · repeat o_asPy
    have hp : 0 < (sc.length : Int) := by cases sc <;> simp at hs ⊢ <;> omega
    refine oMod hp ?_
    have q := mod_lt (a := ((n + 1 : Nat) : Int)) hp
    generalize ((n + 1 : Nat) : Int) % (sc.length : Int) = j at q
    have hj : j.toNat < sc.length := by omega
    refine oXR (d := .int sc[j.toNat]) ?_ ?_
    · unfold ixd
      rw [if_pos q.1, List.getElem?_map, List.getElem?_eq_getElem hj]; rfl
    repeat o_asPy
    exact draw_t2 h2 (by omega) (by omega) (by omega) h4
  · repeat o_asPy
    exact draw_t2 h2 (by omega) (by omega) (by omega) h4
theorem draw_ok : drawOk := by
  intro C ds n k x h
  unfold drawK at h
  split at h
  · rename_i sc m
    obtain ⟨h1, h2, h3, h4⟩ := h
    refine ⟨rfl, ?_⟩
    repeat o_asPy
    refine oItr (fun hn => ?_) (fun hn => ?_)
    · repeat o_asPy
      refine lc_map (fun d => match d with
        | .int a => .int (if a < 0 then -a else a)
        | d => d) _ _ _ _ _ (fun d hd kk hk => ?_) ?_ ?_
      · obtain ⟨a, _, rfl⟩ := List.mem_map.mp hd
        unfold lcF
        repeat o_asPy
        exact hk
      · simp [small]; omega
      · repeat o_asPy
        refine ⟨by simp [small], ?_⟩
        repeat o_asPy
        refine oCatL ?_ ?_
        · simp [small]; omega
        repeat o_asPy
        have e : allInts ([] ++ List.map (fun d => match d with
            | .int a => .int (if a < 0 then -a else a)
            | d => d) (List.map D.int sc) ++ [.int 0]) = some (sc.map (fun a => if a < 0 then -a else a) ++ [0]) := by
          rw [List.nil_append, List.map_map]
          exact allInts_append (by rw [show ((fun d => match d with
            | .int a => .int (if a < 0 then -a else a)
            | d => d) ∘ D.int) = D.int ∘ (fun a : Int => if a < 0 then -a else a) from rfl, ← List.map_map]; exact allInts_map _) rfl
        refine ⟨_, e, by simp, fun z _ _ => ?_⟩
        repeat o_asPy
        refine ⟨by omega, ?_⟩
        exact draw_tl h1 h2 (by omega) fun r hr hm => h4 r _ hr hm (by omega) (by omega)
    · refine wB0 ?_
      exact draw_tl h1 h2 (by omega) fun r hr hm => h4 r _ hr hm (by omega) (by omega)
  · exact h.elim
end PV
end
section
set_option Elab.async false
set_option linter.all false
set_option maxRecDepth 100000
set_option maxHeartbeats 0
namespace PVR
open PySem PySem.Spec PyProof.Rows PV
abbrev d_common_divisor : Df := ⟨2, 2, (.cons (.wh (.v 1) [] (.cons (.p2 0 false 1 false (.v 1) (.bi .mod (.v 0) (.v 1))) .nil)) (.cons (.re (.v 0)) .nil))⟩
abbrev d_lowest_terms : Df := ⟨2, 3, (.cons (.fi (.cm .lt (.v 1) (.i 0)) (.cons (.p2 0 false 1 false (.ng (.v 0)) (.ng (.v 1))) .nil) .nil) (.cons (.as (.nm 2) (.ca 1 (.cons (.bc .abs (.v 0)) (.cons (.v 1) .nil)))) (.cons (.re (.tu (.cons (.bi .fdiv (.v 0) (.v 2)) (.cons (.bi .fdiv (.v 1) (.v 2)) .nil)))) .nil)))⟩
abbrev d_is_fraction : Df := ⟨1, 2, (.cons (.fi (.or (.nt (.isi .tuple (.v 0))) (.cm .ne (.bc .len (.v 0)) (.i 2))) (.cons (.re (.b false)) .nil) .nil) (.cons (.fi (.or (.nt (.bc .all (.lc (.an (.isi .int (.v 1)) (.nt (.isi .bool (.v 1)))) (.nm 1) (.ex (.v 0)) .no))) (.cm .lt (.ix (.v 0) (.i 1)) (.i 1))) (.cons (.re (.b false)) .nil) .nil) (.cons (.re (.cm .eq (.ca 1 (.cons (.bc .abs (.ix (.v 0) (.i 0))) (.cons (.ix (.v 0) (.i 1)) .nil))) (.i 1))) .nil)))⟩
abbrev d_plus : Df := ⟨2, 2, (.cons (.re (.ca 2 (.cons (.bi .add (.bi .mul (.ix (.v 0) (.i 0)) (.ix (.v 1) (.i 1))) (.bi .mul (.ix (.v 1) (.i 0)) (.ix (.v 0) (.i 1)))) (.cons (.bi .mul (.ix (.v 0) (.i 1)) (.ix (.v 1) (.i 1))) .nil)))) .nil)⟩
abbrev d_total_of : Df := ⟨1, 3, (.cons (.as (.nm 1) (.tu (.cons (.i 0) (.cons (.i 1) .nil)))) (.cons (.fo (.nm 2) (.ex (.v 0)) [2] (.cons (.as (.nm 1) (.ca 4 (.cons (.v 1) (.cons (.v 2) .nil)))) .nil)) (.cons (.re (.v 1)) .nil)))⟩
abbrev d_is_integer : Df := ⟨3, 3, (.cons (.re (.an (.isi .int (.v 0)) (.an (.nt (.isi .bool (.v 0))) (.ch .le .le (.v 1) (.v 0) (.v 2))))) .nil)⟩
abbrev d_is_chance : Df := ⟨1, 1, (.cons (.re (.an (.ca 3 (.cons (.v 0) .nil)) (.ch .le .le (.i 0) (.ix (.v 0) (.i 0)) (.ix (.v 0) (.i 1))))) .nil)⟩
abbrev d_is_set : Df := ⟨2, 4, (.cons (.fi (.or (.nt (.isi .tuple (.v 1))) (.nt (.bc .all (.lc (.ca 6 (.cons (.v 2) (.cons (.i 0) (.cons (.bi .sub (.v 0) (.i 1)) .nil)))) (.nm 2) (.ex (.v 1)) .no)))) (.cons (.re (.b false)) .nil) .nil) (.cons (.re (.bc .all (.lc (.cm .lt (.v 2) (.v 3)) (.tp (.cons (.nm 2) (.cons (.nm 3) .nil))) (.zp (.v 1) (.sl (.v 1) (.so (.i 1)) .no)) .no))) .nil))⟩
abbrev d_is_draw : Df := ⟨2, 2, (.cons (.fi (.or (.nt (.isi .tuple (.v 1))) (.or (.cm .ne (.bc .len (.v 1)) (.i 2)) (.nt (.ca 8 (.cons (.v 0) (.cons (.ix (.v 1) (.i 0)) .nil)))))) (.cons (.re (.b false)) .nil) .nil) (.cons (.re (.an (.ca 7 (.cons (.ix (.v 1) (.i 1)) .nil)) (.cm .gt (.ix (.ix (.v 1) (.i 1)) (.i 0)) (.i 0)))) .nil))⟩
abbrev d_is_plan : Df := ⟨1, 7, (.cons (.fi (.or (.nt (.isi .tuple (.v 0))) (.or (.cm .ne (.bc .len (.v 0)) (.i 2)) (.nt (.ca 6 (.cons (.ix (.v 0) (.i 0)) (.cons (.i 1) (.cons (.i 5) .nil))))))) (.cons (.re (.b false)) .nil) .nil) (.cons (.as (.tp (.cons (.nm 1) (.cons (.nm 2) .nil))) (.v 0)) (.cons (.fi (.or (.nt (.isi .tuple (.v 2))) (.nt (.bc .all (.lc (.ca 9 (.cons (.v 1) (.cons (.v 3) .nil))) (.nm 3) (.ex (.v 2)) .no)))) (.cons (.re (.b false)) .nil) .nil) (.cons (.fi (.nt (.bc .all (.lc (.cm .lt (.ix (.v 3) (.i 0)) (.ix (.v 4) (.i 0))) (.tp (.cons (.nm 3) (.cons (.nm 4) .nil))) (.zp (.v 2) (.sl (.v 2) (.so (.i 1)) .no)) .no))) (.cons (.re (.b false)) .nil) .nil) (.cons (.re (.cm .eq (.ca 5 (.cons (.lc (.v 6) (.tp (.cons (.nm 5) (.cons (.nm 6) .nil))) (.ex (.v 2)) .no) .nil)) (.tu (.cons (.i 1) (.cons (.i 1) .nil))))) .nil)))))⟩
abbrev d_law_shuffled : Df := ⟨3, 5, (.cons (.p2 3 true 4 true (.bc .list (.v 2)) (.ls .nil)) (.cons (.wh (.v 3) [] (.cons (.pp 4 3 (.ca 0 (.cons (.v 0) (.cons (.v 1) (.cons (.ol 3) .nil))))) .nil)) (.cons (.fz [4]) (.cons (.re (.v 4)) .nil))))⟩
abbrev d_law_fraction : Df := ⟨2, 5, (.cons (.p2 2 false 3 false (.bc .abs (.v 0)) (.bc .abs (.v 1))) (.cons (.wh (.v 3) [] (.cons (.p2 2 false 3 false (.v 3) (.bi .mod (.v 2) (.v 3))) .nil)) (.cons (.as (.nm 4) (.ie (.cm .gt (.v 1) (.i 0)) (.i 1) (.ng (.i 1)))) (.cons (.re (.tu (.cons (.bi .fdiv (.bi .mul (.v 4) (.v 0)) (.v 2)) (.cons (.bi .fdiv (.bc .abs (.v 1)) (.v 2)) .nil)))) .nil))))⟩
abbrev d_law_plus : Df := ⟨2, 2, (.cons (.re (.ca 14 (.cons (.bi .add (.bi .mul (.ix (.v 0) (.i 0)) (.ix (.v 1) (.i 1))) (.bi .mul (.ix (.v 1) (.i 0)) (.ix (.v 0) (.i 1)))) (.cons (.bi .mul (.ix (.v 0) (.i 1)) (.ix (.v 1) (.i 1))) .nil)))) .nil)⟩
abbrev d_law_total : Df := ⟨1, 3, (.cons (.as (.nm 1) (.tu (.cons (.i 0) (.cons (.i 1) .nil)))) (.cons (.fo (.nm 2) (.ex (.v 0)) [2] (.cons (.as (.nm 1) (.ca 15 (.cons (.v 1) (.cons (.v 2) .nil)))) .nil)) (.cons (.re (.v 1)) .nil)))⟩
abbrev d_law_sets : Df := ⟨1, 4, (.cons (.as (.nm 1) (.ls (.cons (.tu .nil) .nil))) (.cons (.fo (.nm 2) (.r1 (.v 0)) [2] (.cons (.as (.nm 1) (.bi .add (.v 1) (.lc (.bi .add (.v 3) (.tu (.cons (.v 2) .nil))) (.nm 3) (.ex (.v 1)) .no))) .nil)) (.cons (.re (.bc .sorted (.v 1))) .nil)))⟩
abbrev d_law_plan : Df := ⟨3, 8, (.cons (.as (.nm 3) (.bi .add (.i 1) (.ca 0 (.cons (.v 0) (.cons (.v 1) (.cons (.v 2) .nil)))))) (.cons (.as (.nm 4) (.sl (.ca 12 (.cons (.v 0) (.cons (.v 1) (.cons (.ca 17 (.cons (.v 3) .nil)) .nil)))) .no (.so (.bi .add (.i 1) (.ca 0 (.cons (.v 0) (.cons (.v 1) (.cons (.i 5) .nil)))))))) (.cons (.as (.nm 5) (.lc (.bi .add (.i 1) (.ca 0 (.cons (.v 0) (.cons (.v 1) (.cons (.i 4) .nil))))) (.nm 6) (.ex (.v 4)) .no)) (.cons (.re (.tu (.cons (.v 3) (.cons (.bc .tuple (.bc .sorted (.lc (.tu (.cons (.v 6) (.cons (.ca 14 (.cons (.v 7) (.cons (.bc .sum (.v 5)) .nil))) .nil))) (.tp (.cons (.nm 6) (.cons (.nm 7) .nil))) (.zp (.v 4) (.v 5)) .no))) .nil)))) .nil))))⟩
abbrev d_require_plan : Df := ⟨1, 1, (.cons (.fi (.nt (.ca 10 (.cons (.v 0) .nil))) (.cons (.ra "InvalidPlan") .nil) .nil) .nil)⟩
abbrev d_samples : Df := ⟨1, 3, (.cons (.ex (.ca 23 (.cons (.v 0) .nil))) (.cons (.re (.lc (.v 1) (.tp (.cons (.nm 1) (.cons (.nm 2) .nil))) (.ex (.ix (.v 0) (.i 1))) .no)) .nil))⟩
abbrev d_chance : Df := ⟨2, 2, (.cons (.ex (.ca 23 (.cons (.v 0) .nil))) (.cons (.fi (.nt (.ca 8 (.cons (.ix (.v 0) (.i 0)) (.cons (.v 1) .nil)))) (.cons (.re (.tu (.cons (.i 0) (.cons (.i 1) .nil)))) .nil) .nil) (.cons (.re (.dg (.ix (.v 0) (.i 1)) (.v 1) (.tu (.cons (.i 0) (.cons (.i 1) .nil))))) .nil)))⟩
abbrev d_joint_of : Df := ⟨3, 5, (.cons (.re (.ca 5 (.cons (.lc (.v 4) (.tp (.cons (.nm 3) (.cons (.nm 4) .nil))) (.ex (.ix (.v 0) (.i 1))) (.so (.an (.cm .in_ (.v 1) (.v 3)) (.cm .in_ (.v 2) (.v 3))))) .nil))) .nil)⟩
abbrev d_chances_of : Df := ⟨1, 2, (.cons (.re (.bc .tuple (.lc (.ca 37 (.cons (.v 0) (.cons (.v 1) (.cons (.v 1) .nil)))) (.nm 1) (.r1 (.ix (.v 0) (.i 0))) .no))) .nil)⟩
abbrev d_chances : Df := ⟨1, 1, (.cons (.ex (.ca 23 (.cons (.v 0) .nil))) (.cons (.re (.ca 38 (.cons (.v 0) .nil))) .nil))⟩
abbrev d_minus : Df := ⟨2, 2, (.cons (.re (.ca 4 (.cons (.v 0) (.cons (.tu (.cons (.ng (.ix (.v 1) (.i 0))) (.cons (.ix (.v 1) (.i 1)) .nil))) .nil)))) .nil)⟩
abbrev d_times : Df := ⟨2, 2, (.cons (.re (.ca 2 (.cons (.bi .mul (.ix (.v 0) (.i 0)) (.ix (.v 1) (.i 0))) (.cons (.bi .mul (.ix (.v 0) (.i 1)) (.ix (.v 1) (.i 1))) .nil)))) .nil)⟩
abbrev d_whole : Df := ⟨1, 1, (.cons (.re (.tu (.cons (.v 0) (.cons (.i 1) .nil)))) .nil)⟩
abbrev d_mean_of : Df := ⟨2, 5, (.cons (.re (.ca 5 (.cons (.lc (.ca 49 (.cons (.v 3) (.cons (.v 4) .nil))) (.tp (.cons (.tp (.cons (.nm 2) (.cons (.nm 3) .nil))) (.cons (.nm 4) .nil))) (.zp (.ix (.v 0) (.i 1)) (.v 1)) .no) .nil))) .nil)⟩
abbrev d_variance_of : Df := ⟨2, 6, (.cons (.as (.nm 2) (.ca 51 (.cons (.v 0) (.cons (.v 1) .nil)))) (.cons (.as (.nm 3) (.lc (.ca 48 (.cons (.v 4) (.cons (.v 2) .nil))) (.nm 4) (.ex (.v 1)) .no)) (.cons (.re (.ca 51 (.cons (.v 0) (.cons (.lc (.ca 49 (.cons (.v 5) (.cons (.v 5) .nil))) (.nm 5) (.ex (.v 3)) .no) .nil)))) .nil)))⟩
abbrev d_law_minus : Df := ⟨2, 2, (.cons (.re (.ca 15 (.cons (.v 0) (.cons (.tu (.cons (.ng (.ix (.v 1) (.i 0))) (.cons (.ix (.v 1) (.i 1)) .nil))) .nil)))) .nil)⟩
abbrev d_law_times : Df := ⟨2, 2, (.cons (.re (.ca 14 (.cons (.bi .mul (.ix (.v 0) (.i 0)) (.ix (.v 1) (.i 0))) (.cons (.bi .mul (.ix (.v 0) (.i 1)) (.ix (.v 1) (.i 1))) .nil)))) .nil)⟩
abbrev d_law_below : Df := ⟨2, 2, (.cons (.re (.cm .lt (.bi .mul (.ix (.v 0) (.i 0)) (.ix (.v 1) (.i 1))) (.bi .mul (.ix (.v 1) (.i 0)) (.ix (.v 0) (.i 1))))) .nil)⟩
abbrev d_over : Df := ⟨2, 2, (.cons (.re (.ca 2 (.cons (.bi .mul (.ix (.v 0) (.i 0)) (.ix (.v 1) (.i 1))) (.cons (.bi .mul (.ix (.v 0) (.i 1)) (.ix (.v 1) (.i 0))) .nil)))) .nil)⟩
abbrev d_require_sample : Df := ⟨2, 4, (.cons (.fi (.or (.nt (.ca 8 (.cons (.ix (.v 0) (.i 0)) (.cons (.v 1) .nil)))) (.cm .nin (.v 1) (.lc (.v 2) (.tp (.cons (.nm 2) (.cons (.nm 3) .nil))) (.ex (.ix (.v 0) (.i 1))) .no))) (.cons (.ra "InvalidSample") .nil) .nil) .nil)⟩
abbrev d_require_values : Df := ⟨2, 3, (.cons (.fi (.or (.nt (.isi .tuple (.v 1))) (.cm .ne (.bc .len (.v 1)) (.v 0))) (.cons (.ra "InvalidValues") .nil) .nil) (.cons (.fi (.nt (.bc .all (.lc (.ca 6 (.cons (.v 2) (.cons (.ng (.i 99)) (.cons (.i 99) .nil)))) (.nm 2) (.ex (.v 1)) .no))) (.cons (.ra "InvalidValues") .nil) .nil) .nil))⟩
abbrev d_estimate_of : Df := ⟨3, 4, (.cons (.re (.ca 5 (.cons (.lc (.ca 136 (.cons (.ca 50 (.cons (.ix (.v 0) (.v 3)) .nil)) (.cons (.ix (.v 1) (.v 3)) .nil))) (.nm 3) (.ex (.v 2)) .no) .nil))) .nil)⟩
abbrev d_estimates_of : Df := ⟨2, 5, (.cons (.as (.nm 2) (.ca 38 (.cons (.v 0) .nil))) (.cons (.re (.lc (.ca 139 (.cons (.v 1) (.cons (.v 2) (.cons (.v 3) .nil)))) (.tp (.cons (.nm 3) (.cons (.nm 4) .nil))) (.ex (.ix (.v 0) (.i 1))) .no)) .nil))⟩
abbrev d_require_both : Df := ⟨2, 2, (.cons (.ex (.ca 23 (.cons (.v 0) .nil))) (.cons (.ex (.ca 138 (.cons (.ix (.v 0) (.i 0)) (.cons (.v 1) .nil)))) .nil))⟩
abbrev d_estimate : Df := ⟨3, 3, (.cons (.ex (.ca 141 (.cons (.v 0) (.cons (.v 1) .nil)))) (.cons (.ex (.ca 137 (.cons (.v 0) (.cons (.v 2) .nil)))) (.cons (.re (.ca 139 (.cons (.v 1) (.cons (.ca 38 (.cons (.v 0) .nil)) (.cons (.v 2) .nil))))) .nil)))⟩
abbrev d_variance : Df := ⟨2, 2, (.cons (.ex (.ca 141 (.cons (.v 0) (.cons (.v 1) .nil)))) (.cons (.re (.ca 52 (.cons (.v 0) (.cons (.ca 140 (.cons (.v 0) (.cons (.v 1) .nil))) .nil)))) .nil))⟩
abbrev d_law_values : Df := ⟨3, 4, (.cons (.re (.bc .tuple (.lc (.bi .sub (.ca 0 (.cons (.v 0) (.cons (.v 1) (.cons (.i 13) .nil)))) (.i 6)) (.nm 3) (.r1 (.v 2)) .no))) .nil)⟩
abbrev d_is_unbiased : Df := ⟨1, 2, (.cons (.ex (.ca 23 (.cons (.v 0) .nil))) (.cons (.re (.bc .all (.lc (.cm .gt (.ix (.v 1) (.i 0)) (.i 0)) (.nm 1) (.ex (.ca 38 (.cons (.v 0) .nil))) .no))) .nil))⟩
abbrev d_require_weights : Df := ⟨2, 3, (.cons (.ex (.ca 23 (.cons (.v 0) .nil))) (.cons (.fi (.or (.nt (.isi .tuple (.v 1))) (.or (.cm .ne (.bc .len (.v 1)) (.ix (.v 0) (.i 0))) (.nt (.bc .all (.lc (.ca 3 (.cons (.v 2) .nil)) (.nm 2) (.ex (.v 1)) .no))))) (.cons (.ra "InvalidWeights") .nil) .nil) .nil))⟩
abbrev d_linear_of : Df := ⟨3, 4, (.cons (.re (.ca 5 (.cons (.lc (.ca 49 (.cons (.ix (.v 0) (.v 3)) (.cons (.ca 50 (.cons (.ix (.v 1) (.v 3)) .nil)) .nil))) (.nm 3) (.ex (.v 2)) .no) .nil))) .nil)⟩
abbrev d_linear : Df := ⟨4, 4, (.cons (.ex (.ca 184 (.cons (.v 0) (.cons (.v 1) .nil)))) (.cons (.ex (.ca 138 (.cons (.ix (.v 0) (.i 0)) (.cons (.v 2) .nil)))) (.cons (.ex (.ca 137 (.cons (.v 0) (.cons (.v 3) .nil)))) (.cons (.re (.ca 185 (.cons (.v 1) (.cons (.v 2) (.cons (.v 3) .nil))))) .nil))))⟩
abbrev d_factors : Df := ⟨2, 4, (.cons (.ex (.ca 184 (.cons (.v 0) (.cons (.v 1) .nil)))) (.cons (.re (.bc .tuple (.lc (.ca 48 (.cons (.ca 49 (.cons (.v 2) (.cons (.v 3) .nil))) (.cons (.tu (.cons (.i 1) (.cons (.i 1) .nil))) .nil))) (.tp (.cons (.nm 2) (.cons (.nm 3) .nil))) (.zp (.v 1) (.ca 38 (.cons (.v 0) .nil))) .no))) .nil))⟩
abbrev d_right_weights : Df := ⟨1, 3, (.cons (.ex (.ca 23 (.cons (.v 0) .nil))) (.cons (.as (.nm 1) (.ca 38 (.cons (.v 0) .nil))) (.cons (.fi (.bc .any (.lc (.cm .eq (.ix (.v 2) (.i 0)) (.i 0)) (.nm 2) (.ex (.v 1)) .no)) (.cons (.re .n) .nil) .nil) (.cons (.re (.bc .tuple (.lc (.ca 136 (.cons (.tu (.cons (.i 1) (.cons (.i 1) .nil))) (.cons (.v 2) .nil))) (.nm 2) (.ex (.v 1)) .no))) .nil))))⟩
abbrev d_square_error : Df := ⟨3, 7, (.cons (.ex (.ca 184 (.cons (.v 0) (.cons (.v 1) .nil)))) (.cons (.ex (.ca 138 (.cons (.ix (.v 0) (.i 0)) (.cons (.v 2) .nil)))) (.cons (.as (.nm 3) (.lc (.ca 48 (.cons (.ca 185 (.cons (.v 1) (.cons (.v 2) (.cons (.v 4) .nil)))) (.cons (.ca 50 (.cons (.bc .sum (.v 2)) .nil)) .nil))) (.tp (.cons (.nm 4) (.cons (.nm 5) .nil))) (.ex (.ix (.v 0) (.i 1))) .no)) (.cons (.re (.ca 51 (.cons (.v 0) (.cons (.lc (.ca 49 (.cons (.v 6) (.cons (.v 6) .nil))) (.nm 6) (.ex (.v 3)) .no) .nil)))) .nil))))⟩
abbrev d_law_weights : Df := ⟨3, 5, (.cons (.ao 3 (.ls .nil)) (.cons (.fo (.nm 4) (.r1 (.v 2)) [4] (.cons (.ap 3 (.ca 14 (.cons (.bi .sub (.ca 0 (.cons (.v 0) (.cons (.v 1) (.cons (.i 7) .nil)))) (.i 2)) (.cons (.bi .add (.i 1) (.ca 0 (.cons (.v 0) (.cons (.v 1) (.cons (.i 3) .nil))))) .nil)))) .nil)) (.cons (.fz [3]) (.cons (.re (.bc .tuple (.v 3))) .nil))))⟩
abbrev d_law_holds4 : Df := ⟨3, 11, (.cons (.as (.nm 3) (.ca 24 (.cons (.v 0) .nil))) (.cons (.as (.nm 4) (.ca 16 (.cons (.lc (.ca 58 (.cons (.ca 25 (.cons (.v 0) (.cons (.v 9) .nil))) (.cons (.ca 186 (.cons (.v 0) (.cons (.v 1) (.cons (.v 2) (.cons (.v 9) .nil))))) .nil))) (.nm 9) (.ex (.v 3)) .no) .nil))) (.cons (.as (.nm 5) (.ca 16 (.cons (.lc (.ca 58 (.cons (.v 8) (.cons (.tu (.cons (.v 10) (.cons (.i 1) .nil))) .nil))) (.tp (.cons (.nm 8) (.cons (.nm 10) .nil))) (.zp (.ca 187 (.cons (.v 0) (.cons (.v 1) .nil))) (.v 2)) .no) .nil))) (.cons (.fi (.cm .ne (.ca 57 (.cons (.v 4) (.cons (.tu (.cons (.bc .sum (.v 2)) (.cons (.i 1) .nil))) .nil))) (.v 5)) (.cons (.re (.b false)) .nil) .nil) (.cons (.fi (.ca 64 (.cons (.ca 189 (.cons (.v 0) (.cons (.v 1) (.cons (.v 2) .nil)))) (.cons (.ca 58 (.cons (.v 5) (.cons (.v 5) .nil))) .nil))) (.cons (.re (.b false)) .nil) .nil) (.cons (.as (.nm 6) (.ca 188 (.cons (.v 0) .nil))) (.cons (.as (.nm 7) (.cm .eq (.lc (.v 8) (.nm 8) (.ex (.ca 187 (.cons (.v 0) (.cons (.v 1) .nil)))) (.so (.cm .ne (.v 8) (.tu (.cons (.i 0) (.cons (.i 1) .nil)))))) (.ls .nil))) (.cons (.fi (.or (.cm .ne (.v 7) (.cm .eq (.v 1) (.v 6))) (.cm .eq (.cm .is (.v 6) .n) (.ca 156 (.cons (.v 0) .nil)))) (.cons (.re (.b false)) .nil) .nil) (.cons (.fi (.cm .is (.v 6) .n) (.cons (.re (.cm .in_ (.tu (.cons (.i 0) (.cons (.i 1) .nil))) (.ca 39 (.cons (.v 0) .nil)))) .nil) .nil) (.cons (.fi (.lc (.v 8) (.nm 8) (.ex (.ca 187 (.cons (.v 0) (.cons (.v 6) .nil)))) (.so (.cm .ne (.v 8) (.tu (.cons (.i 0) (.cons (.i 1) .nil)))))) (.cons (.re (.b false)) .nil) .nil) (.cons (.fi (.lc (.v 9) (.nm 9) (.ex (.v 3)) (.so (.cm .ne (.ca 186 (.cons (.v 0) (.cons (.v 6) (.cons (.v 2) (.cons (.v 9) .nil))))) (.ca 142 (.cons (.v 0) (.cons (.v 2) (.cons (.v 9) .nil))))))) (.cons (.re (.b false)) .nil) .nil) (.cons (.re (.cm .eq (.ca 189 (.cons (.v 0) (.cons (.v 6) (.cons (.v 2) .nil)))) (.ca 144 (.cons (.v 0) (.cons (.v 2) .nil))))) .nil))))))))))))⟩
def T : Nat → Option Df
  | 1 => some d_common_divisor
  | 2 => some d_lowest_terms
  | 3 => some d_is_fraction
  | 4 => some d_plus
  | 5 => some d_total_of
  | 6 => some d_is_integer
  | 7 => some d_is_chance
  | 8 => some d_is_set
  | 9 => some d_is_draw
  | 10 => some d_is_plan
  | 12 => some d_law_shuffled
  | 14 => some d_law_fraction
  | 15 => some d_law_plus
  | 16 => some d_law_total
  | 17 => some d_law_sets
  | 18 => some d_law_plan
  | 23 => some d_require_plan
  | 24 => some d_samples
  | 25 => some d_chance
  | 37 => some d_joint_of
  | 38 => some d_chances_of
  | 39 => some d_chances
  | 48 => some d_minus
  | 49 => some d_times
  | 50 => some d_whole
  | 51 => some d_mean_of
  | 52 => some d_variance_of
  | 57 => some d_law_minus
  | 58 => some d_law_times
  | 64 => some d_law_below
  | 136 => some d_over
  | 137 => some d_require_sample
  | 138 => some d_require_values
  | 139 => some d_estimate_of
  | 140 => some d_estimates_of
  | 141 => some d_require_both
  | 142 => some d_estimate
  | 144 => some d_variance
  | 146 => some d_law_values
  | 156 => some d_is_unbiased
  | 184 => some d_require_weights
  | 185 => some d_linear_of
  | 186 => some d_linear
  | 187 => some d_factors
  | 188 => some d_right_weights
  | 189 => some d_square_error
  | 190 => some d_law_weights
  | 198 => some d_law_holds4
  | _ => none
theorem t_common_divisor : T 1 = some d_common_divisor := rfl
theorem t_lowest_terms : T 2 = some d_lowest_terms := rfl
theorem t_is_fraction : T 3 = some d_is_fraction := rfl
theorem t_plus : T 4 = some d_plus := rfl
theorem t_total_of : T 5 = some d_total_of := rfl
theorem t_is_integer : T 6 = some d_is_integer := rfl
theorem t_is_chance : T 7 = some d_is_chance := rfl
theorem t_is_set : T 8 = some d_is_set := rfl
theorem t_is_draw : T 9 = some d_is_draw := rfl
theorem t_is_plan : T 10 = some d_is_plan := rfl
theorem t_law_shuffled : T 12 = some d_law_shuffled := rfl
theorem t_law_fraction : T 14 = some d_law_fraction := rfl
theorem t_law_plus : T 15 = some d_law_plus := rfl
theorem t_law_total : T 16 = some d_law_total := rfl
theorem t_law_sets : T 17 = some d_law_sets := rfl
theorem t_law_plan : T 18 = some d_law_plan := rfl
theorem t_require_plan : T 23 = some d_require_plan := rfl
theorem t_samples : T 24 = some d_samples := rfl
theorem t_chance : T 25 = some d_chance := rfl
theorem t_joint_of : T 37 = some d_joint_of := rfl
theorem t_chances_of : T 38 = some d_chances_of := rfl
theorem t_chances : T 39 = some d_chances := rfl
theorem t_minus : T 48 = some d_minus := rfl
theorem t_times : T 49 = some d_times := rfl
theorem t_whole : T 50 = some d_whole := rfl
theorem t_mean_of : T 51 = some d_mean_of := rfl
theorem t_variance_of : T 52 = some d_variance_of := rfl
theorem t_law_minus : T 57 = some d_law_minus := rfl
theorem t_law_times : T 58 = some d_law_times := rfl
theorem t_law_below : T 64 = some d_law_below := rfl
theorem t_over : T 136 = some d_over := rfl
theorem t_require_sample : T 137 = some d_require_sample := rfl
theorem t_require_values : T 138 = some d_require_values := rfl
theorem t_estimate_of : T 139 = some d_estimate_of := rfl
theorem t_estimates_of : T 140 = some d_estimates_of := rfl
theorem t_require_both : T 141 = some d_require_both := rfl
theorem t_estimate : T 142 = some d_estimate := rfl
theorem t_variance : T 144 = some d_variance := rfl
theorem t_law_values : T 146 = some d_law_values := rfl
theorem t_is_unbiased : T 156 = some d_is_unbiased := rfl
theorem t_require_weights : T 184 = some d_require_weights := rfl
theorem t_linear_of : T 185 = some d_linear_of := rfl
theorem t_linear : T 186 = some d_linear := rfl
theorem t_factors : T 187 = some d_factors := rfl
theorem t_right_weights : T 188 = some d_right_weights := rfl
theorem t_square_error : T 189 = some d_square_error := rfl
theorem t_law_weights : T 190 = some d_law_weights := rfl
theorem t_law_holds4 : T 198 = some d_law_holds4 := rfl
abbrev lawBody : SL := (.cons (.fo (.nm 2) (.r1 (.i 8)) [2, 3, 4, 5] (.cons (.as (.nm 3) (.ca 18 (.cons (.v 0) (.cons (.v 1) (.cons (.i 5) .nil))))) (.cons (.p2 4 false 5 false (.ca 146 (.cons (.v 0) (.cons (.v 1) (.cons (.ix (.v 3) (.i 0)) .nil)))) (.ca 190 (.cons (.v 0) (.cons (.v 1) (.cons (.ix (.v 3) (.i 0)) .nil))))) (.cons (.fi (.nt (.ca 198 (.cons (.v 3) (.cons (.v 5) (.cons (.v 4) .nil))))) (.cons (.re (.b false)) .nil) .nil) (.cons (.fi (.an (.cm .isn (.ca 188 (.cons (.v 3) .nil)) .n) (.nt (.ca 198 (.cons (.v 3) (.cons (.ca 188 (.cons (.v 3) .nil)) (.cons (.v 4) .nil)))))) (.cons (.re (.b false)) .nil) .nil) .nil))))) (.cons (.re (.b true)) .nil))
def top (i : Nat) : Stmt := PySem.Challenge.pw_drawnsamples_k18_whole_linear.main.body.getD i (.Pass ⟨0, 0, 0, 0⟩)
def es : List DefE := [⟨"common_divisor", 1, ["one", "other"], top 7⟩,
  ⟨"lowest_terms", 2, ["top", "bottom", "divisor"], top 8⟩,
  ⟨"is_fraction", 3, ["candidate", "one"], top 9⟩,
  ⟨"plus", 4, ["one", "other"], top 10⟩,
  ⟨"minus", 48, ["one", "other"], top 11⟩,
  ⟨"times", 49, ["one", "other"], top 12⟩,
  ⟨"over", 136, ["one", "other"], top 13⟩,
  ⟨"total_of", 5, ["fractions", "found", "one"], top 14⟩,
  ⟨"whole", 50, ["number"], top 15⟩,
  ⟨"is_integer", 6, ["candidate", "least", "most"], top 17⟩,
  ⟨"is_chance", 7, ["candidate"], top 18⟩,
  ⟨"is_set", 8, ["units", "candidate", "one", "other"], top 19⟩,
  ⟨"is_draw", 9, ["units", "candidate"], top 20⟩,
  ⟨"is_plan", 10, ["candidate", "units", "draws", "one", "other", "sample", "own"], top 21⟩,
  ⟨"require_plan", 23, ["plan"], top 22⟩,
  ⟨"samples", 24, ["plan", "sample", "own"], top 23⟩,
  ⟨"chance", 25, ["plan", "candidate"], top 24⟩,
  ⟨"require_sample", 137, ["plan", "sample", "one", "own"], top 25⟩,
  ⟨"require_values", 138, ["units", "values", "one"], top 26⟩,
  ⟨"joint_of", 37, ["plan", "one", "other", "sample", "own"], top 28⟩,
  ⟨"chances_of", 38, ["plan", "unit"], top 29⟩,
  ⟨"chances", 39, ["plan"], top 30⟩,
  ⟨"mean_of", 51, ["plan", "numbers", "sample", "own", "number"], top 31⟩,
  ⟨"variance_of", 52, ["plan", "numbers", "middle", "rest", "number", "one"], top 32⟩,
  ⟨"require_weights", 184, ["plan", "weights", "one"], top 34⟩,
  ⟨"linear_of", 185, ["weights", "values", "sample", "unit"], top 35⟩,
  ⟨"linear", 186, ["plan", "weights", "values", "sample"], top 36⟩,
  ⟨"factors", 187, ["plan", "weights", "weight", "own"], top 37⟩,
  ⟨"right_weights", 188, ["plan", "own", "one"], top 38⟩,
  ⟨"square_error", 189, ["plan", "weights", "values", "rest", "sample", "share", "one"], top 39⟩,
  ⟨"estimate_of", 139, ["values", "own", "sample", "unit"], top 41⟩,
  ⟨"estimates_of", 140, ["plan", "values", "own", "sample", "share"], top 42⟩,
  ⟨"require_both", 141, ["plan", "values"], top 43⟩,
  ⟨"estimate", 142, ["plan", "values", "sample"], top 44⟩,
  ⟨"variance", 144, ["plan", "values"], top 45⟩,
  ⟨"is_unbiased", 156, ["plan", "own"], top 46⟩,
  ⟨"_law_draw", 0, ["_law_script", "_law_state", "_law_many", "_law_cell", "_law_k", "_law_digits", "_law_number", "_law_more"], top 48⟩,
  ⟨"_law_shuffled", 12, ["_law_script", "_law_state", "_law_things", "_law_rest", "_law_found"], top 49⟩,
  ⟨"_law_fraction", 14, ["_law_top", "_law_bottom", "_law_one", "_law_other", "_law_sign"], top 50⟩,
  ⟨"_law_plus", 15, ["_law_one", "_law_other"], top 51⟩,
  ⟨"_law_minus", 57, ["_law_one", "_law_other"], top 52⟩,
  ⟨"_law_times", 58, ["_law_one", "_law_other"], top 53⟩,
  ⟨"_law_below", 64, ["_law_one", "_law_other"], top 54⟩,
  ⟨"_law_total", 16, ["_law_rows", "_law_found", "_law_one"], top 55⟩,
  ⟨"_law_sets", 17, ["_law_units", "_law_rows", "_law_unit", "_law_row"], top 56⟩,
  ⟨"_law_plan", 18, ["_law_script", "_law_state", "_law_most", "_law_units", "_law_rows", "_law_parts", "_law_row", "_law_part"], top 57⟩,
  ⟨"_law_values", 146, ["_law_script", "_law_state", "_law_units", "_law_unit"], top 58⟩,
  ⟨"_law_weights", 190, ["_law_script", "_law_state", "_law_units", "_law_found", "_law_unit"], top 59⟩,
  ⟨"_law_holds", 198, ["_law_plan_here", "_law_weights_here", "_law_values_here", "_law_rows", "_law_middle", "_law_due", "_law_right", "_law_fitting", "_law_one", "_law_row", "_law_value"], top 60⟩]
def le : DefE := ⟨"law", 0, ["_law_script", "_law_state", "_law_k", "_law_plan_here", "_law_values_here", "_law_weights_here"], top 61⟩
def R : RowT := ⟨es.map fun e => (e.x, e.f), ["InvalidPlan", "InvalidSample", "InvalidValues", "InvalidWeights"]⟩
theorem ents : es.all (entB R T) = true := by kernel_rfl
theorem lawb : lawB R le lawBody = true := by kernel_rfl
end PVR
end
section
set_option Elab.async false
set_option linter.all false
set_option maxRecDepth 100000
set_option maxHeartbeats 0
namespace PVR
open PySem PySem.Spec PyProof.Rows L2 PV
abbrev RR : PySem.W.OpenRow := PySem.W.OpenLaw.row PySem.Challenge.rw_drawnsamples_k18_whole_linear
def fa : List He.Fa := faOf R es le
def fn : List He.DefD := PV.fnOf es le
abbrev hk : PySem.W.Hook := hookP 5 fa fn
def ob (s : PySem.W.SharedT) : He.AlD := obsP 5 fa fn (HandSHeadRun.getT s)
theorem ob_eq (s : PySem.W.SharedT) : ob s = hk.obs s.abs := obsP_eq (HandSHeadRun.getT_eq s)
def nm : List PySem.Str := (["SamplingError"] : List PySem.Str) ++ R.exc ++ (es.map fun e => e.x)
theorem run (w : World) : HandSHeadRun.RunEq RR (PySem.W.view RR.prog [61]) hk ob 20000 nm w := by
  intro os
  kernel_rfl
end PVR
open PySem PySem.W PySem.Calls PyProof.Rows
theorem holds (hl : PV.LawHolds PVR.T 14 PVR.lawBody PVR.le.N.length) : PySem.Challenge.rw_drawnsamples_k18_whole_linear.Holds := by
  w_on; o_law
  refine HandSHeadRun.head_any (r := OpenLaw.row PySem.Challenge.rw_drawnsamples_k18_whole_linear) (q := view (OpenLaw.row PySem.Challenge.rw_drawnsamples_k18_whole_linear).prog [61]) (H := PVR.hk) (ob := PVR.ob) (M := 20000) (loose := PVR.nm) (d := HandSHeadRun.topDef (OpenLaw.row PySem.Challenge.rw_drawnsamples_k18_whole_linear).prog 61) (kwd := []) PVR.ob_eq
    (by kernel_rfl) (fun s => by kernel_rfl) PVR.run (by kernel_rfl) (by kernel_rfl) (by kernel_rfl) (by rfl) (by first | assumption | decide +kernel) (by decide +kernel) ⟨rfl, rfl, rfl, rfl, rfl, by decide +kernel⟩ ?hw ?hc
  case hw => w_witness2
  case hc =>
    refine L2.walk_ofE (l := PySem.Challenge.rw_drawnsamples_k18_whole_linear) (n := 63) (k := 25) (x := "_law_script") (CX := L2.CX0) rfl (by decide) (by kernel_rfl) ⟨rfl, by decide, by decide⟩ ?F (fun _ _ _ _ z => z)
    case F =>
      intro w mg fa h Y G hmg0
      obtain ⟨K, KX, c, nl⟩ := Y
      have hmg : mg ("law" : PySem.Str) = some (.ref fa) := by
        have e : (HandSHeadRun.topDef (OpenLaw.row PySem.Challenge.rw_drawnsamples_k18_whole_linear).prog 61).name = ("law" : PySem.Str) := by kernel_rfl
        rw [← e]
        exact hmg0
      obtain ⟨fd, hb, hF⟩ := PV.facts (P := (PySem.Challenge.rw_drawnsamples_k18_whole_linear).prog) (w := w) (T := PVR.T) (d := 14) KX G hmg c nl PV.draw_ok rfl rfl PVR.ents PVR.lawb rfl hl
      exact ⟨K, fd, PV.lawSp K, KX, hb, fun H a ns hl hO hS => ⟨a, ns, rfl, hl, hO, hS, fun _ => rfl⟩, hF⟩
end
section
set_option Elab.async false
set_option linter.all false
set_option maxRecDepth 100000
set_option maxHeartbeats 1000000
namespace PVR
open PV
theorem callW_i {T : Nat → Option Df} {d f : Nat} {df : Df} {ds : List D} {n : Nat} {k : KD} {x : KX} (hT : T f = some df) (hl : ds.length = df.np) (h : evB (callW T d) df.body (initE ds df.ns) n (fun _ n' => k .non n') k x) (hf : f ≠ 0 := by decide) : callW T (d + 1) f ds n k x := by
  unfold callW
  split
  · exact absurd rfl hf
  · rw [hT]; exact ⟨hl, h⟩
theorem callW_v {T : Nat → Option Df} {d f : Nat} {df : Df} {ds : List D} {n : Nat} {k : KD} {x : KX} {env : PV.Env} (hT : T f = some df) (hl : ds.length = df.np) (hi : IP ds df.ns env) (h : evB (callW T d) df.body env n (fun _ n' => k .non n') k x) (hf : f ≠ 0 := by decide) : callW T (d + 1) f ds n k x :=
  callW_i hT hl (by rw [hi.eq]; exact h) hf
theorem lawI {C : Cal} {body : SL} {ds : List D} {N n : Nat} {env : PV.Env} {kE : PV.Env → Nat → Prop} {k : KD} {x : KX} (hi : IP ds N env) (h : evB C body env n kE k x) : evB C body (initE ds N) n kE k x := by rw [hi.eq]; exact h
local macro_rules | `(tactic| array_get_dec) => `(tactic| first
  | with_reducible refine wB0 ?_
  | with_reducible refine wB ?_
  | with_reducible refine wAs ?_
  | with_reducible refine wAo ?_
  | with_reducible refine wP2 ?_
  | with_reducible refine wP3 ?_
  | with_reducible refine wEx ?_
  | with_reducible refine wFi ?_
  | with_reducible refine wFo ?_
  | with_reducible refine wRe ?_
  | with_reducible refine wRa ?_
  | with_reducible refine wTy ?_
  | with_reducible refine wFz ?_
  | with_reducible refine wI ?_
  | with_reducible refine wBl ?_
  | with_reducible refine wN ?_
  | with_reducible refine wS ?_
  | with_reducible refine wTu ?_
  | with_reducible refine wLs ?_
  | with_reducible refine wBi ?_
  | with_reducible refine wCm ?_
  | with_reducible refine wCh ?_
  | with_reducible refine wNg ?_
  | with_reducible refine wNt ?_
  | with_reducible refine wAn ?_
  | with_reducible refine wOr ?_
  | with_reducible refine wIe ?_
  | with_reducible refine wCa ?_
  | with_reducible refine wBc ?_
  | with_reducible refine wIsi ?_
  | with_reducible refine wIx ?_
  | with_reducible refine wSl ?_
  | with_reducible refine wRv ?_
  | with_reducible refine wLc ?_
  | with_reducible refine wL2 ?_
  | with_reducible refine wL0 ?_
  | with_reducible refine wL ?_
  | with_reducible refine wO0 ?_
  | with_reducible refine wO ?_
  | with_reducible refine wC0 ?_
  | with_reducible refine wC ?_
  | with_reducible refine wIex ?_
  | with_reducible refine wIr1 ?_
  | with_reducible refine wIr2 ?_
  | with_reducible refine wIen ?_
  | with_reducible refine wIzp ?_
  | with_reducible refine wF ?_
  | with_reducible refine wFt ?_
  | with_reducible refine wKb ?_
  | with_reducible refine oAdd ?_
  | with_reducible refine oSub ?_
  | with_reducible refine oNg ?_
  | with_reducible refine oInt ?_
  | with_reducible refine oSqT ?_
  | with_reducible refine oSqL ?_
  | with_reducible refine oSqR ?_
  | with_reducible refine oLt ?_
  | with_reducible refine oLe ?_
  | with_reducible refine oGt ?_
  | with_reducible refine oGe ?_
  | with_reducible refine oEqI ?_
  | with_reducible refine oNeI ?_
  | with_reducible refine bLenT ?_
  | with_reducible refine bLenL ?_
  | with_reducible refine bLenR ?_
  | with_reducible refine bAbs ?_
  | with_reducible refine bList ?_
  | with_reducible refine bListT ?_
  | with_reducible refine bTup ?_
  | with_reducible refine bTupT ?_
  | with_reducible refine oST ?_
  | with_reducible refine oSL ?_
  | with_reducible refine oZTT ?_
  | with_reducible refine oZTL ?_
  | with_reducible refine oZLT ?_
  | with_reducible refine oZLL ?_
  | with_reducible refine oET ?_
  | with_reducible refine oEL ?_
  | ((with_reducible refine' wV ?h ?_); (case h => rfl))
  | ((with_reducible refine' wVo ?h ?_); (case h => rfl))
  | ((with_reducible refine' wAg ?h ?_); (case h => rfl))
  | ((with_reducible refine' wAp ?h ?_); (case h => rfl))
  | ((with_reducible refine' wSi ?h ?_); (case h => rfl))
  | ((with_reducible refine' wOl ?h ?_); (case h => rfl))
  | ((with_reducible refine' wOi ?h ?_); (case h => rfl))
  | ((with_reducible refine' wFtN ?h ?_); (case h => rfl))
  | ((with_reducible refine' wA ?h ?_); (case h => rfl))
  | ((with_reducible refine' oT ?h ?_); (case h => rfl))
  | ((with_reducible refine' oI ?h ?_); (case h => rfl))
  | ((with_reducible refine' oXT ?h ?_); (case h => rfl))
  | ((with_reducible refine' oXL ?h ?_); (case h => rfl))
  | ((with_reducible refine' iteT ?h ?_); (case h => rfl))
  | ((with_reducible refine' iteF ?h ?_); (case h => rfl))
  | ((with_reducible refine' wSet ?h ?_); (case h => rfl))
  | ((with_reducible refine' wSetO ?h ?_); (case h => rfl))
  | ((with_reducible refine' oCatT ?h ?_); (case h => simp [small]; done)))

abbrev dFr (q : Rat) : D := .tup [.int q.num, .int q.den]
theorem cd_loop {C : Cal} {n : Nat} {r : KD} {x : KX} : ∀ (b a m : Nat) (K : Env → Nat → Prop), b < m → (∀ z, K [.val (.int (Nat.gcd a b)), .val z] n) →
    whGo (whF C (.v 1) (.cons (.p2 0 false 1 false (.v 1) (.bi .mod (.v 0) (.v 1))) .nil) r x) [] m [.val (.int a), .val (.int b)] n K := by
  intro b
  induction b using Nat.strongRecOn with
  | ind b ih =>
    intro a m K hm hK
    cases m with
    | zero => omega
    | succ m =>
      unfold whGo whF
      repeat array_get_dec
      refine oItr (fun hb => ?_) (fun hb => ?_)
      · repeat array_get_dec
        have hb0 : 0 < b := by simp at hb; omega
        refine oMod (by omega) ?_
        repeat array_get_dec
        have := ih (a % b) (Nat.mod_lt _ hb0) b m K (by have := Nat.mod_lt a hb0; omega) (fun z => by rw [Nat.gcd_comm, ← Nat.gcd_rec, Nat.gcd_comm]; exact hK z)
        exact this
      · have : b = 0 := by simp at hb; omega
        subst this
        have := hK (.int 0)
        rw [Nat.gcd_zero_right] at this
        exact this
theorem sp_cd {d : Nat} {a b : Int} {n : Nat} {k : KD} {x : KX} (ha : 0 ≤ a) (hb : 0 ≤ b) (hk : k (.int (Nat.gcd a.toNat b.toNat)) n) : callW T (d + 1) 1 [.int a, .int b] n k x := by
  refine callW_i t_common_divisor rfl ?_
  obtain ⟨a, rfl⟩ := Int.eq_ofNat_of_zero_le ha
  obtain ⟨b, rfl⟩ := Int.eq_ofNat_of_zero_le hb
  refine wB (wWh (b + 1) (cd_loop b a (b + 1) _ (Nat.lt_succ_self b) fun z => ?_))
  repeat array_get_dec
  exact hk
theorem pow_lt {a m k : Nat} (h : a < 2 ^ m) (hk : m ≤ k) : a < 2 ^ k := Nat.lt_of_lt_of_le h (Nat.pow_le_pow_right (by decide) hk)
theorem mulOk_of {a b : Int} {i j : Nat} (h : a.natAbs < 2 ^ i) (h' : b.natAbs < 2 ^ j) (hi : i ≤ 400000 := by decide) (hj : j ≤ 400000 := by decide) : mulOk a b := ⟨pow_lt h hi, pow_lt h' hj⟩
theorem sp_lowest {d : Nat} {a b : Int} {n : Nat} {k : KD} {x : KX} (hb : b ≠ 0) (hs : b.natAbs < 2 ^ 9000) (hk : k (dFr (Rat.divInt a b)) n) : callW T (d + 2) 2 [.int a, .int b] n k x := by
  refine callW_i t_lowest_terms rfl ?_
  -- behind the sign
  have main : ∀ (a b : Int) (z : Slot), 0 < b → b.natAbs < 2 ^ 9000 → k (dFr (Rat.divInt a b)) n → evB (callW T (d + 1)) (.cons (.as (.nm 2) (.ca 1 (.cons (.bc .abs (.v 0)) (.cons (.v 1) .nil)))) (.cons (.re (.tu (.cons (.bi .fdiv (.v 0) (.v 2)) (.cons (.bi .fdiv (.v 1) (.v 2)) .nil)))) .nil))
      [.val (.int a), .val (.int b), z] n (fun _ n' => k .non n') k x := by
    intro a b z hb hs hk
    repeat array_get_dec
    have e : (if a < 0 then -a else a) = (a.natAbs : Int) := by split <;> omega
    rw [e]
    refine sp_cd (by omega) (by omega) ?_
    obtain ⟨b, rfl⟩ := Int.eq_ofNat_of_zero_le (Int.le_of_lt hb)
    rw [Int.toNat_natCast, Int.toNat_natCast]
    have hb0 : 0 < b := by omega
    have hg : 0 < Nat.gcd a.natAbs b := Nat.gcd_pos_of_pos_right _ hb0
    have hg2 : Nat.gcd a.natAbs b ≤ b := Nat.gcd_le_right _ hb0
    repeat array_get_dec
    refine oDiv (by omega) ?_ ?_
    · exact Nat.lt_of_le_of_lt (by simpa using hg2) (by simpa using hs)
    repeat array_get_dec
    refine oDiv (by omega) ?_ ?_
    · exact Nat.lt_of_le_of_lt (by simpa using hg2) (by simpa using hs)
    repeat array_get_dec
    refine ⟨by simp [small], ?_⟩
    repeat array_get_dec
    rw [Rat.divInt_ofNat] at hk
    unfold dFr at hk
    rw [Rat.num_mkRat, Rat.den_mkRat, if_neg (by omega), if_neg (by omega), Nat.gcd_comm] at hk
    exact hk
  repeat array_get_dec
  refine oItr (fun h => ?_) (fun h => ?_)
  · have hn : b < 0 := by simpa using h
    repeat array_get_dec
    exact main (-a) (-b) .no (by omega) (by omega) (by rw [Rat.neg_divInt_neg]; exact hk)
  · have hn : ¬ b < 0 := by simpa using h
    refine wB0 ?_
    exact main a b .no (by omega) hs hk
def Sz (q : Rat) : Prop := q.num.natAbs < 2 ^ 4000 ∧ q.den < 2 ^ 4000
theorem natAbs_mul_lt {a b : Int} {i j : Nat} (h : a.natAbs < 2 ^ i) (h' : b.natAbs < 2 ^ j) : (a * b).natAbs < 2 ^ (i + j) := by
  rw [Int.natAbs_mul, Nat.pow_add]
  exact Nat.mul_lt_mul'' h h'
theorem sp_plus {d : Nat} {p q : Rat} {n : Nat} {k : KD} {x : KX} (hp : Sz p) (hq : Sz q) (hk : k (dFr (p + q)) n) : callW T (d + 3) 4 [dFr p, dFr q] n k x := by
  refine callW_i t_plus rfl ?_
  have h1 : ((p.den : Int)).natAbs < 2 ^ 4000 := hp.2
  have h2 : ((q.den : Int)).natAbs < 2 ^ 4000 := hq.2
  repeat array_get_dec
  refine oMul (mulOk_of hp.1 h2) ?_
  repeat array_get_dec
  refine oMul (mulOk_of hq.1 h1) ?_
  repeat array_get_dec
  refine oMul (mulOk_of h1 h2) ?_
  repeat array_get_dec
  have hp0 := p.den_nz
  have hq0 := q.den_nz
  have e : k = fin false k := by funext d n; exact fin_f.symm
  rw [← e]
  refine sp_lowest ?_ ?_ ?_
  · exact_mod_cast Nat.mul_ne_zero hp0 hq0
  · exact pow_lt (natAbs_mul_lt h1 h2) (by decide)
  · have := Rat.divInt_add_divInt p.num q.num (d₁ := p.den) (d₂ := q.den) (by exact_mod_cast hp0) (by exact_mod_cast hq0)
    rw [Rat.num_divInt_den, Rat.num_divInt_den] at this
    rw [← this]; exact hk
theorem for_inv {F : D → PV.Env → Nat → (PV.Env → Nat → Prop) → Prop} {kl : List Nat} (P : List D → PV.Env → Nat → Prop) : ∀ {xs : List D} {env : PV.Env} {n : Nat} {K : PV.Env → Nat → Prop}, P xs (killE env kl) n →
    (∀ d ds e n, P (d :: ds) e n → ∀ kk : PV.Env → Nat → Prop, (∀ e' n', P ds (killE e' kl) n' → kk e' n') → F d e n kk) → (∀ e n, P [] e n → K e n) → forGo F kl xs env n K
  | [], env, n, K, h, _, hd => hd _ _ h
  | d :: ds, env, n, K, h, hs, hd => hs d ds _ n h _ fun e' n' h' => for_inv P h' hs hd
structure Fb (M : Nat) (B : Nat) (q : Rat) : Prop where
  den : q.den ∣ M
  lo : -(B : Rat) ≤ q
  hi : q ≤ (B : Rat)
theorem den_dvd_iff {q : Rat} {M : Nat} (hM : 0 < M) : q.den ∣ M ↔ ∃ a : Int, q = mkRat a M := by
  constructor
  · rintro ⟨c, hc⟩
    refine ⟨q.num * c, ?_⟩
    have hc0 : c ≠ 0 := fun e => by subst e; omega
    rw [hc, Rat.mkRat_mul_right hc0, Rat.mkRat_self]
  · rintro ⟨a, rfl⟩
    rw [Rat.den_mkRat, if_neg (by omega)]
    exact Nat.div_dvd_of_dvd (Nat.gcd_dvd_left _ _)
theorem Fb.add {M B B' : Nat} {p q : Rat} (hM : 0 < M) (h : Fb M B p) (h' : Fb M B' q) : Fb M (B + B') (p + q) := by
  refine ⟨?_, ?_, ?_⟩
  · obtain ⟨a, ha⟩ := (den_dvd_iff hM).mp h.den
    obtain ⟨b, hb⟩ := (den_dvd_iff hM).mp h'.den
    refine (den_dvd_iff hM).mpr ⟨a + b, ?_⟩
    rw [ha, hb, ← Rat.divInt_ofNat, ← Rat.divInt_ofNat, ← Rat.divInt_ofNat, Rat.divInt_add_divInt _ _ (by omega) (by omega), Rat.divInt_eq_divInt_iff (by exact_mod_cast Nat.mul_ne_zero (by omega) (by omega)) (by omega)]
    grind
  · have := h.lo; have := h'.lo; have e : ((B + B' : Nat) : Rat) = B + B' := by simp
    rw [e]; grind
  · have := h.hi; have := h'.hi; have e : ((B + B' : Nat) : Rat) = B + B' := by simp
    rw [e]; grind
theorem Fb.num {M B : Nat} {q : Rat} (h : Fb M B q) : q.num.natAbs ≤ B * q.den := by
  have h1 := (Rat.le_iff _ _).mp h.hi
  have h2 := (Rat.le_iff _ _).mp h.lo
  simp at h1 h2
  rw [Int.neg_mul] at h2
  have : (B : Int) * q.den = ((B * q.den : Nat) : Int) := by simp
  omega
theorem Fb.sz {M B : Nat} {q : Rat} (hM : 0 < M) (h : Fb M B q) (hs : (B + 1) * M < 2 ^ 4000) : Sz q := by
  have h1 := h.num
  have h2 := Nat.le_of_dvd hM h.den
  have h3 : B * q.den ≤ B * M := Nat.mul_le_mul_left _ h2
  have h4 : (B + 1) * M = B * M + M := Nat.succ_mul _ _
  exact ⟨by omega, by omega⟩
theorem Fb.mono {M B B' : Nat} {q : Rat} (h : Fb M B q) (hb : B ≤ B') : Fb M B' q := by
  have e : (B : Rat) ≤ (B' : Rat) := by exact_mod_cast hb
  exact ⟨h.den, by have := h.lo; grind, by have := h.hi; grind⟩
theorem Fb.zero {M : Nat} : Fb M 0 0 := ⟨by simp, by simp, by simp⟩
abbrev dFrs (qs : List Rat) : List D := qs.map dFr
theorem sp_total {d M B : Nat} {qs : List Rat} {v : D} {n : Nat} {k : KD} {x : KX} (hv : D.items v = some (dFrs qs)) (hM : 0 < M) (hq : ∀ q ∈ qs, Fb M B q) (hs : (qs.length * B + 1) * M < 2 ^ 4000) (hB : 0 < B) (hk : k (dFr qs.sum) n) : callW T (d + 4) 5 [v] n k x := by
  refine callW_i t_total_of rfl ?_
  repeat array_get_dec
  refine ⟨by simp [small], ?_⟩
  repeat array_get_dec
  have e0 : opSq v = fun k => k (dFrs qs) := by funext k; unfold opSq; rw [hv]
  rw [e0]
  have hsz : ∀ q B', Fb M B' q → B' ≤ qs.length * B → Sz q := fun q B' h hb => h.sz hM (Nat.lt_of_le_of_lt (Nat.mul_le_mul_right _ (by omega)) hs)
  refine for_inv (fun ds e m => m = n ∧ ∃ (rest : List Rat) (s : Rat), ds = dFrs rest ∧ e = [.val v, .val (dFr s), .no] ∧ s + rest.sum = qs.sum ∧ (∀ q ∈ rest, Fb M B q) ∧ ∃ j, j + rest.length = qs.length ∧ Fb M (j * B) s) ?_ ?_ ?_
  · exact ⟨rfl, qs, 0, rfl, rfl, Rat.zero_add _, hq, 0, Nat.zero_add _, by rw [Nat.zero_mul]; exact Fb.zero⟩
  · rintro dd ds e m ⟨rfl, rest, s, h1, rfl, h2, h3, j, h4, h5⟩ kk hkk
    cases rest with
    | nil => simp [dFrs] at h1
    | cons q rest =>
      simp only [dFrs, List.map_cons, List.cons.injEq] at h1
      obtain ⟨rfl, rfl⟩ := h1
      have hq1 := h3 q List.mem_cons_self
      unfold forF
      repeat array_get_dec
      have hl : (j + 1) * B ≤ qs.length * B := Nat.mul_le_mul_right _ (by simp at h4; omega)
      have hj : j * B ≤ (j + 1) * B := Nat.mul_le_mul_right _ (by omega)
      have hB1 : B ≤ (j + 1) * B := Nat.le_mul_of_pos_left _ (by omega)
      refine sp_plus (hsz s _ h5 (by omega)) (hsz q _ hq1 (by omega)) ?_
      repeat array_get_dec
      refine hkk _ _ ⟨rfl, rest, s + q, rfl, rfl, ?_, fun q hq => h3 q (List.mem_cons_of_mem _ hq), j + 1, by simp at h4; omega, ?_⟩
      · rw [← h2, List.sum_cons]; grind
      · rw [Nat.succ_mul]; exact h5.add hM hq1
  · rintro e m ⟨rfl, rest, s, h1, rfl, h2, _⟩
    have : rest = [] := by cases rest <;> simp [dFrs] at h1 ⊢
    subst this
    repeat array_get_dec
    rw [← h2, List.sum_nil, Rat.add_zero] at hk
    exact hk
end PVR
end
section
set_option Elab.async false
set_option linter.all false
set_option maxRecDepth 100000
set_option maxHeartbeats 1000000
namespace PVR
open PV
local macro_rules | `(tactic| array_get_dec) => `(tactic| first
  | with_reducible refine wB0 ?_
  | with_reducible refine wB ?_
  | with_reducible refine wAs ?_
  | with_reducible refine wAo ?_
  | with_reducible refine wP2 ?_
  | with_reducible refine wP3 ?_
  | with_reducible refine wEx ?_
  | with_reducible refine wFi ?_
  | with_reducible refine wFo ?_
  | with_reducible refine wRe ?_
  | with_reducible refine wRa ?_
  | with_reducible refine wTy ?_
  | with_reducible refine wFz ?_
  | with_reducible refine wI ?_
  | with_reducible refine wBl ?_
  | with_reducible refine wN ?_
  | with_reducible refine wS ?_
  | with_reducible refine wTu ?_
  | with_reducible refine wLs ?_
  | with_reducible refine wBi ?_
  | with_reducible refine wCm ?_
  | with_reducible refine wCh ?_
  | with_reducible refine wNg ?_
  | with_reducible refine wNt ?_
  | with_reducible refine wAn ?_
  | with_reducible refine wOr ?_
  | with_reducible refine wIe ?_
  | with_reducible refine wCa ?_
  | with_reducible refine wBc ?_
  | with_reducible refine wIsi ?_
  | with_reducible refine wIx ?_
  | with_reducible refine wSl ?_
  | with_reducible refine wRv ?_
  | with_reducible refine wLc ?_
  | with_reducible refine wL2 ?_
  | with_reducible refine wL0 ?_
  | with_reducible refine wL ?_
  | with_reducible refine wO0 ?_
  | with_reducible refine wO ?_
  | with_reducible refine wC0 ?_
  | with_reducible refine wC ?_
  | with_reducible refine wIex ?_
  | with_reducible refine wIr1 ?_
  | with_reducible refine wIr2 ?_
  | with_reducible refine wIen ?_
  | with_reducible refine wIzp ?_
  | with_reducible refine wF ?_
  | with_reducible refine wFt ?_
  | with_reducible refine wKb ?_
  | with_reducible refine oAdd ?_
  | with_reducible refine oSub ?_
  | with_reducible refine oNg ?_
  | with_reducible refine oInt ?_
  | with_reducible refine oSqT ?_
  | with_reducible refine oSqL ?_
  | with_reducible refine oSqR ?_
  | with_reducible refine oLt ?_
  | with_reducible refine oLe ?_
  | with_reducible refine oGt ?_
  | with_reducible refine oGe ?_
  | with_reducible refine oEqI ?_
  | with_reducible refine oNeI ?_
  | with_reducible refine bLenT ?_
  | with_reducible refine bLenL ?_
  | with_reducible refine bLenR ?_
  | with_reducible refine bAbs ?_
  | with_reducible refine bList ?_
  | with_reducible refine bListT ?_
  | with_reducible refine bTup ?_
  | with_reducible refine bTupT ?_
  | with_reducible refine oST ?_
  | with_reducible refine oSL ?_
  | with_reducible refine oZTT ?_
  | with_reducible refine oZTL ?_
  | with_reducible refine oZLT ?_
  | with_reducible refine oZLL ?_
  | with_reducible refine oET ?_
  | with_reducible refine oEL ?_
  | ((with_reducible refine' wV ?h ?_); (case h => rfl))
  | ((with_reducible refine' wVo ?h ?_); (case h => rfl))
  | ((with_reducible refine' wAg ?h ?_); (case h => rfl))
  | ((with_reducible refine' wAp ?h ?_); (case h => rfl))
  | ((with_reducible refine' wSi ?h ?_); (case h => rfl))
  | ((with_reducible refine' wOl ?h ?_); (case h => rfl))
  | ((with_reducible refine' wOi ?h ?_); (case h => rfl))
  | ((with_reducible refine' wFtN ?h ?_); (case h => rfl))
  | ((with_reducible refine' wA ?h ?_); (case h => rfl))
  | ((with_reducible refine' oT ?h ?_); (case h => rfl))
  | ((with_reducible refine' oI ?h ?_); (case h => rfl))
  | ((with_reducible refine' oXT ?h ?_); (case h => rfl))
  | ((with_reducible refine' oXL ?h ?_); (case h => rfl))
  | ((with_reducible refine' iteT ?h ?_); (case h => rfl))
  | ((with_reducible refine' iteF ?h ?_); (case h => rfl))
  | ((with_reducible refine' wSet ?h ?_); (case h => rfl))
  | ((with_reducible refine' wSetO ?h ?_); (case h => rfl))
  | ((with_reducible refine' oCatT ?h ?_); (case h => simp [small]; done)))


theorem cd_loop2 {C : Cal} {n : Nat} {r : KD} {x : KX} {u v w : Slot} : ∀ (b a m : Nat) (K : PV.Env → Nat → Prop), b < m → (∀ z, K [u, v, .val (.int (Nat.gcd a b)), .val z, w] n) →
    whGo (whF C (.v 3) (.cons (.p2 2 false 3 false (.v 3) (.bi .mod (.v 2) (.v 3))) .nil) r x) [] m [u, v, .val (.int a), .val (.int b), w] n K := by
  intro b
  induction b using Nat.strongRecOn with
  | ind b ih =>
    intro a m K hm hK
    cases m with
    | zero => omega
    | succ m =>
      unfold whGo whF
      repeat array_get_dec
      refine oItr (fun hb => ?_) (fun hb => ?_)
      · repeat array_get_dec
        have hb0 : 0 < b := by simp at hb; omega
        refine oMod (by omega) ?_
        repeat array_get_dec
        have := ih (a % b) (Nat.mod_lt _ hb0) b m K (by have := Nat.mod_lt a hb0; omega) (fun z => by rw [Nat.gcd_comm, ← Nat.gcd_rec, Nat.gcd_comm]; exact hK z)
        exact this
      · have : b = 0 := by simp at hb; omega
        subst this
        have := hK (.int 0)
        rw [Nat.gcd_zero_right] at this
        exact this
theorem sp_lfrac {d : Nat} {a b : Int} {n : Nat} {k : KD} {x : KX} (hb : b ≠ 0) (ha : a.natAbs < 2 ^ 100000) (hs : b.natAbs < 2 ^ 9000) (hk : k (dFr (Rat.divInt a b)) n) : callW T (d + 1) 14 [.int a, .int b] n k x := by
  refine callW_i t_law_fraction rfl ?_
  repeat array_get_dec
  have e1 : (if a < 0 then -a else a) = (a.natAbs : Int) := by split <;> omega
  have e2 : (if b < 0 then -b else b) = (b.natAbs : Int) := by split <;> omega
  rw [e1, e2]
  refine wWh (b.natAbs + 1) (cd_loop2 b.natAbs a.natAbs _ _ (Nat.lt_succ_self _) fun z => ?_)
  have hb0 : 0 < b.natAbs := by omega
  have hg : 0 < Nat.gcd a.natAbs b.natAbs := Nat.gcd_pos_of_pos_right _ hb0
  have hg2 : Nat.gcd a.natAbs b.natAbs ≤ b.natAbs := Nat.gcd_le_right _ hb0
  have hdv : divOk ((Nat.gcd a.natAbs b.natAbs : Nat) : Int) := Nat.lt_of_le_of_lt (by simpa using hg2) hs
  repeat array_get_dec
  have fin : ∀ sg : Int, (sg = 1 ∧ 0 < b) ∨ (sg = -1 ∧ b < 0) → dFr (Rat.divInt a b) = .tup [.int (sg * a / (Nat.gcd a.natAbs b.natAbs : Nat)), .int ((b.natAbs : Int) / (Nat.gcd a.natAbs b.natAbs : Nat))] := by
    intro sg h
    have key : ∀ (a b : Int), 0 < b → dFr (Rat.divInt a b) = .tup [.int (a / (Nat.gcd a.natAbs b.natAbs : Nat)), .int ((b.natAbs : Int) / (Nat.gcd a.natAbs b.natAbs : Nat))] := by
      intro a b hb
      obtain ⟨b, rfl⟩ := Int.eq_ofNat_of_zero_le (Int.le_of_lt hb)
      rw [Rat.divInt_ofNat]
      unfold dFr
      rw [Rat.num_mkRat, Rat.den_mkRat, if_neg (by omega), if_neg (by omega), Nat.gcd_comm]
      simp
    rcases h with ⟨rfl, h⟩ | ⟨rfl, h⟩
    · rw [Int.one_mul]; exact key a b h
    · have := key (-a) (-b) (by omega)
      rw [Rat.neg_divInt_neg, Int.natAbs_neg, Int.natAbs_neg] at this
      rw [this]
      have e : -1 * a = -a := by omega
      rw [e]
  refine oItr (fun h => ?_) (fun h => ?_)
  · have hp : 0 < b := by simpa using h
    repeat array_get_dec
    refine oMul (mulOk_of (i := 1) (by decide) ha) ?_
    repeat array_get_dec
    refine oDiv (by omega) hdv ?_
    repeat array_get_dec
    rw [e2]
    refine oDiv (by omega) hdv ?_
    repeat array_get_dec
    refine ⟨by simp [small], ?_⟩
    repeat array_get_dec
    rw [fin 1 (.inl ⟨rfl, hp⟩)] at hk
    exact hk
  · have hp : ¬ 0 < b := by simpa using h
    repeat array_get_dec
    refine oMul (mulOk_of (i := 1) (by decide) ha) ?_
    repeat array_get_dec
    refine oDiv (by omega) hdv ?_
    repeat array_get_dec
    rw [e2]
    refine oDiv (by omega) hdv ?_
    repeat array_get_dec
    refine ⟨by simp [small], ?_⟩
    repeat array_get_dec
    rw [fin (-1) (.inr ⟨rfl, by omega⟩)] at hk
    exact hk
theorem sp_lplus {d : Nat} {p q : Rat} {n : Nat} {k : KD} {x : KX} (hp : Sz p) (hq : Sz q) (hk : k (dFr (p + q)) n) : callW T (d + 3) 15 [dFr p, dFr q] n k x := by
  refine callW_i t_law_plus rfl ?_
  have h1 : ((p.den : Int)).natAbs < 2 ^ 4000 := hp.2
  have h2 : ((q.den : Int)).natAbs < 2 ^ 4000 := hq.2
  repeat array_get_dec
  refine oMul (mulOk_of hp.1 h2) ?_
  repeat array_get_dec
  refine oMul (mulOk_of hq.1 h1) ?_
  repeat array_get_dec
  refine oMul (mulOk_of h1 h2) ?_
  repeat array_get_dec
  have hp0 := p.den_nz
  have hq0 := q.den_nz
  have e : k = fin false k := by funext d n; exact fin_f.symm
  rw [← e]
  refine sp_lfrac ?_ ?_ ?_ ?_
  · exact_mod_cast Nat.mul_ne_zero hp0 hq0
  · have a1 := natAbs_mul_lt hp.1 h2
    have a2 := natAbs_mul_lt hq.1 h1
    have a3 : (p.num * ↑q.den + q.num * ↑p.den).natAbs ≤ (p.num * ↑q.den).natAbs + (q.num * ↑p.den).natAbs := Int.natAbs_add_le _ _
    have a4 : 2 ^ (4000 + 4000) + 2 ^ (4000 + 4000) = 2 ^ (8001) := by rw [← Nat.two_mul, ← Nat.pow_succ']
    exact pow_lt (Nat.lt_of_le_of_lt a3 (by rw [← a4]; exact Nat.add_lt_add a1 a2)) (by decide)
  · exact pow_lt (natAbs_mul_lt h1 h2) (by decide)
  · have := Rat.divInt_add_divInt p.num q.num (d₁ := p.den) (d₂ := q.den) (by exact_mod_cast hp0) (by exact_mod_cast hq0)
    rw [Rat.num_divInt_den, Rat.num_divInt_den] at this
    rw [← this]; exact hk
theorem sp_ltotal {d M B : Nat} {qs : List Rat} {v : D} {n : Nat} {k : KD} {x : KX} (hv : D.items v = some (dFrs qs)) (hM : 0 < M) (hq : ∀ q ∈ qs, Fb M B q) (hs : (qs.length * B + 1) * M < 2 ^ 4000) (hB : 0 < B) (hk : k (dFr qs.sum) n) : callW T (d + 4) 16 [v] n k x := by
  refine callW_i t_law_total rfl ?_
  repeat array_get_dec
  refine ⟨by simp [small], ?_⟩
  repeat array_get_dec
  have e0 : opSq v = fun k => k (dFrs qs) := by funext k; unfold opSq; rw [hv]
  rw [e0]
  have hsz : ∀ q B', Fb M B' q → B' ≤ qs.length * B → Sz q := fun q B' h hb => h.sz hM (Nat.lt_of_le_of_lt (Nat.mul_le_mul_right _ (by omega)) hs)
  refine for_inv (fun ds e m => m = n ∧ ∃ (rest : List Rat) (s : Rat), ds = dFrs rest ∧ e = [.val v, .val (dFr s), .no] ∧ s + rest.sum = qs.sum ∧ (∀ q ∈ rest, Fb M B q) ∧ ∃ j, j + rest.length = qs.length ∧ Fb M (j * B) s) ?_ ?_ ?_
  · exact ⟨rfl, qs, 0, rfl, rfl, Rat.zero_add _, hq, 0, Nat.zero_add _, by rw [Nat.zero_mul]; exact Fb.zero⟩
  · rintro dd ds e m ⟨rfl, rest, s, h1, rfl, h2, h3, j, h4, h5⟩ kk hkk
    cases rest with
    | nil => simp [dFrs] at h1
    | cons q rest =>
      simp only [dFrs, List.map_cons, List.cons.injEq] at h1
      obtain ⟨rfl, rfl⟩ := h1
      have hq1 := h3 q List.mem_cons_self
      unfold forF
      repeat array_get_dec
      have hl : (j + 1) * B ≤ qs.length * B := Nat.mul_le_mul_right _ (by simp at h4; omega)
      have hj : j * B ≤ (j + 1) * B := Nat.mul_le_mul_right _ (by omega)
      have hB1 : B ≤ (j + 1) * B := Nat.le_mul_of_pos_left _ (by omega)
      refine sp_lplus (hsz s _ h5 (by omega)) (hsz q _ hq1 (by omega)) ?_
      repeat array_get_dec
      refine hkk _ _ ⟨rfl, rest, s + q, rfl, rfl, ?_, fun q hq => h3 q (List.mem_cons_of_mem _ hq), j + 1, by simp at h4; omega, ?_⟩
      · rw [← h2, List.sum_cons]; grind
      · rw [Nat.succ_mul]; exact h5.add hM hq1
  · rintro e m ⟨rfl, rest, s, h1, rfl, h2, _⟩
    have : rest = [] := by cases rest <;> simp [dFrs] at h1 ⊢
    subst this
    repeat array_get_dec
    rw [← h2, List.sum_nil, Rat.add_zero] at hk
    exact hk
end PVR
end
section
set_option Elab.async false
set_option linter.all false
set_option maxRecDepth 100000
set_option maxHeartbeats 1000000
namespace PVR
open PV
local macro_rules | `(tactic| array_get_dec) => `(tactic| first
  | with_reducible refine wB0 ?_
  | with_reducible refine wB ?_
  | with_reducible refine wAs ?_
  | with_reducible refine wAo ?_
  | with_reducible refine wP2 ?_
  | with_reducible refine wP3 ?_
  | with_reducible refine wEx ?_
  | with_reducible refine wFi ?_
  | with_reducible refine wFo ?_
  | with_reducible refine wRe ?_
  | with_reducible refine wRa ?_
  | with_reducible refine wTy ?_
  | with_reducible refine wFz ?_
  | with_reducible refine wI ?_
  | with_reducible refine wBl ?_
  | with_reducible refine wN ?_
  | with_reducible refine wS ?_
  | with_reducible refine wTu ?_
  | with_reducible refine wLs ?_
  | with_reducible refine wBi ?_
  | with_reducible refine wCm ?_
  | with_reducible refine wCh ?_
  | with_reducible refine wNg ?_
  | with_reducible refine wNt ?_
  | with_reducible refine wAn ?_
  | with_reducible refine wOr ?_
  | with_reducible refine wIe ?_
  | with_reducible refine wCa ?_
  | with_reducible refine wBc ?_
  | with_reducible refine wIsi ?_
  | with_reducible refine wIx ?_
  | with_reducible refine wSl ?_
  | with_reducible refine wRv ?_
  | with_reducible refine wLc ?_
  | with_reducible refine wL2 ?_
  | with_reducible refine wL0 ?_
  | with_reducible refine wL ?_
  | with_reducible refine wO0 ?_
  | with_reducible refine wO ?_
  | with_reducible refine wC0 ?_
  | with_reducible refine wC ?_
  | with_reducible refine wIex ?_
  | with_reducible refine wIr1 ?_
  | with_reducible refine wIr2 ?_
  | with_reducible refine wIen ?_
  | with_reducible refine wIzp ?_
  | with_reducible refine wF ?_
  | with_reducible refine wFt ?_
  | with_reducible refine wKb ?_
  | with_reducible refine oAdd ?_
  | with_reducible refine oSub ?_
  | with_reducible refine oNg ?_
  | with_reducible refine oInt ?_
  | with_reducible refine oSqT ?_
  | with_reducible refine oSqL ?_
  | with_reducible refine oSqR ?_
  | with_reducible refine oLt ?_
  | with_reducible refine oLe ?_
  | with_reducible refine oGt ?_
  | with_reducible refine oGe ?_
  | with_reducible refine oEqI ?_
  | with_reducible refine oNeI ?_
  | with_reducible refine bLenT ?_
  | with_reducible refine bLenL ?_
  | with_reducible refine bLenR ?_
  | with_reducible refine bAbs ?_
  | with_reducible refine bList ?_
  | with_reducible refine bListT ?_
  | with_reducible refine bTup ?_
  | with_reducible refine bTupT ?_
  | with_reducible refine oST ?_
  | with_reducible refine oSL ?_
  | with_reducible refine oZTT ?_
  | with_reducible refine oZTL ?_
  | with_reducible refine oZLT ?_
  | with_reducible refine oZLL ?_
  | with_reducible refine oET ?_
  | with_reducible refine oEL ?_
  | ((with_reducible refine' wV ?h ?_); (case h => rfl))
  | ((with_reducible refine' wVo ?h ?_); (case h => rfl))
  | ((with_reducible refine' wAg ?h ?_); (case h => rfl))
  | ((with_reducible refine' wAp ?h ?_); (case h => rfl))
  | ((with_reducible refine' wSi ?h ?_); (case h => rfl))
  | ((with_reducible refine' wOl ?h ?_); (case h => rfl))
  | ((with_reducible refine' wOi ?h ?_); (case h => rfl))
  | ((with_reducible refine' wFtN ?h ?_); (case h => rfl))
  | ((with_reducible refine' wA ?h ?_); (case h => rfl))
  | ((with_reducible refine' oT ?h ?_); (case h => rfl))
  | ((with_reducible refine' oI ?h ?_); (case h => rfl))
  | ((with_reducible refine' oXT ?h ?_); (case h => rfl))
  | ((with_reducible refine' oXL ?h ?_); (case h => rfl))
  | ((with_reducible refine' iteT ?h ?_); (case h => rfl))
  | ((with_reducible refine' iteF ?h ?_); (case h => rfl))
  | ((with_reducible refine' wSet ?h ?_); (case h => rfl))
  | ((with_reducible refine' wSetO ?h ?_); (case h => rfl))
  | ((with_reducible refine' oCatT ?h ?_); (case h => simp [small]; done)))

theorem allBls_map {α : Type} (p : α → Bool) (xs : List α) : allBls (xs.map fun x => .bl (p x)) = some (xs.map p) := by
  induction xs with
  | nil => rfl
  | cons x xs ih => simp [allBls, ih]
theorem bAll {α : Type} {p : α → Bool} {xs : List α} {kD : D → Prop} (h : kD (.bl (xs.all p))) : bfun .all (.lst (xs.map fun x => .bl (p x))) kD := ⟨_, allBls_map p xs, by rw [List.all_map]; exact h⟩
theorem lc_map0 (g : D → D) {F : D → Nat → (Option D → Nat → Prop) → Prop} {xs : List D} {n : Nat} {K : List D → Nat → Prop} (hs : small xs.length) (hF : ∀ d ∈ xs, ∀ kk, kk (some (g d)) n → F d n kk) (h : K (xs.map g) n) : lcGo F xs [] n K :=
  lc_map g F xs [] n K hF (by simpa using hs) (by simpa using h)
theorem lc_filter (p : D → Bool) (g : D → D) (F : D → Nat → (Option D → Nat → Prop) → Prop) : ∀ (xs acc : List D) (n : Nat) (K : List D → Nat → Prop), (∀ d ∈ xs, ∀ kk, kk (if p d = true then some (g d) else none) n → F d n kk) → small (acc.length + xs.length) →
    K (acc ++ (xs.filter p).map g) n → lcGo F xs acc n K
  | [], acc, n, K, _, _, h => by simpa [lcGo] using h
  | x :: xs, acc, n, K, hF, hs, h => by
    simp only [lcGo]
    refine hF x List.mem_cons_self _ ?_
    by_cases hp : p x = true
    · rw [if_pos hp]
      refine ⟨?_, lc_filter p g F xs (acc ++ [g x]) n K (fun d hd => hF d (List.mem_cons_of_mem _ hd)) ?_ ?_⟩
      · unfold small at hs ⊢; simp at hs; omega
      · unfold small at hs ⊢; simp at hs ⊢; omega
      · rw [List.filter_cons_of_pos hp] at h
        simpa using h
    · rw [if_neg hp]
      refine lc_filter p g F xs acc n K (fun d hd => hF d (List.mem_cons_of_mem _ hd)) ?_ ?_
      · unfold small at hs ⊢; simp at hs; omega
      · rw [List.filter_cons_of_neg hp] at h
        exact h
theorem lc_filter0 (p : D → Bool) (g : D → D) {F : D → Nat → (Option D → Nat → Prop) → Prop} {xs : List D} {n : Nat} {K : List D → Nat → Prop} (hs : small xs.length) (hF : ∀ d ∈ xs, ∀ kk, kk (if p d = true then some (g d) else none) n → F d n kk) (h : K ((xs.filter p).map g) n) : lcGo F xs [] n K :=
  lc_filter p g F xs [] n K hF (by simpa using hs) (by simpa using h)

mutual
def sm : D → Bool
  | .non => true
  | .bl _ => true
  | .int i => decide (i.natAbs < 2 ^ 64)
  | .str x => x.cps.all fun c => decide (c < 0x110000)
  | .tup xs => decide (xs.length ≤ 60) && sms xs
  | .lst xs => decide (xs.length ≤ 60) && sms xs
  | .st => false
  | .scr _ => false
def sms : List D → Bool
  | [] => true
  | x :: xs => sm x && sms xs
end
theorem sms_mem {xs : List D} (h : sms xs = true) {x : D} (hx : x ∈ xs) : sm x = true := by
  induction xs with
  | nil => cases hx
  | cons y ys ih =>
    simp only [sms, Bool.and_eq_true] at h
    rcases List.mem_cons.mp hx with rfl | hx
    · exact h.1
    · exact ih h.2 hx
def isInteger (lo hi : Int) : D → Bool
  | .int i => decide (lo ≤ i) && decide (i ≤ hi)
  | _ => false
theorem sp_isInteger {d : Nat} {v : D} {lo hi : Int} {n : Nat} {k : KD} {x : KX} (hv : sm v = true) (hk : k (.bl (isInteger lo hi v)) n) : callW T (d + 1) 6 [v, .int lo, .int hi] n k x := by
  refine callW_i t_is_integer rfl ?_
  cases v with
  | st => simp [sm] at hv
  | scr => simp [sm] at hv
  | int i =>
    repeat array_get_dec
    refine oItr (fun h => ?_) (fun h => ?_)
    · repeat array_get_dec
      simpa [isInteger, h] using hk
    · simpa [isInteger, h] using hk
  | bl b =>
    repeat array_get_dec
    exact hk
  | _ =>
    repeat array_get_dec
    exact hk
def isFraction : D → Bool
  | .tup [.int a, .int b] => decide (1 ≤ b) && (Nat.gcd a.natAbs b.natAbs == 1)
  | _ => false
def isI : D → Bool
  | .int _ => true
  | _ => false
theorem sp_isFraction {d : Nat} {v : D} {n : Nat} {k : KD} {x : KX} (hv : sm v = true) (hk : k (.bl (isFraction v)) n) : callW T (d + 2) 3 [v] n k x := by
  refine callW_i t_is_fraction rfl ?_
  have notT : (∀ xs, v ≠ .tup xs) → isFraction v = false := fun h => by
    unfold isFraction
    split
    · exact absurd rfl (h _)
    · rfl
  cases v with
  | st => simp [sm] at hv
  | scr => simp [sm] at hv
  | tup xs =>
    simp only [sm, Bool.and_eq_true, decide_eq_true_eq] at hv
    repeat array_get_dec
    refine oItr (fun h => ?_) (fun h => ?_)
    · repeat array_get_dec
      have e : isFraction (.tup xs) = false := by
        unfold isFraction
        split
        · rename_i heq; cases heq; simp at h
        · rfl
      rw [e] at hk; exact hk
    · have hl : xs.length = 2 := by simp at h; exact_mod_cast h
      match xs, hl with
      | [p, q], _ =>
        repeat array_get_dec
        refine lc_map0 (fun d => .bl (isI d)) (by simp [small]) (fun d hd kk hkk => ?_) ?_
        · have hsd := sms_mem hv.2 hd
          show opA _ _
          repeat array_get_dec
          cases d with
          | st => simp [sm] at hsd
          | scr => simp [sm] at hsd
          | int i => repeat array_get_dec
                     repeat array_get_dec
                     exact hkk
          | bl b => repeat array_get_dec
                    repeat array_get_dec
                    exact hkk
          | _ => repeat array_get_dec
                 repeat array_get_dec
                 exact hkk
        repeat array_get_dec
        refine bAll ?_
        repeat array_get_dec
        cases p with
        | int a =>
          cases q with
          | int b =>
            simp only [List.all_cons, isI, List.all_nil, Bool.and_self, Bool.not_true, Bool.false_eq_true, if_false]
            repeat array_get_dec
            refine oItr (fun h => ?_) (fun h => ?_)
            · repeat array_get_dec
              have e : isFraction (.tup [.int a, .int b]) = false := by simp only [isFraction]; simp at h ⊢; intro; omega
              rw [e] at hk; exact hk
            · have hb : 1 ≤ b := by simpa using h
              repeat array_get_dec
              have e1 : (if a < 0 then -a else a) = (a.natAbs : Int) := by split <;> omega
              rw [e1]
              refine sp_cd (by omega) (by omega) ?_
              repeat array_get_dec
              have e2 : b.toNat = b.natAbs := by omega
              rw [Int.toNat_natCast, e2]
              have e : isFraction (.tup [.int a, .int b]) = (((Nat.gcd a.natAbs b.natAbs : Nat) : Int) == 1) := by
                simp only [isFraction, hb, decide_true, Bool.true_and]
                by_cases g : Nat.gcd a.natAbs b.natAbs = 1
                · simp [g]
                · have : ¬ ((Nat.gcd a.natAbs b.natAbs : Nat) : Int) = 1 := by omega
                  rw [beq_eq_false_iff_ne.mpr g, beq_eq_false_iff_ne.mpr this]
              rw [e] at hk; exact hk
          | _ => simp only [List.all_cons, isI, List.all_nil, Bool.and_false, Bool.false_and, Bool.not_false, if_true]
                 repeat array_get_dec
                 exact hk
        | _ => simp only [List.all_cons, isI, List.all_nil, Bool.and_false, Bool.false_and, Bool.not_false, if_true]
               repeat array_get_dec
               exact hk
  | _ =>
    rw [notT (by intro xs z; cases z)] at hk
    repeat array_get_dec
    exact hk
def isChance : D → Bool
  | .tup [.int a, .int b] => isFraction (.tup [.int a, .int b]) && decide (0 ≤ a) && decide (a ≤ b)
  | _ => false
theorem fr_shape {v : D} (h : isFraction v = true) : ∃ a b, v = .tup [.int a, .int b] := by
  unfold isFraction at h
  split at h
  · exact ⟨_, _, rfl⟩
  · cases h
theorem chance_fr (v : D) (h : isFraction v = false) : isChance v = false := by
  unfold isChance
  split
  · rw [h]; rfl
  · rfl
theorem sp_isChance {d : Nat} {v : D} {n : Nat} {k : KD} {x : KX} (hv : sm v = true) (hk : k (.bl (isChance v)) n) : callW T (d + 3) 7 [v] n k x := by
  refine callW_i t_is_chance rfl ?_
  repeat array_get_dec
  refine sp_isFraction hv ?_
  repeat array_get_dec
  refine oItr (fun h => ?_) (fun h => ?_)
  · obtain ⟨a, b, rfl⟩ := fr_shape h
    repeat array_get_dec
    refine oItr (fun h1 => ?_) (fun h1 => ?_)
    · repeat array_get_dec
      have e : isChance (.tup [.int a, .int b]) = decide (a ≤ b) := by simp only [isChance, h, h1, Bool.true_and]
      rw [e] at hk; exact hk
    · have e : isChance (.tup [.int a, .int b]) = false := by simp only [isChance, h, h1, Bool.true_and, Bool.false_and]
      rw [e] at hk; exact hk
  · rw [chance_fr v h] at hk; exact hk
def ltI : D → D → Bool
  | .int a, .int b => decide (a < b)
  | _, _ => false
def pairB (f : D → D → Bool) : D → Bool
  | .tup [a, b] => f a b
  | _ => false
def chain (f : D → D → Bool) (xs : List D) : Bool := (zipD xs (xs.drop 1)).all (pairB f)
def isSet (u : Int) : D → Bool
  | .tup xs => xs.all (isInteger 0 (u - 1)) && chain ltI xs
  | _ => false
theorem cut1 (xs : List D) : cutd xs (some 1) none = xs.drop 1 := by
  unfold cutd cutIx
  simp
  cases xs with
  | nil => rfl
  | cons x xs =>
    have : min 1 (x :: xs).length = 1 := by simp
    rw [this]; simp
theorem zip_mem {xs ys : List D} {d : D} (h : d ∈ zipD xs ys) : ∃ a b, d = .tup [a, b] ∧ a ∈ xs ∧ b ∈ ys := by
  unfold zipD at h
  obtain ⟨⟨a, b⟩, h1, rfl⟩ := List.mem_map.mp h
  exact ⟨a, b, rfl, (List.of_mem_zip h1).1, (List.of_mem_zip h1).2⟩
theorem int_shape {lo hi : Int} {v : D} (h : isInteger lo hi v = true) : ∃ i, v = .int i ∧ lo ≤ i ∧ i ≤ hi := by
  cases v <;> simp [isInteger] at h
  exact ⟨_, rfl, h.1, h.2⟩
theorem sp_isSet {d : Nat} {v : D} {u : Int} {n : Nat} {k : KD} {x : KX} (hv : sm v = true) (hk : k (.bl (isSet u v)) n) : callW T (d + 2) 8 [.int u, v] n k x := by
  refine callW_i t_is_set rfl ?_
  cases v with
  | st => simp [sm] at hv
  | scr => simp [sm] at hv
  | tup xs =>
    simp only [sm, Bool.and_eq_true, decide_eq_true_eq] at hv
    repeat array_get_dec
    refine lc_map0 (fun d => .bl (isInteger 0 (u - 1) d)) (by unfold small; omega) (fun d hd kk hkk => ?_) ?_
    · show opA _ _
      repeat array_get_dec
      refine sp_isInteger (sms_mem hv.2 hd) ?_
      repeat array_get_dec
      exact hkk
    repeat array_get_dec
    refine bAll ?_
    repeat array_get_dec
    refine oItr (fun h => ?_) (fun h => ?_)
    · repeat array_get_dec
      have e : isSet u (.tup xs) = false := by simp only [isSet]; rw [Bool.not_eq_true'] at h; rw [h]; rfl
      rw [e] at hk; exact hk
    · have ha : xs.all (isInteger 0 (u - 1)) = true := by simpa using h
      repeat array_get_dec
      rw [cut1]
      refine lc_map0 (fun d => .bl (pairB ltI d)) (by unfold small; rw [zipD_length]; omega) (fun d hd kk hkk => ?_) ?_
      · obtain ⟨a, b, rfl, h1, h2⟩ := zip_mem hd
        obtain ⟨i, rfl, _⟩ := int_shape (List.all_eq_true.mp ha a h1)
        obtain ⟨j, rfl, _⟩ := int_shape (List.all_eq_true.mp ha b (List.mem_of_mem_drop h2))
        show opA _ _
        repeat array_get_dec
        exact hkk
      repeat array_get_dec
      refine bAll ?_
      repeat array_get_dec
      have e : isSet u (.tup xs) = (zipD xs (xs.drop 1)).all (pairB ltI) := by simp only [isSet, ha, Bool.true_and, chain]
      rw [e] at hk; exact hk
  | _ =>
    repeat array_get_dec
    exact hk
end PVR
end
section
set_option Elab.async false
set_option linter.all false
set_option maxRecDepth 100000
set_option maxHeartbeats 1000000
namespace PVR
open PV
local macro_rules | `(tactic| array_get_dec) => `(tactic| first
  | with_reducible refine wB0 ?_
  | with_reducible refine wB ?_
  | with_reducible refine wAs ?_
  | with_reducible refine wAo ?_
  | with_reducible refine wP2 ?_
  | with_reducible refine wP3 ?_
  | with_reducible refine wEx ?_
  | with_reducible refine wFi ?_
  | with_reducible refine wFo ?_
  | with_reducible refine wRe ?_
  | with_reducible refine wRa ?_
  | with_reducible refine wTy ?_
  | with_reducible refine wFz ?_
  | with_reducible refine wI ?_
  | with_reducible refine wBl ?_
  | with_reducible refine wN ?_
  | with_reducible refine wS ?_
  | with_reducible refine wTu ?_
  | with_reducible refine wLs ?_
  | with_reducible refine wBi ?_
  | with_reducible refine wCm ?_
  | with_reducible refine wCh ?_
  | with_reducible refine wNg ?_
  | with_reducible refine wNt ?_
  | with_reducible refine wAn ?_
  | with_reducible refine wOr ?_
  | with_reducible refine wIe ?_
  | with_reducible refine wCa ?_
  | with_reducible refine wBc ?_
  | with_reducible refine wIsi ?_
  | with_reducible refine wIx ?_
  | with_reducible refine wSl ?_
  | with_reducible refine wRv ?_
  | with_reducible refine wLc ?_
  | with_reducible refine wL2 ?_
  | with_reducible refine wL0 ?_
  | with_reducible refine wL ?_
  | with_reducible refine wO0 ?_
  | with_reducible refine wO ?_
  | with_reducible refine wC0 ?_
  | with_reducible refine wC ?_
  | with_reducible refine wIex ?_
  | with_reducible refine wIr1 ?_
  | with_reducible refine wIr2 ?_
  | with_reducible refine wIen ?_
  | with_reducible refine wIzp ?_
  | with_reducible refine wF ?_
  | with_reducible refine wFt ?_
  | with_reducible refine wKb ?_
  | with_reducible refine oAdd ?_
  | with_reducible refine oSub ?_
  | with_reducible refine oNg ?_
  | with_reducible refine oInt ?_
  | with_reducible refine oSqT ?_
  | with_reducible refine oSqL ?_
  | with_reducible refine oSqR ?_
  | with_reducible refine oLt ?_
  | with_reducible refine oLe ?_
  | with_reducible refine oGt ?_
  | with_reducible refine oGe ?_
  | with_reducible refine oEqI ?_
  | with_reducible refine oNeI ?_
  | with_reducible refine bLenT ?_
  | with_reducible refine bLenL ?_
  | with_reducible refine bLenR ?_
  | with_reducible refine bAbs ?_
  | with_reducible refine bList ?_
  | with_reducible refine bListT ?_
  | with_reducible refine bTup ?_
  | with_reducible refine bTupT ?_
  | with_reducible refine oST ?_
  | with_reducible refine oSL ?_
  | with_reducible refine oZTT ?_
  | with_reducible refine oZTL ?_
  | with_reducible refine oZLT ?_
  | with_reducible refine oZLL ?_
  | with_reducible refine oET ?_
  | with_reducible refine oEL ?_
  | ((with_reducible refine' wV ?h ?_); (case h => rfl))
  | ((with_reducible refine' wVo ?h ?_); (case h => rfl))
  | ((with_reducible refine' wAg ?h ?_); (case h => rfl))
  | ((with_reducible refine' wAp ?h ?_); (case h => rfl))
  | ((with_reducible refine' wSi ?h ?_); (case h => rfl))
  | ((with_reducible refine' wOl ?h ?_); (case h => rfl))
  | ((with_reducible refine' wOi ?h ?_); (case h => rfl))
  | ((with_reducible refine' wFtN ?h ?_); (case h => rfl))
  | ((with_reducible refine' wA ?h ?_); (case h => rfl))
  | ((with_reducible refine' oT ?h ?_); (case h => rfl))
  | ((with_reducible refine' oI ?h ?_); (case h => rfl))
  | ((with_reducible refine' oXT ?h ?_); (case h => rfl))
  | ((with_reducible refine' oXL ?h ?_); (case h => rfl))
  | ((with_reducible refine' iteT ?h ?_); (case h => rfl))
  | ((with_reducible refine' iteF ?h ?_); (case h => rfl))
  | ((with_reducible refine' wSet ?h ?_); (case h => rfl))
  | ((with_reducible refine' wSetO ?h ?_); (case h => rfl))
  | ((with_reducible refine' oCatT ?h ?_); (case h => simp [small]; done)))

def numPos : D → Bool
  | .tup [.int a, _] => decide (0 < a)
  | _ => false
def isDraw (u : Int) : D → Bool
  | .tup [s, c] => isSet u s && (isChance c && numPos c)
  | _ => false
theorem chance_shape {v : D} (h : isChance v = true) : ∃ a b, v = .tup [.int a, .int b] ∧ isFraction v = true ∧ 0 ≤ a ∧ a ≤ b := by
  unfold isChance at h
  split at h
  · simp only [Bool.and_eq_true, decide_eq_true_eq] at h
    exact ⟨_, _, rfl, h.1.1, h.1.2, h.2⟩
  · cases h
theorem draw2 {u : Int} {xs : List D} (h : xs.length ≠ 2) : isDraw u (.tup xs) = false := by
  unfold isDraw
  split
  · rename_i heq; cases heq; simp at h
  · rfl
theorem sp_isDraw {d : Nat} {v : D} {u : Int} {n : Nat} {k : KD} {x : KX} (hv : sm v = true) (hk : k (.bl (isDraw u v)) n) : callW T (d + 4) 9 [.int u, v] n k x := by
  refine callW_i t_is_draw rfl ?_
  cases v with
  | st => simp [sm] at hv
  | scr => simp [sm] at hv
  | tup xs =>
    simp only [sm, Bool.and_eq_true, decide_eq_true_eq] at hv
    repeat array_get_dec
    refine oItr (fun h => ?_) (fun h => ?_)
    · repeat array_get_dec
      have hl : xs.length ≠ 2 := fun e => by rw [e] at h; simp at h
      rw [draw2 hl] at hk; exact hk
    · have hl : xs.length = 2 := by simp at h; exact_mod_cast h
      match xs, hl with
      | [p, q], _ =>
        have hp := sms_mem hv.2 (x := p) (by simp)
        have hq := sms_mem hv.2 (x := q) (by simp)
        repeat array_get_dec
        refine sp_isSet hp ?_
        repeat array_get_dec
        refine oItr (fun h => ?_) (fun h => ?_)
        · repeat array_get_dec
          have e : isDraw u (.tup [p, q]) = false := by simp only [isDraw]; rw [Bool.not_eq_true'] at h; rw [h]; rfl
          rw [e] at hk; exact hk
        · have hs : isSet u p = true := by simpa using h
          repeat array_get_dec
          refine sp_isChance hq ?_
          repeat array_get_dec
          refine oItr (fun h => ?_) (fun h => ?_)
          · obtain ⟨a, b, rfl, _⟩ := chance_shape h
            repeat array_get_dec
            have e : isDraw u (.tup [p, .tup [.int a, .int b]]) = decide (0 < a) := by simp only [isDraw, hs, h, numPos, Bool.true_and]
            rw [e] at hk; exact hk
          · have e : isDraw u (.tup [p, q]) = false := by simp only [isDraw, h, Bool.false_and, Bool.and_false]
            rw [e] at hk; exact hk
  | _ =>
    repeat array_get_dec
    exact hk
theorem fr_data {a b : Int} (h : isFraction (.tup [.int a, .int b]) = true) : D.tup [.int a, .int b] = dFr (Rat.divInt a b) := by
  simp only [isFraction, Bool.and_eq_true, decide_eq_true_eq, beq_iff_eq] at h
  obtain ⟨hb, hg⟩ := h
  obtain ⟨b, rfl⟩ := Int.eq_ofNat_of_zero_le (show 0 ≤ b by omega)
  rw [Rat.divInt_ofNat]
  unfold dFr
  have hg' : Nat.gcd b a.natAbs = 1 := by rw [Nat.gcd_comm]; simpa using hg
  rw [Rat.num_mkRat, Rat.den_mkRat, if_neg (by omega), if_neg (by omega), hg']
  simp
theorem fr_is (q : Rat) : isFraction (dFr q) = true := by
  have h1 := q.den_nz
  have h2 := q.reduced
  simp only [isFraction, Bool.and_eq_true, decide_eq_true_eq, beq_iff_eq]
  exact ⟨by omega, by simpa [Nat.Coprime] using h2⟩
def rat : D → Rat
  | .tup [.int a, .int b] => Rat.divInt a b
  | _ => 0
theorem rat_fr (q : Rat) : rat (dFr q) = q := Rat.num_divInt_den q
theorem fr_rat {v : D} (h : isFraction v = true) : v = dFr (rat v) := by
  obtain ⟨a, b, rfl⟩ := fr_shape h
  exact fr_data h
theorem eqv_fr (p q : Rat) : D.eqv (dFr p) (dFr q) = decide (p = q) := by
  have e : D.eqv (dFr p) (dFr q) = ((p.num == q.num) && (((p.den : Int) == (q.den : Int)) && true)) := rfl
  rw [e, Bool.and_true]
  by_cases h : p = q
  · subst h; simp
  · rw [decide_eq_false h]
    by_cases h1 : p.num = q.num
    · by_cases h2 : p.den = q.den
      · exact absurd (Rat.ext h1 h2) h
      · have : ¬ (p.den : Int) = q.den := by omega
        rw [beq_eq_false_iff_ne.mpr this, Bool.and_false]
    · rw [beq_eq_false_iff_ne.mpr h1, Bool.false_and]
theorem chance_rat {v : D} (hv : sm v = true) (h : isChance v = true) : v = dFr (rat v) ∧ 0 ≤ rat v ∧ rat v ≤ 1 ∧ (rat v).den < 2 ^ 64 := by
  obtain ⟨a, b, rfl, h1, h2, h3⟩ := chance_shape h
  have e := fr_rat h1
  refine ⟨e, ?_⟩
  generalize rat (.tup [.int a, .int b]) = q at e
  unfold dFr at e
  simp only [D.tup.injEq, List.cons.injEq, D.int.injEq, and_true] at e
  obtain ⟨ea, eb⟩ := e
  subst ea; subst eb
  simp only [sm, sms, Bool.and_true, Bool.and_eq_true, decide_eq_true_eq] at hv
  refine ⟨?_, ?_, by simpa using hv.2.2⟩
  · rw [Rat.le_iff]; simpa using h2
  · rw [Rat.le_iff]; simpa using h3
def prodDen (qs : List Rat) : Nat := qs.foldr (fun q m => q.den * m) 1
theorem prod_pos : ∀ qs : List Rat, 0 < prodDen qs
  | [] => by decide
  | q :: qs => Nat.mul_pos (Nat.pos_of_ne_zero q.den_nz) (prod_pos qs)
theorem prod_dvd : ∀ {qs : List Rat} {q : Rat}, q ∈ qs → q.den ∣ prodDen qs
  | p :: qs, q, h => by
    rcases List.mem_cons.mp h with rfl | h
    · exact ⟨_, rfl⟩
    · exact Nat.dvd_trans (prod_dvd h) ⟨p.den, Nat.mul_comm _ _⟩
theorem prod_lt : ∀ {qs : List Rat}, (∀ q ∈ qs, q.den < 2 ^ 64) → prodDen qs ≤ 2 ^ (64 * qs.length)
  | [], _ => by decide
  | q :: qs, h => by
    have h1 := h q List.mem_cons_self
    have h2 := prod_lt fun q hq => h q (List.mem_cons_of_mem _ hq)
    have e : 64 * (q :: qs).length = 64 + 64 * qs.length := by simp; omega
    rw [e, Nat.pow_add]
    exact Nat.mul_le_mul (Nat.le_of_lt h1) h2
def fst : D → D
  | .tup (a :: _) => a
  | _ => .non
def snd : D → D
  | .tup [_, b] => b
  | _ => .non
def shares (ds : List D) : List Rat := ds.map fun d => rat (snd d)
def isPlan : D → Bool
  | .tup [.int u, .tup ds] => isInteger 1 5 (.int u) && (ds.all (isDraw u) && (chain (fun a b => D.ltb (fst a) (fst b)) ds && decide ((shares ds).sum = 1)))
  | _ => false
theorem plan2 {xs : List D} (h : xs.length ≠ 2) : isPlan (.tup xs) = false := by
  unfold isPlan
  split
  · rename_i heq; cases heq; simp at h
  · rfl
theorem draw_shape {u : Int} {v : D} (h : isDraw u v = true) : ∃ xs c, v = .tup [.tup xs, c] ∧ isSet u (.tup xs) = true ∧ isChance c = true := by
  unfold isDraw at h
  split at h
  · rename_i s c
    simp only [Bool.and_eq_true] at h
    cases s <;> first
      | (simp [isSet] at h; done)
      | exact ⟨_, c, rfl, h.1, h.2.1⟩
  · cases h
theorem ltL_ints : ∀ {xs ys : List D}, (∀ x ∈ xs, ∃ i, x = .int i) → (∀ y ∈ ys, ∃ i, y = .int i) → ∃ r, D.ltL xs ys = some r
  | [], [], _, _ => ⟨_, rfl⟩
  | [], _ :: _, _, _ => ⟨_, rfl⟩
  | _ :: _, [], _, _ => ⟨_, rfl⟩
  | x :: xs, y :: ys, hx, hy => by
    obtain ⟨i, rfl⟩ := hx x List.mem_cons_self
    obtain ⟨j, rfl⟩ := hy y List.mem_cons_self
    obtain ⟨r, hr⟩ := ltL_ints (fun x h => hx x (List.mem_cons_of_mem _ h)) (fun y h => hy y (List.mem_cons_of_mem _ h))
    simp only [D.ltL, D.lt, hr]
    exact ⟨_, rfl⟩
theorem okq_ints : ∀ {xs : List D}, (∀ x ∈ xs, ∃ i, x = .int i) → D.okqL 60 xs = true
  | [], _ => rfl
  | x :: xs, hx => by
    obtain ⟨i, rfl⟩ := hx x List.mem_cons_self
    simp only [D.okqL, D.okq, Bool.true_and]
    exact okq_ints fun x h => hx x (List.mem_cons_of_mem _ h)
theorem set_ints {u : Int} {xs : List D} (h : isSet u (.tup xs) = true) : ∀ x ∈ xs, ∃ i, x = .int i := fun x hx => by
  simp only [isSet, Bool.and_eq_true] at h
  obtain ⟨i, e, _⟩ := int_shape (List.all_eq_true.mp h.1 x hx)
  exact ⟨i, e⟩
theorem sp_isPlan {d : Nat} {v : D} {n : Nat} {k : KD} {x : KX} (hv : sm v = true) (hk : k (.bl (isPlan v)) n) : callW T (d + 5) 10 [v] n k x := by
  refine callW_i t_is_plan rfl ?_
  cases v with
  | st => simp [sm] at hv
  | scr => simp [sm] at hv
  | tup xs =>
    simp only [sm, Bool.and_eq_true, decide_eq_true_eq] at hv
    repeat array_get_dec
    refine oItr (fun h => ?_) (fun h => ?_)
    · repeat array_get_dec
      have hl : xs.length ≠ 2 := fun e => by rw [e] at h; simp at h
      rw [plan2 hl] at hk; exact hk
    · have hl : xs.length = 2 := by simp at h; exact_mod_cast h
      match xs, hl with
      | [p, q], _ =>
        have hp := sms_mem hv.2 (x := p) (by simp)
        have hq := sms_mem hv.2 (x := q) (by simp)
        repeat array_get_dec
        refine sp_isInteger hp ?_
        repeat array_get_dec
        refine oItr (fun hI => ?_) (fun hI => ?_)
        · repeat array_get_dec
          have hI' : isInteger 1 5 p = false := by simpa using hI
          have e : isPlan (.tup [p, q]) = false := by
            unfold isPlan
            split
            · rename_i heq; cases heq; rw [hI']; rfl
            · rfl
          rw [e] at hk; exact hk
        · have hi : isInteger 1 5 p = true := by simpa using hI
          obtain ⟨u, rfl, hu1, hu2⟩ := int_shape hi
          repeat array_get_dec
          cases q with
          | st => simp [sm] at hq
          | scr => simp [sm] at hq
          | tup ds =>
            simp only [sm, Bool.and_eq_true, decide_eq_true_eq] at hq
            repeat array_get_dec
            refine lc_map0 (fun d => .bl (isDraw u d)) (by unfold small; omega) (fun d hd kk hkk => ?_) ?_
            · show opA _ _
              repeat array_get_dec
              refine sp_isDraw (sms_mem hq.2 hd) ?_
              repeat array_get_dec
              exact hkk
            repeat array_get_dec
            refine bAll ?_
            repeat array_get_dec
            refine oItr (fun h => ?_) (fun h => ?_)
            · repeat array_get_dec
              have e : isPlan (.tup [.int u, .tup ds]) = false := by simp only [isPlan]; rw [Bool.not_eq_true'] at h; rw [h]; simp
              rw [e] at hk; exact hk
            have ha : ds.all (isDraw u) = true := by simpa using h
            have hds : ∀ d ∈ ds, ∃ xs c, d = .tup [.tup xs, c] ∧ isSet u (.tup xs) = true ∧ isChance c = true ∧ sm c = true := fun d hd => by
              obtain ⟨xs, c, e, h1, h2⟩ := draw_shape (List.all_eq_true.mp ha d hd)
              have := sms_mem hq.2 hd
              rw [e] at this
              simp only [sm, sms, Bool.and_eq_true, Bool.and_true] at this
              exact ⟨xs, c, e, h1, h2, this.2.2⟩
            repeat array_get_dec
            rw [cut1]
            refine lc_map0 (fun d => .bl (pairB (fun a b => D.ltb (fst a) (fst b)) d)) (by unfold small; rw [zipD_length]; omega) (fun d hd kk hkk => ?_) ?_
            · obtain ⟨a, b, rfl, h1, h2⟩ := zip_mem hd
              obtain ⟨xs, c, rfl, s1, _⟩ := hds a h1
              obtain ⟨ys, c', rfl, s2, _⟩ := hds b (List.mem_of_mem_drop h2)
              show opA _ _
              repeat array_get_dec
              obtain ⟨r, hr⟩ := ltL_ints (set_ints s1) (set_ints s2)
              refine ⟨r, hr, okq_ints (set_ints s1), okq_ints (set_ints s2), ?_⟩
              repeat array_get_dec
              have e : pairB (fun a b => D.ltb (fst a) (fst b)) (.tup [.tup [.tup xs, c], .tup [.tup ys, c']]) = r := by simp [pairB, fst, D.ltb, D.lt, hr]
              rw [e] at hkk; exact hkk
            repeat array_get_dec
            refine bAll ?_
            repeat array_get_dec
            refine oItr (fun h => ?_) (fun h => ?_)
            · repeat array_get_dec
              have e : isPlan (.tup [.int u, .tup ds]) = false := by simp only [isPlan, chain]; rw [Bool.not_eq_true'] at h; rw [h]; simp
              rw [e] at hk; exact hk
            have hc : chain (fun a b => D.ltb (fst a) (fst b)) ds = true := by simpa [chain] using h
            repeat array_get_dec
            refine lc_map0 snd (by unfold small; omega) (fun d hd kk hkk => ?_) ?_
            · obtain ⟨xs, c, rfl, _⟩ := hds d hd
              show opA _ _
              repeat array_get_dec
              exact hkk
            have e1 : ds.map snd = dFrs (shares ds) := by
              unfold dFrs shares
              rw [List.map_map]
              refine List.map_congr_left fun d hd => ?_
              obtain ⟨xs, c, rfl, _, hch, hsm⟩ := hds d hd
              exact (chance_rat hsm hch).1
            have hsh : ∀ q ∈ shares ds, 0 ≤ q ∧ q ≤ 1 ∧ q.den < 2 ^ 64 := fun q hq => by
              obtain ⟨d, hd, rfl⟩ := List.mem_map.mp hq
              obtain ⟨xs, c, rfl, _, hch, hsm⟩ := hds d hd
              exact (chance_rat hsm hch).2
            have hlen : (shares ds).length ≤ 60 := by unfold shares; rw [List.length_map]; exact hq.1
            repeat array_get_dec
            refine sp_total (qs := shares ds) (M := prodDen (shares ds)) (B := 1) (by rw [e1]; rfl) (prod_pos _) (fun q hq => ⟨prod_dvd hq, by have := (hsh q hq).1; grind, (hsh q hq).2.1⟩) ?_ (by decide) ?_
            · have h1 := prod_lt fun q hq => (hsh q hq).2.2
              have h2 : 2 ^ (64 * (shares ds).length) ≤ 2 ^ 3840 := Nat.pow_le_pow_right (by decide) (by omega)
              have h3 : ((shares ds).length * 1 + 1) * prodDen (shares ds) ≤ 61 * 2 ^ 3840 := Nat.mul_le_mul (by omega) (by omega)
              exact Nat.lt_of_le_of_lt h3 (by decide)
            · repeat array_get_dec
              refine ⟨by simp [small], ?_⟩
              repeat array_get_dec
              refine oEq rfl rfl ?_
              have e2 : D.eqv (dFr (shares ds).sum) (.tup [.int 1, .int 1]) = decide ((shares ds).sum = 1) := eqv_fr (shares ds).sum 1
              rw [e2]
              have e : isPlan (.tup [.int u, .tup ds]) = decide ((shares ds).sum = 1) := by simp only [isPlan, hi, ha, hc, Bool.true_and]
              rw [e] at hk; exact hk
          | _ =>
            repeat array_get_dec
            exact hk
  | _ =>
    repeat array_get_dec
    exact hk
theorem sp_require {d : Nat} {v : D} {n : Nat} {k : KD} {x : KX} (hv : sm v = true) (h1 : isPlan v = true → k .non n) (h2 : isPlan v = false → x "InvalidPlan" n) : callW T (d + 6) 23 [v] n k x := by
  refine callW_i t_require_plan rfl ?_
  repeat array_get_dec
  refine sp_isPlan hv ?_
  repeat array_get_dec
  refine oItr (fun h => ?_) (fun h => ?_)
  · repeat array_get_dec
    exact h2 (by simpa using h)
  · repeat array_get_dec
    exact h1 (by simpa using h)
end PVR
end
section
set_option Elab.async false
set_option linter.all false
set_option maxRecDepth 100000
set_option maxHeartbeats 1000000
namespace PVR
open PV
local macro_rules | `(tactic| array_get_dec) => `(tactic| first
  | with_reducible refine wB0 ?_
  | with_reducible refine wB ?_
  | with_reducible refine wAs ?_
  | with_reducible refine wAo ?_
  | with_reducible refine wP2 ?_
  | with_reducible refine wP3 ?_
  | with_reducible refine wEx ?_
  | with_reducible refine wFi ?_
  | with_reducible refine wFo ?_
  | with_reducible refine wRe ?_
  | with_reducible refine wRa ?_
  | with_reducible refine wTy ?_
  | with_reducible refine wFz ?_
  | with_reducible refine wI ?_
  | with_reducible refine wBl ?_
  | with_reducible refine wN ?_
  | with_reducible refine wS ?_
  | with_reducible refine wTu ?_
  | with_reducible refine wLs ?_
  | with_reducible refine wBi ?_
  | with_reducible refine wCm ?_
  | with_reducible refine wCh ?_
  | with_reducible refine wNg ?_
  | with_reducible refine wNt ?_
  | with_reducible refine wAn ?_
  | with_reducible refine wOr ?_
  | with_reducible refine wIe ?_
  | with_reducible refine wCa ?_
  | with_reducible refine wBc ?_
  | with_reducible refine wIsi ?_
  | with_reducible refine wIx ?_
  | with_reducible refine wSl ?_
  | with_reducible refine wRv ?_
  | with_reducible refine wLc ?_
  | with_reducible refine wL2 ?_
  | with_reducible refine wL0 ?_
  | with_reducible refine wL ?_
  | with_reducible refine wO0 ?_
  | with_reducible refine wO ?_
  | with_reducible refine wC0 ?_
  | with_reducible refine wC ?_
  | with_reducible refine wIex ?_
  | with_reducible refine wIr1 ?_
  | with_reducible refine wIr2 ?_
  | with_reducible refine wIen ?_
  | with_reducible refine wIzp ?_
  | with_reducible refine wF ?_
  | with_reducible refine wFt ?_
  | with_reducible refine wKb ?_
  | with_reducible refine oAdd ?_
  | with_reducible refine oSub ?_
  | with_reducible refine oNg ?_
  | with_reducible refine oInt ?_
  | with_reducible refine oSqT ?_
  | with_reducible refine oSqL ?_
  | with_reducible refine oSqR ?_
  | with_reducible refine oLt ?_
  | with_reducible refine oLe ?_
  | with_reducible refine oGt ?_
  | with_reducible refine oGe ?_
  | with_reducible refine oEqI ?_
  | with_reducible refine oNeI ?_
  | with_reducible refine bLenT ?_
  | with_reducible refine bLenL ?_
  | with_reducible refine bLenR ?_
  | with_reducible refine bAbs ?_
  | with_reducible refine bList ?_
  | with_reducible refine bListT ?_
  | with_reducible refine bTup ?_
  | with_reducible refine bTupT ?_
  | with_reducible refine oST ?_
  | with_reducible refine oSL ?_
  | with_reducible refine oZTT ?_
  | with_reducible refine oZTL ?_
  | with_reducible refine oZLT ?_
  | with_reducible refine oZLL ?_
  | with_reducible refine oET ?_
  | with_reducible refine oEL ?_
  | ((with_reducible refine' wV ?h ?_); (case h => rfl))
  | ((with_reducible refine' wVo ?h ?_); (case h => rfl))
  | ((with_reducible refine' wAg ?h ?_); (case h => rfl))
  | ((with_reducible refine' wAp ?h ?_); (case h => rfl))
  | ((with_reducible refine' wSi ?h ?_); (case h => rfl))
  | ((with_reducible refine' wOl ?h ?_); (case h => rfl))
  | ((with_reducible refine' wOi ?h ?_); (case h => rfl))
  | ((with_reducible refine' wFtN ?h ?_); (case h => rfl))
  | ((with_reducible refine' wA ?h ?_); (case h => rfl))
  | ((with_reducible refine' oT ?h ?_); (case h => rfl))
  | ((with_reducible refine' oI ?h ?_); (case h => rfl))
  | ((with_reducible refine' oXT ?h ?_); (case h => rfl))
  | ((with_reducible refine' oXL ?h ?_); (case h => rfl))
  | ((with_reducible refine' iteT ?h ?_); (case h => rfl))
  | ((with_reducible refine' iteF ?h ?_); (case h => rfl))
  | ((with_reducible refine' wSet ?h ?_); (case h => rfl))
  | ((with_reducible refine' wSetO ?h ?_); (case h => rfl))
  | ((with_reducible refine' oCatT ?h ?_); (case h => simp [small]; done)))

structure Pl where
  u : Nat
  rows : List (List Int × Rat)
abbrev rowD (r : List Int × Rat) : D := .tup [.tup (r.1.map D.int), dFr r.2]
abbrev dPl (P : Pl) : D := .tup [.int P.u, .tup (P.rows.map rowD)]
structure PlOk (M : Nat) (P : Pl) : Prop where
  plan : isPlan (dPl P) = true
  sm : sm (dPl P) = true
  hM : 0 < M
  hs : 61 * M < 2 ^ 4000
  fb : ∀ r ∈ P.rows, Fb M 1 r.2
theorem PlOk.len {M : Nat} {P : Pl} (h : PlOk M P) : P.rows.length ≤ 60 := by
  have := h.sm
  simp only [PVR.sm, sms, Bool.and_eq_true, decide_eq_true_eq, List.length_map] at this
  exact this.2.2.1.1
theorem PlOk.u {M : Nat} {P : Pl} (h : PlOk M P) : 1 ≤ P.u ∧ P.u ≤ 5 := by
  have := h.plan
  simp only [isPlan, isInteger, Bool.and_eq_true, decide_eq_true_eq] at this
  omega
def has (s : List Int) (i : Int) : Bool := s.any fun a => a == i
theorem has_any (s : List Int) (i : Int) : ((s.map D.int).any fun x => D.eqv x (.int i)) = has s i := by
  unfold has
  rw [List.any_map]; rfl
def jn (P : Pl) (i j : Int) : Rat := ((P.rows.filter fun r => has r.1 i && has r.1 j).map (·.2)).sum
theorem okq_map (s : List Int) : D.okqL 60 (s.map D.int) = true := okq_ints fun x hx => by
  obtain ⟨i, _, e⟩ := List.mem_map.mp hx
  exact ⟨i, e.symm⟩
theorem oIn {s : List Int} {i : Int} {kB : Bool → Prop} (h : kB (has s i)) : op1 .in_ (.int i) (.tup (s.map D.int)) kB := ⟨rfl, okq_map s, by rw [has_any]; exact h⟩
theorem jn_rows {C : Cal} {P : Pl} {i j : Int} {n : Nat} {K : List D → Nat → Prop} {v : D} {z1 z2 : Slot} (hl : P.rows.length ≤ 60) (hK : K (dFrs ((P.rows.filter fun r => has r.1 i && has r.1 j).map (·.2))) n) :
    lcGo (lcF C (.v 4) (.tp (.cons (.nm 3) (.cons (.nm 4) .nil))) (.so (.an (.cm .in_ (.v 1) (.v 3)) (.cm .in_ (.v 2) (.v 3)))) [.val v, .val (.int i), .val (.int j), z1, z2]) (P.rows.map rowD) [] n K := by
  refine lc_filter0 (fun d => match d with
    | .tup [.tup xs, _] => (xs.any fun x => D.eqv x (.int i)) && xs.any fun x => D.eqv x (.int j)
    | _ => false) snd (by unfold small; rw [List.length_map]; omega) (fun d hd kk hkk => ?_) ?_
  · obtain ⟨r, hr, rfl⟩ := List.mem_map.mp hd
    show opA _ _
    repeat array_get_dec
    refine oIn ?_
    repeat array_get_dec
    simp only [has_any] at hkk
    refine oItr (fun h => ?_) (fun h => ?_)
    · repeat array_get_dec
      refine oIn ?_
      repeat array_get_dec
      rw [h, Bool.true_and] at hkk
      refine oItr (fun h2 => ?_) (fun h2 => ?_)
      · repeat array_get_dec
        rw [h2, if_pos rfl] at hkk
        exact hkk
      · rw [h2, if_neg (by simp)] at hkk
        exact hkk
    · rw [h, Bool.false_and, if_neg (by simp)] at hkk
      exact hkk
  · have e : ((P.rows.map rowD).filter fun d => match d with
      | .tup [.tup xs, _] => (xs.any fun x => D.eqv x (.int i)) && xs.any fun x => D.eqv x (.int j)
      | _ => false) = (P.rows.filter fun r => has r.1 i && has r.1 j).map rowD := by
      rw [List.filter_map]
      congr 1
      refine List.filter_congr fun r _ => ?_
      simp only [Function.comp, has_any]
    rw [e, List.map_map]
    exact (by unfold dFrs at hK; rw [List.map_map] at hK; exact hK)
theorem jn_fb {M : Nat} {P : Pl} (h : PlOk M P) (i j : Int) : ∀ q ∈ (P.rows.filter fun r => has r.1 i && has r.1 j).map (·.2), Fb M 1 q := fun q hq => by
  obtain ⟨r, hr, rfl⟩ := List.mem_map.mp hq
  exact h.fb r (List.mem_filter.mp hr).1
theorem jn_len {M : Nat} {P : Pl} (h : PlOk M P) (i j : Int) : (((P.rows.filter fun r => has r.1 i && has r.1 j).map (·.2)).length * 1 + 1) * M < 2 ^ 4000 := by
  have h1 := h.len
  have h2 : ((P.rows.filter fun r => has r.1 i && has r.1 j).map (·.2)).length ≤ P.rows.length := by rw [List.length_map]; exact List.length_filter_le _ _
  exact Nat.lt_of_le_of_lt (Nat.mul_le_mul_right _ (by omega)) h.hs
theorem sp_joint_of {d M : Nat} {P : Pl} {i j : Int} {n : Nat} {k : KD} {x : KX} (h : PlOk M P) (hk : k (dFr (jn P i j)) n) : callW T (d + 5) 37 [dPl P, .int i, .int j] n k x := by
  refine callW_i t_joint_of rfl ?_
  repeat array_get_dec
  refine jn_rows h.len ?_
  repeat array_get_dec
  have e : k = fin false k := by funext d n; exact fin_f.symm
  rw [← e]
  exact sp_total rfl h.hM (jn_fb h i j) (jn_len h i j) (by decide) hk
def own (P : Pl) : List Rat := (List.range P.u).map fun (i : Nat) => jn P i i
theorem range_own (P : Pl) (f : D → D) (hf : ∀ i : Nat, i < P.u → f (.int i) = dFr (jn P i i)) : (rangeD 0 P.u).map f = dFrs (own P) := by
  unfold rangeD own dFrs
  rw [List.map_map, List.map_map]
  refine List.map_congr_left fun i hi => ?_
  simp only [Function.comp, Int.zero_add]
  exact hf i (List.mem_range.mp hi)
theorem range_mem {u : Nat} {d : D} (h : d ∈ rangeD 0 u) : ∃ i : Nat, i < u ∧ d = .int i := by
  unfold rangeD at h
  obtain ⟨i, hi, rfl⟩ := List.mem_map.mp h
  exact ⟨i, List.mem_range.mp hi, by simp⟩
def jD (P : Pl) : D → D
  | .int i => dFr (jn P i i)
  | d => d
theorem oR1 {u : Nat} {kL : List D → Prop} (hu : u ≤ 1000000) (h : kL (rangeD 0 u)) : opR1 (.int u) kL := ⟨by omega, by omega, by rw [Int.toNat_natCast]; exact h⟩
theorem range_len (lo : Int) (n : Nat) : (rangeD lo n).length = n := by simp [rangeD]
theorem sp_chances_of {d M : Nat} {P : Pl} {n : Nat} {k : KD} {x : KX} (h : PlOk M P) (hk : k (.tup (dFrs (own P))) n) : callW T (d + 6) 38 [dPl P] n k x := by
  have hu := h.u
  refine callW_i t_chances_of rfl ?_
  repeat array_get_dec
  refine oR1 (by omega) ?_
  refine lc_map0 (jD P) (by unfold small; rw [range_len]; omega) (fun d hd kk hkk => ?_) ?_
  · obtain ⟨i, hi, rfl⟩ := range_mem hd
    show opA _ _
    repeat array_get_dec
    refine sp_joint_of h ?_
    repeat array_get_dec
    exact hkk
  repeat array_get_dec
  rw [range_own P (jD P) fun i _ => rfl]
  exact hk
theorem sp_chances {d M : Nat} {P : Pl} {n : Nat} {k : KD} {x : KX} (h : PlOk M P) (hk : k (.tup (dFrs (own P))) n) : callW T (d + 7) 39 [dPl P] n k x := by
  refine callW_i t_chances rfl ?_
  repeat array_get_dec
  refine sp_require h.sm (fun _ => ?_) (fun e => by rw [h.plan] at e; cases e)
  repeat array_get_dec
  have e : k = fin false k := by funext d n; exact fin_f.symm
  rw [← e]
  exact sp_chances_of h hk
end PVR
end
section
set_option Elab.async false
set_option linter.all false
set_option maxRecDepth 100000
set_option maxHeartbeats 1000000
namespace PVR
open PV
local macro_rules | `(tactic| array_get_dec) => `(tactic| first
  | with_reducible refine wB0 ?_
  | with_reducible refine wB ?_
  | with_reducible refine wAs ?_
  | with_reducible refine wAo ?_
  | with_reducible refine wP2 ?_
  | with_reducible refine wP3 ?_
  | with_reducible refine wEx ?_
  | with_reducible refine wFi ?_
  | with_reducible refine wFo ?_
  | with_reducible refine wRe ?_
  | with_reducible refine wRa ?_
  | with_reducible refine wTy ?_
  | with_reducible refine wFz ?_
  | with_reducible refine wI ?_
  | with_reducible refine wBl ?_
  | with_reducible refine wN ?_
  | with_reducible refine wS ?_
  | with_reducible refine wTu ?_
  | with_reducible refine wLs ?_
  | with_reducible refine wBi ?_
  | with_reducible refine wCm ?_
  | with_reducible refine wCh ?_
  | with_reducible refine wNg ?_
  | with_reducible refine wNt ?_
  | with_reducible refine wAn ?_
  | with_reducible refine wOr ?_
  | with_reducible refine wIe ?_
  | with_reducible refine wCa ?_
  | with_reducible refine wBc ?_
  | with_reducible refine wIsi ?_
  | with_reducible refine wIx ?_
  | with_reducible refine wSl ?_
  | with_reducible refine wRv ?_
  | with_reducible refine wLc ?_
  | with_reducible refine wL2 ?_
  | with_reducible refine wL0 ?_
  | with_reducible refine wL ?_
  | with_reducible refine wO0 ?_
  | with_reducible refine wO ?_
  | with_reducible refine wC0 ?_
  | with_reducible refine wC ?_
  | with_reducible refine wIex ?_
  | with_reducible refine wIr1 ?_
  | with_reducible refine wIr2 ?_
  | with_reducible refine wIen ?_
  | with_reducible refine wIzp ?_
  | with_reducible refine wF ?_
  | with_reducible refine wFt ?_
  | with_reducible refine wKb ?_
  | with_reducible refine oAdd ?_
  | with_reducible refine oSub ?_
  | with_reducible refine oNg ?_
  | with_reducible refine oInt ?_
  | with_reducible refine oSqT ?_
  | with_reducible refine oSqL ?_
  | with_reducible refine oSqR ?_
  | with_reducible refine oLt ?_
  | with_reducible refine oLe ?_
  | with_reducible refine oGt ?_
  | with_reducible refine oGe ?_
  | with_reducible refine oEqI ?_
  | with_reducible refine oNeI ?_
  | with_reducible refine bLenT ?_
  | with_reducible refine bLenL ?_
  | with_reducible refine bLenR ?_
  | with_reducible refine bAbs ?_
  | with_reducible refine bList ?_
  | with_reducible refine bListT ?_
  | with_reducible refine bTup ?_
  | with_reducible refine bTupT ?_
  | with_reducible refine oIs ?_
  | with_reducible refine oIsn ?_
  | with_reducible refine oST ?_
  | with_reducible refine oSL ?_
  | with_reducible refine oZTT ?_
  | with_reducible refine oZTL ?_
  | with_reducible refine oZLT ?_
  | with_reducible refine oZLL ?_
  | with_reducible refine oET ?_
  | with_reducible refine oEL ?_
  | ((with_reducible refine' wV ?h ?_); (case h => rfl))
  | ((with_reducible refine' wVo ?h ?_); (case h => rfl))
  | ((with_reducible refine' wAg ?h ?_); (case h => rfl))
  | ((with_reducible refine' wAp ?h ?_); (case h => rfl))
  | ((with_reducible refine' wSi ?h ?_); (case h => rfl))
  | ((with_reducible refine' wOl ?h ?_); (case h => rfl))
  | ((with_reducible refine' wOi ?h ?_); (case h => rfl))
  | ((with_reducible refine' wFtN ?h ?_); (case h => rfl))
  | ((with_reducible refine' wA ?h ?_); (case h => rfl))
  | ((with_reducible refine' oT ?h ?_); (case h => rfl))
  | ((with_reducible refine' oI ?h ?_); (case h => rfl))
  | ((with_reducible refine' oXT ?h ?_); (case h => rfl))
  | ((with_reducible refine' oXL ?h ?_); (case h => rfl))
  | ((with_reducible refine' iteT ?h ?_); (case h => rfl))
  | ((with_reducible refine' iteF ?h ?_); (case h => rfl))
  | ((with_reducible refine' wSet ?h ?_); (case h => rfl))
  | ((with_reducible refine' wSetO ?h ?_); (case h => rfl))
  | ((with_reducible refine' oCatT ?h ?_); (case h => simp [small]; done)))

structure Good (S : D → Prop) : Prop where
  some : ∀ x y, S x → S y → ∃ b, D.lt x y = some b
  eqv : ∀ x y, S x → S y → (D.eqv x y = true ↔ x = y)
  irr : ∀ x, S x → D.ltb x x = false
  trans : ∀ x y z, S x → S y → S z → D.ltb x y = true → D.ltb y z = true → D.ltb x z = true
  tot : ∀ x y, S x → S y → x ≠ y → D.ltb x y = true ∨ D.ltb y x = true
def Ints : D → Prop := fun d => ∃ i, d = .int i
def TupOf (S : D → Prop) : D → Prop := fun d => ∃ xs, d = .tup xs ∧ ∀ x ∈ xs, S x
theorem good_int : Good Ints where
  some := by rintro _ _ ⟨i, rfl⟩ ⟨j, rfl⟩; exact ⟨_, rfl⟩
  eqv := by rintro _ _ ⟨i, rfl⟩ ⟨j, rfl⟩; simp [D.eqv]
  irr := by rintro _ ⟨i, rfl⟩; simp [D.ltb, D.lt]
  trans := by rintro _ _ _ ⟨i, rfl⟩ ⟨j, rfl⟩ ⟨l, rfl⟩ h1 h2; simp [D.ltb, D.lt] at *; omega
  tot := by rintro _ _ ⟨i, rfl⟩ ⟨j, rfl⟩ h; simp [D.ltb, D.lt] at *; omega
section
variable {S : D → Prop} (g : Good S)
include g
theorem g_some : ∀ {xs ys : List D}, (∀ x ∈ xs, S x) → (∀ y ∈ ys, S y) → ∃ r, D.ltL xs ys = some r
  | [], [], _, _ => ⟨_, rfl⟩
  | [], _ :: _, _, _ => ⟨_, rfl⟩
  | _ :: _, [], _, _ => ⟨_, rfl⟩
  | x :: xs, y :: ys, hx, hy => by
    obtain ⟨b, hb⟩ := g.some x y (hx x List.mem_cons_self) (hy y List.mem_cons_self)
    obtain ⟨r, hr⟩ := g_some (fun x h => hx x (List.mem_cons_of_mem _ h)) (fun y h => hy y (List.mem_cons_of_mem _ h))
    simp only [D.ltL, hb, hr]
    exact ⟨_, rfl⟩
theorem g_eqv : ∀ {xs ys : List D}, (∀ x ∈ xs, S x) → (∀ y ∈ ys, S y) → (D.eqvL xs ys = true ↔ xs = ys)
  | [], [], _, _ => by simp [D.eqvL]
  | [], _ :: _, _, _ => by simp [D.eqvL]
  | _ :: _, [], _, _ => by simp [D.eqvL]
  | x :: xs, y :: ys, hx, hy => by
    simp only [D.eqvL, Bool.and_eq_true, List.cons.injEq]
    rw [g.eqv x y (hx x List.mem_cons_self) (hy y List.mem_cons_self), g_eqv (fun x h => hx x (List.mem_cons_of_mem _ h)) (fun y h => hy y (List.mem_cons_of_mem _ h))]
def lL (xs ys : List D) : Bool := (D.ltL xs ys).getD false
theorem g_cons {x y : D} {xs ys : List D} (hx : ∀ z ∈ x :: xs, S z) (hy : ∀ z ∈ y :: ys, S z) : lL (x :: xs) (y :: ys) = true ↔ (x = y ∧ lL xs ys = true) ∨ (x ≠ y ∧ D.ltb x y = true) := by
  have sx := hx x List.mem_cons_self
  have sy := hy y List.mem_cons_self
  obtain ⟨b, hb⟩ := g.some x y sx sy
  obtain ⟨r, hr⟩ := g_some g (fun x h => hx x (List.mem_cons_of_mem _ h)) (fun y h => hy y (List.mem_cons_of_mem _ h))
  have e := g.eqv x y sx sy
  unfold lL D.ltb
  simp only [D.ltL, hb, hr, Option.getD_some]
  by_cases h : x = y
  · rw [if_pos (e.mpr h)]; simp [h]
  · rw [if_neg (fun z => h (e.mp z))]; simp [h]
theorem g_irr : ∀ {xs : List D}, (∀ x ∈ xs, S x) → lL xs xs = false
  | [], _ => rfl
  | x :: xs, hx => by
    rw [← Bool.not_eq_true, g_cons g hx hx]
    rintro (⟨_, h⟩ | ⟨h, _⟩)
    · rw [g_irr fun x h => hx x (List.mem_cons_of_mem _ h)] at h; cases h
    · exact h rfl
theorem g_trans : ∀ {xs ys zs : List D}, (∀ x ∈ xs, S x) → (∀ x ∈ ys, S x) → (∀ x ∈ zs, S x) → lL xs ys = true → lL ys zs = true → lL xs zs = true
  | [], [], _, _, _, _, h, _ => by simp [lL, D.ltL] at h
  | [], _ :: _, [], _, _, _, _, h => by simp [lL, D.ltL] at h
  | [], _ :: _, _ :: _, _, _, _, _, _ => rfl
  | _ :: _, [], _, _, _, _, h, _ => by simp [lL, D.ltL] at h
  | _ :: _, _ :: _, [], _, _, _, _, h => by simp [lL, D.ltL] at h
  | x :: xs, y :: ys, z :: zs, hx, hy, hz, h1, h2 => by
    rw [g_cons g hx hy] at h1
    rw [g_cons g hy hz] at h2
    rw [g_cons g hx hz]
    have sx := hx x List.mem_cons_self
    have sy := hy y List.mem_cons_self
    have sz := hz z List.mem_cons_self
    rcases h1 with ⟨e1, h1⟩ | ⟨n1, h1⟩
    · subst e1
      rcases h2 with ⟨e2, h2⟩ | ⟨n2, h2⟩
      · exact .inl ⟨e2, g_trans (fun x h => hx x (List.mem_cons_of_mem _ h)) (fun x h => hy x (List.mem_cons_of_mem _ h)) (fun x h => hz x (List.mem_cons_of_mem _ h)) h1 h2⟩
      · exact .inr ⟨n2, h2⟩
    · rcases h2 with ⟨e2, h2⟩ | ⟨n2, h2⟩
      · subst e2; exact .inr ⟨n1, h1⟩
      · have h3 := g.trans x y z sx sy sz h1 h2
        refine .inr ⟨fun e => ?_, h3⟩
        subst e
        rw [g.irr x sx] at h3; cases h3
theorem g_tot : ∀ {xs ys : List D}, (∀ x ∈ xs, S x) → (∀ x ∈ ys, S x) → xs ≠ ys → lL xs ys = true ∨ lL ys xs = true
  | [], [], _, _, h => absurd rfl h
  | [], _ :: _, _, _, _ => .inl rfl
  | _ :: _, [], _, _, _ => .inr rfl
  | x :: xs, y :: ys, hx, hy, h => by
    rw [g_cons g hx hy, g_cons g hy hx]
    by_cases e : x = y
    · subst e
      have : xs ≠ ys := fun e => h (by rw [e])
      rcases g_tot (fun x h => hx x (List.mem_cons_of_mem _ h)) (fun x h => hy x (List.mem_cons_of_mem _ h)) this with q | q
      · exact .inl (.inl ⟨rfl, q⟩)
      · exact .inr (.inl ⟨rfl, q⟩)
    · rcases g.tot x y (hx x List.mem_cons_self) (hy y List.mem_cons_self) e with q | q
      · exact .inl (.inr ⟨e, q⟩)
      · exact .inr (.inr ⟨fun z => e z.symm, q⟩)
theorem good_tup : Good (TupOf S) where
  some := by rintro _ _ ⟨xs, rfl, hx⟩ ⟨ys, rfl, hy⟩; exact g_some g hx hy
  eqv := by rintro _ _ ⟨xs, rfl, hx⟩ ⟨ys, rfl, hy⟩; rw [show D.eqv (.tup xs) (.tup ys) = D.eqvL xs ys from rfl, g_eqv g hx hy, D.tup.injEq]
  irr := by rintro _ ⟨xs, rfl, hx⟩; exact g_irr g hx
  trans := by rintro _ _ _ ⟨xs, rfl, hx⟩ ⟨ys, rfl, hy⟩ ⟨zs, rfl, hz⟩ h1 h2; exact g_trans g hx hy hz h1 h2
  tot := by
    rintro _ _ ⟨xs, rfl, hx⟩ ⟨ys, rfl, hy⟩ h
    exact g_tot g hx hy fun e => h (by rw [e])
theorem Good.pre {xs : List D} (hS : ∀ x ∈ xs, S x) (hk : (allInts xs).isSome = true ∨ firstsOk xs = true) (ho : D.okqL 60 xs = true) : SortPre xs where
  kind := hk
  okq := ho
  some := fun x hx y hy => by obtain ⟨b, e⟩ := g.some x y (hS x hx) (hS y hy); rw [e]; rfl
  asym := fun x hx y hy h => by
    rw [← Bool.not_eq_true]
    intro h2
    have := g.trans x y x (hS x hx) (hS y hy) (hS x hx) h h2
    rw [g.irr x (hS x hx)] at this; cases this
  ntr := fun x hx y hy z hz h1 h2 => by
    rw [← Bool.not_eq_true] at h1 h2 ⊢
    intro h3
    -- z < x, not y < x, not z < y
    by_cases e : z = y
    · subst e; exact h1 h3
    · rcases g.tot z y (hS z hz) (hS y hy) e with q | q
      · exact h2 q
      · exact h1 (g.trans y z x (hS y hy) (hS z hz) (hS x hx) q h3)
end
theorem good1 : Good (TupOf Ints) := good_tup good_int
theorem good2 : Good (TupOf (TupOf Ints)) := good_tup good1
end PVR
end
section
set_option Elab.async false
set_option linter.all false
set_option maxRecDepth 100000
set_option maxHeartbeats 1000000
namespace PVR
open PV
local macro_rules | `(tactic| array_get_dec) => `(tactic| first
  | with_reducible refine wB0 ?_
  | with_reducible refine wB ?_
  | with_reducible refine wAs ?_
  | with_reducible refine wAo ?_
  | with_reducible refine wP2 ?_
  | with_reducible refine wP3 ?_
  | with_reducible refine wEx ?_
  | with_reducible refine wFi ?_
  | with_reducible refine wFo ?_
  | with_reducible refine wRe ?_
  | with_reducible refine wRa ?_
  | with_reducible refine wTy ?_
  | with_reducible refine wFz ?_
  | with_reducible refine wI ?_
  | with_reducible refine wBl ?_
  | with_reducible refine wN ?_
  | with_reducible refine wS ?_
  | with_reducible refine wTu ?_
  | with_reducible refine wLs ?_
  | with_reducible refine wBi ?_
  | with_reducible refine wCm ?_
  | with_reducible refine wCh ?_
  | with_reducible refine wNg ?_
  | with_reducible refine wNt ?_
  | with_reducible refine wAn ?_
  | with_reducible refine wOr ?_
  | with_reducible refine wIe ?_
  | with_reducible refine wCa ?_
  | with_reducible refine wBc ?_
  | with_reducible refine wIsi ?_
  | with_reducible refine wIx ?_
  | with_reducible refine wSl ?_
  | with_reducible refine wRv ?_
  | with_reducible refine wLc ?_
  | with_reducible refine wL2 ?_
  | with_reducible refine wL0 ?_
  | with_reducible refine wL ?_
  | with_reducible refine wO0 ?_
  | with_reducible refine wO ?_
  | with_reducible refine wC0 ?_
  | with_reducible refine wC ?_
  | with_reducible refine wIex ?_
  | with_reducible refine wIr1 ?_
  | with_reducible refine wIr2 ?_
  | with_reducible refine wIen ?_
  | with_reducible refine wIzp ?_
  | with_reducible refine wF ?_
  | with_reducible refine wFt ?_
  | with_reducible refine wKb ?_
  | with_reducible refine oAdd ?_
  | with_reducible refine oSub ?_
  | with_reducible refine oNg ?_
  | with_reducible refine oInt ?_
  | with_reducible refine oSqT ?_
  | with_reducible refine oSqL ?_
  | with_reducible refine oSqR ?_
  | with_reducible refine oLt ?_
  | with_reducible refine oLe ?_
  | with_reducible refine oGt ?_
  | with_reducible refine oGe ?_
  | with_reducible refine oEqI ?_
  | with_reducible refine oNeI ?_
  | with_reducible refine bLenT ?_
  | with_reducible refine bLenL ?_
  | with_reducible refine bLenR ?_
  | with_reducible refine bAbs ?_
  | with_reducible refine bList ?_
  | with_reducible refine bListT ?_
  | with_reducible refine bTup ?_
  | with_reducible refine bTupT ?_
  | with_reducible refine oIs ?_
  | with_reducible refine oIsn ?_
  | with_reducible refine oST ?_
  | with_reducible refine oSL ?_
  | with_reducible refine oZTT ?_
  | with_reducible refine oZTL ?_
  | with_reducible refine oZLT ?_
  | with_reducible refine oZLL ?_
  | with_reducible refine oET ?_
  | with_reducible refine oEL ?_
  | ((with_reducible refine' wV ?h ?_); (case h => rfl))
  | ((with_reducible refine' wVo ?h ?_); (case h => rfl))
  | ((with_reducible refine' wAg ?h ?_); (case h => rfl))
  | ((with_reducible refine' wAp ?h ?_); (case h => rfl))
  | ((with_reducible refine' wSi ?h ?_); (case h => rfl))
  | ((with_reducible refine' wOl ?h ?_); (case h => rfl))
  | ((with_reducible refine' wOi ?h ?_); (case h => rfl))
  | ((with_reducible refine' wFtN ?h ?_); (case h => rfl))
  | ((with_reducible refine' wA ?h ?_); (case h => rfl))
  | ((with_reducible refine' oT ?h ?_); (case h => rfl))
  | ((with_reducible refine' oI ?h ?_); (case h => rfl))
  | ((with_reducible refine' oXT ?h ?_); (case h => rfl))
  | ((with_reducible refine' oXL ?h ?_); (case h => rfl))
  | ((with_reducible refine' iteT ?h ?_); (case h => rfl))
  | ((with_reducible refine' iteF ?h ?_); (case h => rfl))
  | ((with_reducible refine' wSet ?h ?_); (case h => rfl))
  | ((with_reducible refine' wSetO ?h ?_); (case h => rfl))
  | ((with_reducible refine' oCatT ?h ?_); (case h => simp [small]; done)))

theorem draw_i {T : Nat → Option Df} {d : Nat} {sc : List Int} {m : Int} {n : Nat} {k : KD} {x : KX} (hs : sc.length ≤ 63) (hm : 0 < m) (hn : n ≤ 1000000) (hk : ∀ r n', 0 ≤ r → r < m → n ≤ n' → n' ≤ n + 2 → k (.int r) n') : callW T (d + 1) 0 [.scr sc, .st, .int m] n k x := by
  unfold callW
  exact ⟨hs, hm, hn, hk⟩
def sD (s : List Int) : D := .tup (s.map D.int)
def rowsOf : Nat → List (List Int)
  | 0 => [[]]
  | m + 1 => rowsOf m ++ (rowsOf m).map fun s => s ++ [(m : Int)]
theorem rows_len : ∀ m, (rowsOf m).length = 2 ^ m
  | 0 => rfl
  | m + 1 => by rw [rowsOf, List.length_append, List.length_map, rows_len m, Nat.pow_succ]; omega
theorem sD_good (s : List Int) : TupOf Ints (sD s) := ⟨_, rfl, fun x hx => by
  obtain ⟨i, _, e⟩ := List.mem_map.mp hx
  exact ⟨i, e.symm⟩⟩
theorem okq_sets (l : List (List Int)) : D.okqL 60 (l.map sD) = true := by
  induction l with
  | nil => rfl
  | cons s l ih =>
    simp only [List.map_cons, D.okqL, Bool.and_eq_true]
    refine ⟨?_, ih⟩
    show D.okqL 59 (s.map D.int) = true
    clear ih
    induction s with
    | nil => rfl
    | cons a s ih => simp only [List.map_cons, D.okqL, Bool.and_eq_true]; exact ⟨rfl, ih⟩
theorem firsts_sets (l : List (List Int)) : firstsOk (l.map sD) = true := by
  unfold firstsOk
  rw [Bool.or_eq_true]
  refine .inl ?_
  rw [List.all_eq_true]
  intro d hd
  obtain ⟨s, _, rfl⟩ := List.mem_map.mp hd
  cases s <;> rfl
theorem sp_lsets {d u : Nat} {n : Nat} {k : KD} {x : KX} (hu : u ≤ 5) (hk : ∀ ys : List D, ys.Perm ((rowsOf u).map sD) → k (.lst ys) n) : callW T (d + 1) 17 [.int u] n k x := by
  have h32 : ∀ j, j ≤ 5 → (rowsOf j).length ≤ 32 := fun j hj => by rw [rows_len]; exact Nat.le_trans (Nat.pow_le_pow_right (by decide) hj) (by decide)
  refine callW_i t_law_sets rfl ?_
  repeat array_get_dec
  refine ⟨by simp [small], ?_⟩
  repeat array_get_dec
  refine ⟨by simp [small], ?_⟩
  repeat array_get_dec
  refine oR1 (by omega) ?_
  refine for_inv (fun ds e m => m = n ∧ ∃ j z, j ≤ u ∧ ds = (rangeD 0 u).drop j ∧ e = [.val (.int u), .val (.lst ((rowsOf j).map sD)), .no, z]) ?_ ?_ ?_
  · exact ⟨rfl, 0, .no, Nat.zero_le _, rfl, rfl⟩
  · rintro dd ds e m ⟨rfl, j, z, hj, h1, rfl⟩ kk hkk
    have hju : j < u := by
      by_cases h : j < u
      · exact h
      · have : (rangeD 0 u).drop j = [] := List.drop_eq_nil_of_le (by rw [range_len]; omega)
        rw [this] at h1; cases h1
    have e1 : (rangeD 0 u).drop j = .int (j : Nat) :: (rangeD 0 u).drop (j + 1) := by
      rw [List.drop_eq_getElem_cons (by rw [range_len]; exact hju)]
      congr 1
      simp [rangeD]
    rw [e1] at h1
    cases h1
    have hl := h32 j (by omega)
    unfold forF
    repeat array_get_dec
    refine lc_map0 (fun d => match d with
      | .tup xs => .tup (xs ++ [.int (j : Nat)])
      | d => d) (by unfold small; rw [List.length_map]; omega) (fun d hd kk2 hkk2 => ?_) ?_
    · obtain ⟨s, hs, rfl⟩ := List.mem_map.mp hd
      show opA _ _
      unfold sD
      repeat array_get_dec
      refine ⟨by simp [small], ?_⟩
      repeat array_get_dec
      refine oCatT ?_ ?_
      · have : s.length ≤ 60 := by
          have hs2 : ∀ (m : Nat) (s : List Int), s ∈ rowsOf m → s.length ≤ m := by
            intro m
            induction m with
            | zero => intro s h; simp [rowsOf] at h; subst h; simp
            | succ m ih =>
              intro s h
              rw [rowsOf, List.mem_append, List.mem_map] at h
              rcases h with h | ⟨t, h, rfl⟩
              · have := ih s h; omega
              · have := ih t h; simp; omega
          have := hs2 j s hs
          omega
        simp [small] <;> omega
      repeat array_get_dec
      exact hkk2
    repeat array_get_dec
    refine oCatL ?_ ?_
    · simp only [small, List.length_map]; omega
    repeat array_get_dec
    refine hkk _ _ ⟨rfl, j + 1, z, hju, rfl, ?_⟩
    have e2 : (rowsOf (j + 1)).map sD = (rowsOf j).map sD ++ ((rowsOf j).map sD).map (fun d => match d with
      | .tup xs => .tup (xs ++ [.int (j : Nat)])
      | d => d) := by
      rw [rowsOf, List.map_append, List.map_map, List.map_map]
      congr 1
      refine List.map_congr_left fun s _ => ?_
      simp [sD]
    rw [e2]; rfl
  · rintro e m ⟨rfl, j, z, hj, h1, rfl⟩
    have hju : j = u := by
      have := congrArg List.length h1
      rw [List.length_drop, range_len] at this
      simp at this
      omega
    subst hju
    repeat array_get_dec
    have hl := h32 j hu
    refine ⟨by unfold small; rw [List.length_map]; omega, Good.pre good1 (fun d hd => ?_) (.inr (firsts_sets _)) (okq_sets _), fun ys hp _ => ?_⟩
    · obtain ⟨s, _, rfl⟩ := List.mem_map.mp hd
      exact sD_good s
    repeat array_get_dec
    exact hk ys hp
theorem perm_idx : ∀ (l : List D) (i : Nat) (h : i < l.length), (l[i] :: l.eraseIdx i).Perm l
  | [], i, h => by cases h
  | a :: l, 0, h => List.Perm.refl _
  | a :: l, i + 1, h => by
    have := perm_idx l i (by simpa using h)
    simp only [List.getElem_cons_succ, List.eraseIdx_cons_succ]
    exact (List.Perm.swap _ _ _).trans (this.cons _)
theorem sh_loop {d : Nat} {sc : List Int} {r : KD} {x : KX} {z : Slot} (hs : sc.length ≤ 63) : ∀ (m : Nat) (rest found : List D) (n : Nat) (K : PV.Env → Nat → Prop), rest.length < m → small (rest.length + found.length) → n + 2 * rest.length ≤ 1000000 →
    (∀ ys n', ys.Perm rest → n ≤ n' → n' ≤ n + 2 * rest.length → K [.val (.scr sc), .val .st, z, .own [], .own (found ++ ys)] n') →
    whGo (whF (callW T (d + 1)) (.v 3) (.cons (.pp 4 3 (.ca 0 (.cons (.v 0) (.cons (.v 1) (.cons (.ol 3) .nil))))) .nil) r x) [] m [.val (.scr sc), .val .st, z, .own rest, .own found] n K
  | 0, _, _, _, _, h, _, _, _ => by omega
  | m + 1, rest, found, n, K, h, hsm, hn, hK => by
    unfold whGo whF
    repeat array_get_dec
    cases rest with
    | nil =>
      repeat array_get_dec
      have := hK [] n (List.Perm.refl _) (Nat.le_refl _) (by simp)
      rw [List.append_nil] at this
      exact this
    | cons a rest =>
      repeat array_get_dec
      refine wPp rfl rfl (by decide) ?_
      repeat array_get_dec
      refine draw_i hs (by simp <;> omega) (by simp at hn <;> omega) fun i n' h0 h1 h2 h3 => ?_
      repeat array_get_dec
      have hi : i.toNat < (a :: rest).length := by simp at h1 ⊢; omega
      refine ⟨h0, (a :: rest)[i.toNat], List.getElem?_eq_getElem hi, ?_, ?_, ?_⟩
      · unfold small at hsm ⊢; omega
      · unfold small at hsm ⊢; simp at hsm ⊢; omega
      repeat array_get_dec
      have hlen : ((a :: rest).eraseIdx i.toNat).length = rest.length := by rw [List.length_eraseIdx, if_pos hi]; simp
      refine sh_loop hs m ((a :: rest).eraseIdx i.toNat) (found ++ [(a :: rest)[i.toNat]]) n' K (by rw [hlen]; simp at h; omega) ?_ ?_ ?_
      · unfold small at hsm ⊢; rw [hlen]; simp at hsm ⊢ <;> omega
      · rw [hlen]; simp at hn; omega
      · intro ys n2 hp h4 h5
        have := hK ((a :: rest)[i.toNat] :: ys) n2 ?_ (by omega) (by rw [hlen] at h5; simp; omega)
        · rw [List.append_assoc]; exact this
        · exact (hp.cons _).trans (perm_idx _ _ hi)
theorem sp_shuffled {d : Nat} {sc : List Int} {xs : List D} {n : Nat} {k : KD} {x : KX} (hs : sc.length ≤ 63) (hx : xs.length ≤ 400000) (hn : n + 2 * xs.length ≤ 1000000) (hk : ∀ ys n', ys.Perm xs → n ≤ n' → n' ≤ n + 2 * xs.length → k (.lst ys) n') :
    callW T (d + 2) 12 [.scr sc, .st, .lst xs] n k x := by
  refine callW_i t_law_shuffled rfl ?_
  repeat array_get_dec
  refine ⟨by simp [small], ?_⟩
  repeat array_get_dec
  refine wWh (xs.length + 1) (sh_loop hs _ xs [] n _ (by omega) (by unfold small; simp; omega) hn fun ys n' hp h1 h2 => ?_)
  repeat array_get_dec
  exact hk ys n' hp h1 h2
end PVR
end
section
set_option Elab.async false
set_option linter.all false
set_option maxRecDepth 100000
set_option maxHeartbeats 400000
namespace PVR
open PV
local macro_rules | `(tactic| array_get_dec) => `(tactic| first
  | with_reducible refine wB0 ?_
  | with_reducible refine wB ?_
  | with_reducible refine wAs ?_
  | with_reducible refine wAo ?_
  | with_reducible refine wP2 ?_
  | with_reducible refine wP3 ?_
  | with_reducible refine wEx ?_
  | with_reducible refine wFi ?_
  | with_reducible refine wFo ?_
  | with_reducible refine wRe ?_
  | with_reducible refine wRa ?_
  | with_reducible refine wTy ?_
  | with_reducible refine wFz ?_
  | with_reducible refine wI ?_
  | with_reducible refine wBl ?_
  | with_reducible refine wN ?_
  | with_reducible refine wS ?_
  | with_reducible refine wTu ?_
  | with_reducible refine wLs ?_
  | with_reducible refine wBi ?_
  | with_reducible refine wCm ?_
  | with_reducible refine wCh ?_
  | with_reducible refine wNg ?_
  | with_reducible refine wNt ?_
  | with_reducible refine wAn ?_
  | with_reducible refine wOr ?_
  | with_reducible refine wIe ?_
  | with_reducible refine wCa ?_
  | with_reducible refine wBc ?_
  | with_reducible refine wIsi ?_
  | with_reducible refine wIx ?_
  | with_reducible refine wSl ?_
  | with_reducible refine wRv ?_
  | with_reducible refine wLc ?_
  | with_reducible refine wL2 ?_
  | with_reducible refine wL0 ?_
  | with_reducible refine wL ?_
  | with_reducible refine wO0 ?_
  | with_reducible refine wO ?_
  | with_reducible refine wC0 ?_
  | with_reducible refine wC ?_
  | with_reducible refine wIex ?_
  | with_reducible refine wIr1 ?_
  | with_reducible refine wIr2 ?_
  | with_reducible refine wIen ?_
  | with_reducible refine wIzp ?_
  | with_reducible refine wF ?_
  | with_reducible refine wFt ?_
  | with_reducible refine wKb ?_
  | with_reducible refine oAdd ?_
  | with_reducible refine oSub ?_
  | with_reducible refine oNg ?_
  | with_reducible refine oInt ?_
  | with_reducible refine oSqT ?_
  | with_reducible refine oSqL ?_
  | with_reducible refine oSqR ?_
  | with_reducible refine oLt ?_
  | with_reducible refine oLe ?_
  | with_reducible refine oGt ?_
  | with_reducible refine oGe ?_
  | with_reducible refine oEqI ?_
  | with_reducible refine oNeI ?_
  | with_reducible refine bLenT ?_
  | with_reducible refine bLenL ?_
  | with_reducible refine bLenR ?_
  | with_reducible refine bAbs ?_
  | with_reducible refine bList ?_
  | with_reducible refine bListT ?_
  | with_reducible refine bTup ?_
  | with_reducible refine bTupT ?_
  | with_reducible refine oIs ?_
  | with_reducible refine oIsn ?_
  | with_reducible refine oST ?_
  | with_reducible refine oSL ?_
  | with_reducible refine oZTT ?_
  | with_reducible refine oZTL ?_
  | with_reducible refine oZLT ?_
  | with_reducible refine oZLL ?_
  | with_reducible refine oET ?_
  | with_reducible refine oEL ?_
  | ((with_reducible refine' wV ?h ?_); (case h => rfl))
  | ((with_reducible refine' wVo ?h ?_); (case h => rfl))
  | ((with_reducible refine' wAg ?h ?_); (case h => rfl))
  | ((with_reducible refine' wAp ?h ?_); (case h => rfl))
  | ((with_reducible refine' wSi ?h ?_); (case h => rfl))
  | ((with_reducible refine' wOl ?h ?_); (case h => rfl))
  | ((with_reducible refine' wOi ?h ?_); (case h => rfl))
  | ((with_reducible refine' wFtN ?h ?_); (case h => rfl))
  | ((with_reducible refine' wA ?h ?_); (case h => rfl))
  | ((with_reducible refine' oT ?h ?_); (case h => rfl))
  | ((with_reducible refine' oI ?h ?_); (case h => rfl))
  | ((with_reducible refine' oXT ?h ?_); (case h => rfl))
  | ((with_reducible refine' oXL ?h ?_); (case h => rfl))
  | ((with_reducible refine' iteT ?h ?_); (case h => rfl))
  | ((with_reducible refine' iteF ?h ?_); (case h => rfl))
  | ((with_reducible refine' wSet ?h ?_); (case h => rfl))
  | ((with_reducible refine' wSetO ?h ?_); (case h => rfl))
  | ((with_reducible refine' oCatT ?h ?_); (case h => simp [small]; done)))

theorem lc_drawn {F : D → Nat → (Option D → Nat → Prop) → Prop} {K : List D → Nat → Prop} : ∀ (xs acc : List D) (n : Nat), (∀ d ∈ xs, ∀ m kk, n ≤ m → m + 2 ≤ n + 2 * xs.length → (∀ (i : Nat) n', 1 ≤ i → i ≤ 4 → m ≤ n' → n' ≤ m + 2 → kk (some (.int i)) n') → F d m kk) → small (acc.length + xs.length) →
    (∀ (ps : List Nat) n', ps.length = xs.length → (∀ p ∈ ps, 1 ≤ p ∧ p ≤ 4) → n ≤ n' → n' ≤ n + 2 * xs.length → K (acc ++ ps.map fun p : Nat => D.int p) n') → lcGo F xs acc n K
  | [], acc, n, _, _, h => by
    have := h [] n rfl (by simp) (Nat.le_refl _) (by simp)
    simpa [lcGo] using this
  | x :: xs, acc, n, hF, hs, h => by
    refine hF x List.mem_cons_self n _ (Nat.le_refl _) (by simp; omega) fun i n' h1 h2 h3 h4 => ?_
    simp only
    refine ⟨by unfold small at hs ⊢; simp at hs; omega, ?_⟩
    refine lc_drawn xs _ n' (fun d hd m kk h5 h6 hkk => ?_) (by unfold small at hs ⊢; simp at hs ⊢; omega) fun ps n2 h5 h6 h7 h8 => ?_
    · exact hF d (List.mem_cons_of_mem _ hd) m kk (by omega) (by simp; omega) hkk
    · have := h (i :: ps) n2 (by simp [h5]) ?_ (by omega) (by simp; omega)
      · rw [List.append_assoc]; exact this
      · intro p hp
        rcases List.mem_cons.mp hp with rfl | hp
        · exact ⟨h1, h2⟩
        · exact h6 p hp
theorem cut_to (xs : List D) {j : Int} (h : 0 ≤ j) : cutd xs none (some j) = xs.take j.toNat := by
  unfold cutd cutIx
  simp only [List.drop_zero, Nat.sub_zero]
  rw [if_neg (by omega)]
  by_cases hj : j.toNat ≤ xs.length
  · rw [Nat.min_eq_left hj]
  · rw [Nat.min_eq_right (by omega), List.take_of_length_le (Nat.le_refl _), List.take_of_length_le (by omega)]
theorem perm_map_inv {α β : Type} (f : α → β) {xs ys : List β} (h : xs.Perm ys) : ∀ l : List α, ys = l.map f → ∃ l' : List α, l'.Perm l ∧ xs = l'.map f := by
  induction h with
  | nil => intro l e; exact ⟨[], by cases l <;> simp at e ⊢, rfl⟩
  | cons x h ih =>
    intro l e
    cases l with
    | nil => simp at e
    | cons a l =>
      simp only [List.map_cons, List.cons.injEq] at e
      obtain ⟨l', h1, h2⟩ := ih l e.2
      exact ⟨a :: l', h1.cons _, by simp [e.1, h2]⟩
  | swap x y l2 =>
    intro l e
    match l, e with
    | a :: b :: l, e =>
      simp only [List.map_cons, List.cons.injEq] at e
      exact ⟨b :: a :: l, List.Perm.swap _ _ _, by simp [e.1, e.2.1, e.2.2]⟩
  | trans h1 h2 ih1 ih2 =>
    intro l e
    obtain ⟨l2, h3, h4⟩ := ih2 l e
    obtain ⟨l1, h5, h6⟩ := ih1 l2 h4
    exact ⟨l1, h5.trans h3, h6⟩
theorem allInts_map (ps : List Nat) : allInts (ps.map fun p : Nat => D.int p) = some (ps.map fun p : Nat => (p : Int)) := by
  induction ps with
  | nil => rfl
  | cons p ps ih => simp only [List.map_cons, allInts, ih]; rfl
theorem sum_cast (ps : List Nat) : (ps.map fun p : Nat => (p : Int)).sum = (ps.sum : Nat) := by
  induction ps with
  | nil => rfl
  | cons p ps ih => simp only [List.map_cons, List.sum_cons, ih]; omega
theorem zip_map (l : List (List Int)) (ps : List Nat) : zipD (l.map sD) (ps.map fun p : Nat => D.int p) = (l.zip ps).map fun r => D.tup [sD r.1, .int r.2] := by
  induction l generalizing ps with
  | nil => rfl
  | cons s l ih => cases ps with
    | nil => rfl
    | cons p ps => exact congrArg (D.tup [sD s, D.int p] :: ·) (ih ps)
theorem sum_bd : ∀ {ps : List Nat}, (∀ p ∈ ps, 1 ≤ p ∧ p ≤ 4) → ps.length ≤ ps.sum ∧ ps.sum ≤ 4 * ps.length
  | [], _ => by simp
  | p :: ps, h => by
    have h1 := h p List.mem_cons_self
    have h2 := sum_bd fun q hq => h q (List.mem_cons_of_mem _ hq)
    simp only [List.length_cons, List.sum_cons]
    omega
def shr (S p : Nat) : Rat := Rat.divInt p S
theorem shr_mul (S p : Nat) : shr S p = (p : Rat) * (S : Rat)⁻¹ := by
  unfold shr
  rw [Rat.divInt_eq_div, Rat.div_def]
  simp only [Rat.intCast_natCast]
theorem shr_one {S : Nat} (h : 0 < S) : shr S S = 1 := by
  rw [shr_mul]
  exact Rat.mul_inv_cancel _ fun e => by
    have := Rat.natCast_pos.mpr h
    rw [e] at this
    exact Rat.lt_irrefl this
theorem inv_pos {S : Nat} (h : 0 < S) : (0 : Rat) < (S : Rat)⁻¹ := Rat.inv_pos.mpr (Rat.natCast_pos.mpr h)
theorem shr_pos {S p : Nat} (h : 0 < S) (hp : 0 < p) : 0 < shr S p := by
  rw [shr_mul]
  exact Rat.mul_pos (Rat.natCast_pos.mpr hp) (inv_pos h)
theorem shr_le {S p : Nat} (h : 0 < S) (hp : p ≤ S) : shr S p ≤ 1 := by
  rw [← shr_one h, shr_mul, shr_mul]
  exact Rat.mul_le_mul_of_nonneg_right (Rat.natCast_le_natCast.mpr hp) (Rat.le_of_lt (inv_pos h))
theorem shr_sum (S : Nat) : ∀ ps : List Nat, (ps.map (shr S)).sum = shr S ps.sum
  | [] => by rw [shr_mul]; simp
  | p :: ps => by
    rw [List.map_cons, List.sum_cons, shr_sum S ps, List.sum_cons, shr_mul, shr_mul, shr_mul, ← Rat.add_mul, Rat.natCast_add]
theorem sum_perm {xs ys : List Rat} (h : xs.Perm ys) : xs.sum = ys.sum := by
  induction h with
  | nil => rfl
  | cons x h ih => simp only [List.sum_cons, ih]
  | swap x y l => simp only [List.sum_cons]; exact Rat.add_left_comm _ _ _
  | trans h1 h2 e1 e2 => exact e1.trans e2
theorem shr_fb {S p : Nat} (h : 0 < S) (hp : p ≤ S) : Fb S 1 (shr S p) where
  den := (den_dvd_iff h).mpr ⟨p, Rat.divInt_ofNat _ _⟩
  lo := by
    have : (0 : Rat) ≤ shr S p := by
      rw [shr_mul]
      exact Rat.mul_nonneg (Rat.natCast_nonneg) (Rat.le_of_lt (inv_pos h))
    refine Rat.le_trans ?_ this
    decide
  hi := shr_le h hp
theorem share_fr {q : Rat} (h0 : 0 < q) (h1 : q ≤ 1) : isChance (dFr q) = true ∧ numPos (dFr q) = true := by
  have a : 0 < q.num := by
    rw [Rat.lt_iff] at h0
    simpa using h0
  have b : q.num ≤ q.den := by
    rw [Rat.le_iff] at h1
    simpa using h1
  refine ⟨?_, ?_⟩
  · show (isFraction (dFr q) && decide (0 ≤ q.num) && decide (q.num ≤ q.den)) = true
    rw [fr_is, decide_eq_true (by omega), decide_eq_true b]; rfl
  · show decide (0 < q.num) = true
    exact decide_eq_true a
theorem sets_ok {u : Nat} (hu : u ≤ 5) : ∀ s ∈ rowsOf u, isSet u (sD s) = true ∧ sm (sD s) = true := by
  have : (rowsOf u).all (fun s => isSet u (sD s) && sm (sD s)) = true := by
    match u, hu with
    | 0, _ => decide
    | 1, _ => decide
    | 2, _ => decide
    | 3, _ => decide
    | 4, _ => decide
    | 5, _ => decide
  rw [List.all_eq_true] at this
  intro s hs
  simpa using this s hs
theorem rows_nodup {u : Nat} (hu : u ≤ 5) : (rowsOf u).Nodup := by
  match u, hu with
  | 0, _ => decide
  | 1, _ => decide
  | 2, _ => decide
  | 3, _ => decide
  | 4, _ => decide
  | 5, _ => decide
theorem chain_of {f : D → D → Bool} : ∀ {xs : List D}, xs.Pairwise (fun x y => f x y = true) → chain f xs = true
  | [], _ => rfl
  | [_], _ => rfl
  | x :: y :: r, h => by
    have h1 := List.pairwise_cons.mp h
    have ih := chain_of h1.2
    show (f x y && chain f (y :: r)) = true
    rw [h1.1 y List.mem_cons_self, ih]; rfl
theorem sD_inj {s t : List Int} (h : sD s = sD t) : s = t := by
  unfold sD at h
  injection h with h
  induction s generalizing t with
  | nil => cases t <;> simp at h ⊢
  | cons a s ih => cases t with
    | nil => simp at h
    | cons b t =>
      simp only [List.map_cons, List.cons.injEq, D.int.injEq] at h
      rw [h.1, ih h.2]
theorem fr_good (q : Rat) : TupOf Ints (dFr q) := ⟨_, rfl, fun x hx => by
  rcases List.mem_cons.mp hx with rfl | hx
  · exact ⟨_, rfl⟩
  · rcases List.mem_cons.mp hx with rfl | hx
    · exact ⟨_, rfl⟩
    · cases hx⟩
theorem row_in (r : List Int × Rat) : ∀ x ∈ [sD r.1, dFr r.2], TupOf Ints x := fun x hx => by
  rcases List.mem_cons.mp hx with rfl | hx
  · exact sD_good _
  · rcases List.mem_cons.mp hx with rfl | hx
    · exact fr_good _
    · cases hx
theorem row_good (r : List Int × Rat) : TupOf (TupOf Ints) (rowD r) := ⟨_, rfl, row_in r⟩
theorem rows_pre (rs : List (List Int × Rat)) : SortPre (rs.map rowD) := Good.pre good2 (fun d hd => by
    obtain ⟨r, _, rfl⟩ := List.mem_map.mp hd
    exact row_good r) (.inr (by
    unfold firstsOk
    rw [Bool.or_eq_true]
    refine .inr ?_
    rw [List.all_eq_true]
    intro d hd
    obtain ⟨s, _, rfl⟩ := List.mem_map.mp hd
    rfl)) (by
    induction rs with
    | nil => rfl
    | cons r rs ih =>
      simp only [List.map_cons, D.okqL, Bool.and_eq_true]
      refine ⟨?_, ih⟩
      show D.okqL 59 [sD r.1, dFr r.2] = true
      simp only [D.okqL, Bool.and_eq_true]
      refine ⟨?_, rfl, trivial⟩
      show D.okqL 58 (r.1.map D.int) = true
      generalize r.1 = s
      induction s with
      | nil => rfl
      | cons a s ih => simp only [List.map_cons, D.okqL, Bool.and_eq_true]; exact ⟨rfl, ih⟩)
theorem row_lt {a b : List Int × Rat} (h : D.ltb (rowD b) (rowD a) = false) (hne : a.1 ≠ b.1) : D.ltb (sD a.1) (sD b.1) = true := by
  have h1 : rowD a ≠ rowD b := fun e => by
    injection e with e
    simp only [List.cons.injEq] at e
    exact hne (sD_inj e.1)
  have h2 := (good2.tot _ _ (row_good a) (row_good b) h1).resolve_right (by rw [h]; simp)
  have h3 : lL [sD a.1, dFr a.2] [sD b.1, dFr b.2] = true := h2
  rcases (g_cons good1 (row_in a) (row_in b)).mp h3 with ⟨e, _⟩ | ⟨_, e⟩
  · exact absurd (sD_inj e) hne
  · exact e
theorem sms_of {xs : List D} (h : ∀ x ∈ xs, sm x = true) : sms xs = true := by
  induction xs with
  | nil => rfl
  | cons x xs ih =>
    simp only [sms, Bool.and_eq_true]
    exact ⟨h x List.mem_cons_self, ih fun y hy => h y (List.mem_cons_of_mem _ hy)⟩
def drawnRows (l : List (List Int)) (ps : List Nat) : List (List Int × Rat) := (l.zip ps).map fun r => (r.1, shr ps.sum r.2)
theorem mem_le_sum : ∀ {ps : List Nat} {p : Nat}, p ∈ ps → p ≤ ps.sum
  | q :: ps, p, h => by
    rw [List.sum_cons]
    rcases List.mem_cons.mp h with rfl | h
    · omega
    · have := mem_le_sum h; omega
theorem plan_ok {u : Nat} (hu1 : 1 ≤ u) (hu : u ≤ 5) {l : List (List Int)} {ps : List Nat} (hnd : l.Nodup) (hin : ∀ s ∈ l, s ∈ rowsOf u) (h1 : 1 ≤ l.length) (h5 : l.length ≤ 5) (hps : ps.length = l.length) (hp4 : ∀ p ∈ ps, 1 ≤ p ∧ p ≤ 4) {qs : List D} (hq : qs.Perm ((drawnRows l ps).map rowD)) (hs : qs.Pairwise fun x y => D.ltb y x = false) :
    ∃ P M, PlOk M P ∧ (P.rows ≠ [] ∧ P.rows.length ≤ 5 ∧ M ≤ 20) ∧ dPl P = .tup [.int u, .tup qs] := by
  obtain ⟨rs, hr, rfl⟩ := perm_map_inv rowD hq _ rfl
  have hS := sum_bd hp4
  have hS0 : 0 < ps.sum := by omega
  have hlen : rs.length = l.length := by
    rw [hr.length_eq]; unfold drawnRows; rw [List.length_map, List.length_zip]; omega
  have hmem : ∀ r ∈ rs, ∃ p, p ∈ ps ∧ r.1 ∈ l ∧ r.2 = shr ps.sum p := fun r h => by
    have := hr.mem_iff.mp h
    unfold drawnRows at this
    obtain ⟨z, hz, rfl⟩ := List.mem_map.mp this
    exact ⟨z.2, (List.of_mem_zip hz).2, (List.of_mem_zip hz).1, rfl⟩
  have hfb : ∀ r ∈ rs, Fb ps.sum 1 r.2 := fun r h => by
    obtain ⟨p, hp, _, e⟩ := hmem r h
    rw [e]
    exact shr_fb hS0 (mem_le_sum hp)
  have hch : ∀ r ∈ rs, isChance (dFr r.2) = true ∧ numPos (dFr r.2) = true := fun r h => by
    obtain ⟨p, hp, _, e⟩ := hmem r h
    rw [e]
    have := hp4 p hp
    exact share_fr (shr_pos hS0 (by omega)) (shr_le hS0 (mem_le_sum hp))
  have hset : ∀ r ∈ rs, isSet u (sD r.1) = true ∧ sm (sD r.1) = true := fun r h => by
    obtain ⟨p, _, hl, _⟩ := hmem r h
    exact sets_ok hu _ (hin _ hl)
  refine ⟨⟨u, rs⟩, ps.sum, ⟨?_, ?_, hS0, ?_, hfb⟩, ?_, rfl⟩
  · show (isInteger 1 5 (.int u) && ((rs.map rowD).all (isDraw u) && (chain (fun a b => D.ltb (fst a) (fst b)) (rs.map rowD) && decide ((shares (rs.map rowD)).sum = 1)))) = true
    simp only [Bool.and_eq_true]
    refine ⟨?_, ?_, ?_, ?_⟩
    · simp only [isInteger, Bool.and_eq_true, decide_eq_true_eq]; omega
    · rw [List.all_eq_true]
      intro d hd
      obtain ⟨r, h, rfl⟩ := List.mem_map.mp hd
      show (isSet u (sD r.1) && (isChance (dFr r.2) && numPos (dFr r.2))) = true
      rw [(hset r h).1, (hch r h).1, (hch r h).2]; rfl
    · refine chain_of ?_
      rw [List.pairwise_map] at hs ⊢
      have hn : (rs.map (·.1)).Nodup := by
        refine ((hr.map (·.1)).nodup_iff).mpr ?_
        have : (drawnRows l ps).map (·.1) = l := by
          unfold drawnRows
          rw [List.map_map]
          exact List.map_fst_zip (by omega)
        rw [this]; exact hnd
      have hn2 := List.pairwise_map.mp hn
      exact (hs.and hn2).imp fun h => row_lt h.1 h.2
    · refine decide_eq_true ?_
      have e : shares (rs.map rowD) = rs.map (·.2) := by
        unfold shares
        rw [List.map_map]
        exact List.map_congr_left fun r _ => rat_fr r.2
      rw [e, sum_perm (hr.map (·.2))]
      have e2 : (drawnRows l ps).map (·.2) = ps.map (shr ps.sum) := by
        unfold drawnRows
        rw [List.map_map]
        have : (l.zip ps).map Prod.snd = ps := List.map_snd_zip (by omega)
        have h3 := congrArg (List.map (shr ps.sum)) this
        rw [List.map_map] at h3
        exact h3
      rw [e2, shr_sum, shr_one hS0]
  · have hrow : ∀ r ∈ rs, sm (rowD r) = true := fun r h => by
      obtain ⟨p, hp, hl, e⟩ := hmem r h
      have hf := hfb r h
      have hd : r.2.den ≤ ps.sum := Nat.le_of_dvd hS0 hf.den
      have hnum : r.2.num.natAbs ≤ ps.sum := by
        have hc := (hch r h)
        have h1 : (isFraction (dFr r.2) && decide (0 ≤ r.2.num) && decide (r.2.num ≤ r.2.den)) = true := hc.1
        simp only [Bool.and_eq_true, decide_eq_true_eq] at h1
        omega
      show (decide (2 ≤ 60) && sms [sD r.1, dFr r.2]) = true
      refine Bool.and_eq_true_iff.mpr ⟨rfl, ?_⟩
      simp only [sms, Bool.and_eq_true]
      refine ⟨(hset r h).2, ?_, trivial⟩
      show (decide (2 ≤ 60) && sms [.int r.2.num, .int r.2.den]) = true
      simp only [sms, sm, Bool.and_eq_true, decide_eq_true_eq]
      refine ⟨by decide, ?_, ?_, trivial⟩ <;> omega
    show (decide (2 ≤ 60) && sms [.int u, .tup (rs.map rowD)]) = true
    simp only [sms, sm, Bool.and_eq_true, decide_eq_true_eq]
    refine ⟨by decide, by omega, ⟨by rw [List.length_map]; omega, sms_of fun d hd => ?_⟩, trivial⟩
    obtain ⟨r, h, rfl⟩ := List.mem_map.mp hd
    exact hrow r h
  · have : 61 * ps.sum ≤ 61 * 20 := by omega
    exact Nat.lt_of_le_of_lt this (Nat.lt_of_lt_of_le (by decide : 61 * 20 < 2 ^ 12) (Nat.pow_le_pow_right (by decide) (by decide)))
  · refine ⟨fun e => ?_, ?_, ?_⟩
    · have e : rs = [] := e
      rw [e] at hlen
      simp at hlen; omega
    · show rs.length ≤ 5
      omega
    · omega
theorem natAbs_le_pow {a : Int} (h : a.natAbs < 2 ^ 10) : a.natAbs < 2 ^ 100000 := Nat.lt_of_lt_of_le h (Nat.pow_le_pow_right (by decide) (by decide))
theorem natAbs_le_pow2 {a : Int} (h : a.natAbs < 2 ^ 10) : a.natAbs < 2 ^ 9000 := Nat.lt_of_lt_of_le h (Nat.pow_le_pow_right (by decide) (by decide))
theorem sp_lplan {d b : Nat} {sc : List Int} {n : Nat} {k : KD} {x : KX} (hs : sc.length ≤ 63) (hb : 1 ≤ b) (hb5 : b ≤ 5) (hn : n + 80 ≤ 1000000)
    (hk : ∀ (P : Pl) M n', PlOk M P → P.rows ≠ [] ∧ P.rows.length ≤ 5 ∧ M ≤ 20 → n ≤ n' → n' ≤ n + 80 → k (dPl P) n') : callW T (d + 3) 18 [.scr sc, .st, .int b] n k x := by
  refine callW_i t_law_plan rfl ?_
  repeat array_get_dec
  refine draw_i hs (by omega) (by omega) fun r n1 h1 h2 h3 h4 => ?_
  repeat array_get_dec
  obtain ⟨r, rfl⟩ := Int.eq_ofNat_of_zero_le h1
  have hu : r + 1 ≤ 5 := by omega
  have hu1 : 1 ≤ r + 1 := by omega
  rw [show (1 : Int) + (r : Int) = ((r + 1 : Nat) : Int) by omega]
  generalize r + 1 = u at hu hu1
  refine sp_lsets hu fun ys hys => ?_
  have hyl : ys.length ≤ 32 := by
    rw [hys.length_eq, List.length_map, rows_len]
    exact Nat.le_trans (Nat.pow_le_pow_right (by decide) hu) (by decide)
  repeat array_get_dec
  refine sp_shuffled hs (by omega) (by omega) fun zs n2 hzs h5 h6 => ?_
  have hzl := hzs.length_eq
  repeat array_get_dec
  refine draw_i hs (by omega) (by omega) fun c n3 h7 h8 h9 h10 => ?_
  repeat array_get_dec
  obtain ⟨l, hl, rfl⟩ := perm_map_inv sD (hzs.trans hys) _ rfl
  rw [cut_to _ (by omega)]
  obtain ⟨m, hm, hm5⟩ : ∃ m, (1 + c).toNat = m ∧ 1 ≤ m ∧ m ≤ 5 := ⟨_, rfl, by omega, by omega⟩
  rw [hm, ← List.map_take]
  have hL : (l.take m).length ≤ 5 := by rw [List.length_take]; omega
  refine lc_drawn _ _ _ (fun dd _ m2 kk h11 h12 hkk => ?_) (by unfold small; simp; omega) fun ps n4 hps hp4 h13 h14 => ?_
  · show opA _ _
    repeat array_get_dec
    refine draw_i hs (by omega) (by simp at h12; omega) fun i n5 h15 h16 h17 h18 => ?_
    repeat array_get_dec
    obtain ⟨i, rfl⟩ := Int.eq_ofNat_of_zero_le h15
    have := hkk (i + 1) n5 (by omega) (by omega) (by omega) (by omega)
    rw [show (1 : Int) + (i : Int) = ((i + 1 : Nat) : Int) by omega]
    exact this
  rw [List.length_map] at hps
  rw [List.nil_append]
  repeat array_get_dec
  rw [zip_map]
  have hll : 1 ≤ (l.take m).length := by
    rw [List.length_take, hl.length_eq, rows_len]
    have := Nat.one_le_two_pow (n := u)
    omega
  have hS := sum_bd hp4
  refine lc_map0 (fun d => match d with
    | .tup [s, .int p] => .tup [s, dFr (Rat.divInt p ps.sum)]
    | d => d) (by unfold small; simp; omega) (fun dd hd kk hkk => ?_) ?_
  · obtain ⟨r, hr, rfl⟩ := List.mem_map.mp hd
    show opA _ _
    repeat array_get_dec
    refine ⟨_, allInts_map ps, ?_⟩
    rw [sum_cast]
    repeat array_get_dec
    have hp := hp4 r.2 (List.of_mem_zip hr).2
    refine sp_lfrac (by omega) (natAbs_le_pow (by omega)) (natAbs_le_pow2 (by omega)) ?_
    repeat array_get_dec
    refine ⟨by simp [small], ?_⟩
    repeat array_get_dec
    exact hkk
  have e0 : (((l.take m).zip ps).map fun r => D.tup [sD r.1, .int r.2]).map (fun d => match d with
    | .tup [s, .int p] => .tup [s, dFr (Rat.divInt p ps.sum)]
    | d => d) = (drawnRows (l.take m) ps).map rowD := by
    unfold drawnRows
    rw [List.map_map, List.map_map]
    rfl
  rw [e0]
  repeat array_get_dec
  refine ⟨?_, rows_pre _, fun qs hq hsort => ?_⟩
  · unfold small drawnRows; simp; omega
  repeat array_get_dec
  have hnd := (hl.nodup_iff).mpr (rows_nodup hu)
  obtain ⟨P, M, hP, hne, e⟩ := plan_ok hu1 hu (List.Nodup.sublist (List.take_sublist m l) hnd) (fun s h => hl.mem_iff.mp (List.mem_of_mem_take h)) hll hL hps hp4 hq hsort
  refine ⟨by simp [small], ?_⟩
  repeat array_get_dec
  rw [← e]
  exact hk P M n4 hP hne (by omega) (by simp at h14; omega)
end PVR
end
section
set_option Elab.async false
set_option linter.all false
set_option maxRecDepth 100000
set_option maxHeartbeats 400000
namespace PVR
open PV
local macro_rules | `(tactic| array_get_dec) => `(tactic| first
  | with_reducible refine wB0 ?_
  | with_reducible refine wB ?_
  | with_reducible refine wAs ?_
  | with_reducible refine wAo ?_
  | with_reducible refine wP2 ?_
  | with_reducible refine wP3 ?_
  | with_reducible refine wEx ?_
  | with_reducible refine wFi ?_
  | with_reducible refine wFo ?_
  | with_reducible refine wRe ?_
  | with_reducible refine wRa ?_
  | with_reducible refine wTy ?_
  | with_reducible refine wFz ?_
  | with_reducible refine wI ?_
  | with_reducible refine wBl ?_
  | with_reducible refine wN ?_
  | with_reducible refine wS ?_
  | with_reducible refine wTu ?_
  | with_reducible refine wLs ?_
  | with_reducible refine wBi ?_
  | with_reducible refine wCm ?_
  | with_reducible refine wCh ?_
  | with_reducible refine wNg ?_
  | with_reducible refine wNt ?_
  | with_reducible refine wAn ?_
  | with_reducible refine wOr ?_
  | with_reducible refine wIe ?_
  | with_reducible refine wCa ?_
  | with_reducible refine wBc ?_
  | with_reducible refine wIsi ?_
  | with_reducible refine wIx ?_
  | with_reducible refine wSl ?_
  | with_reducible refine wRv ?_
  | with_reducible refine wLc ?_
  | with_reducible refine wL2 ?_
  | with_reducible refine wL0 ?_
  | with_reducible refine wL ?_
  | with_reducible refine wO0 ?_
  | with_reducible refine wO ?_
  | with_reducible refine wC0 ?_
  | with_reducible refine wC ?_
  | with_reducible refine wIex ?_
  | with_reducible refine wIr1 ?_
  | with_reducible refine wIr2 ?_
  | with_reducible refine wIen ?_
  | with_reducible refine wIzp ?_
  | with_reducible refine wF ?_
  | with_reducible refine wFt ?_
  | with_reducible refine wKb ?_
  | with_reducible refine oAdd ?_
  | with_reducible refine oSub ?_
  | with_reducible refine oNg ?_
  | with_reducible refine oInt ?_
  | with_reducible refine oSqT ?_
  | with_reducible refine oSqL ?_
  | with_reducible refine oSqR ?_
  | with_reducible refine oLt ?_
  | with_reducible refine oLe ?_
  | with_reducible refine oGt ?_
  | with_reducible refine oGe ?_
  | with_reducible refine oEqI ?_
  | with_reducible refine oNeI ?_
  | with_reducible refine bLenT ?_
  | with_reducible refine bLenL ?_
  | with_reducible refine bLenR ?_
  | with_reducible refine bAbs ?_
  | with_reducible refine bList ?_
  | with_reducible refine bListT ?_
  | with_reducible refine bTup ?_
  | with_reducible refine bTupT ?_
  | with_reducible refine oIs ?_
  | with_reducible refine oIsn ?_
  | with_reducible refine oST ?_
  | with_reducible refine oSL ?_
  | with_reducible refine oZTT ?_
  | with_reducible refine oZTL ?_
  | with_reducible refine oZLT ?_
  | with_reducible refine oZLL ?_
  | with_reducible refine oET ?_
  | with_reducible refine oEL ?_
  | ((with_reducible refine' wV ?h ?_); (case h => rfl))
  | ((with_reducible refine' wVo ?h ?_); (case h => rfl))
  | ((with_reducible refine' wAg ?h ?_); (case h => rfl))
  | ((with_reducible refine' wAp ?h ?_); (case h => rfl))
  | ((with_reducible refine' wSi ?h ?_); (case h => rfl))
  | ((with_reducible refine' wOl ?h ?_); (case h => rfl))
  | ((with_reducible refine' wOi ?h ?_); (case h => rfl))
  | ((with_reducible refine' wFtN ?h ?_); (case h => rfl))
  | ((with_reducible refine' wA ?h ?_); (case h => rfl))
  | ((with_reducible refine' oT ?h ?_); (case h => rfl))
  | ((with_reducible refine' oI ?h ?_); (case h => rfl))
  | ((with_reducible refine' oXT ?h ?_); (case h => rfl))
  | ((with_reducible refine' oXL ?h ?_); (case h => rfl))
  | ((with_reducible refine' iteT ?h ?_); (case h => rfl))
  | ((with_reducible refine' iteF ?h ?_); (case h => rfl))
  | ((with_reducible refine' wSet ?h ?_); (case h => rfl))
  | ((with_reducible refine' wSetO ?h ?_); (case h => rfl))
  | ((with_reducible refine' oCatT ?h ?_); (case h => simp [small]; done)))

theorem neg_data (q : Rat) : D.tup [.int (-q.num), .int q.den] = dFr (-q) := by
  unfold dFr
  rw [Rat.neg_num, Rat.neg_den]
theorem Sz.neg {q : Rat} (h : Sz q) : Sz (-q) := by
  refine ⟨?_, ?_⟩
  · rw [Rat.neg_num, Int.natAbs_neg]; exact h.1
  · rw [Rat.neg_den]; exact h.2
theorem sp_minus {d : Nat} {p q : Rat} {n : Nat} {k : KD} {x : KX} (hp : Sz p) (hq : Sz q) (hk : k (dFr (p - q)) n) : callW T (d + 4) 48 [dFr p, dFr q] n k x := by
  refine callW_i t_minus rfl ?_
  repeat array_get_dec
  refine ⟨by simp [small], ?_⟩
  repeat array_get_dec
  rw [neg_data]
  have e : k = fin false k := by funext d n; exact fin_f.symm
  rw [← e]
  exact sp_plus hp hq.neg (by rw [← Rat.sub_eq_add_neg]; exact hk)
theorem sp_times {d : Nat} {p q : Rat} {n : Nat} {k : KD} {x : KX} (hp : Sz p) (hq : Sz q) (hk : k (dFr (p * q)) n) : callW T (d + 3) 49 [dFr p, dFr q] n k x := by
  refine callW_i t_times rfl ?_
  have h1 : ((p.den : Int)).natAbs < 2 ^ 4000 := hp.2
  have h2 : ((q.den : Int)).natAbs < 2 ^ 4000 := hq.2
  repeat array_get_dec
  refine oMul (mulOk_of hp.1 hq.1) ?_
  repeat array_get_dec
  refine oMul (mulOk_of h1 h2) ?_
  repeat array_get_dec
  have hp0 := p.den_nz
  have hq0 := q.den_nz
  have e : k = fin false k := by funext d n; exact fin_f.symm
  rw [← e]
  refine sp_lowest ?_ ?_ ?_
  · exact_mod_cast Nat.mul_ne_zero hp0 hq0
  · exact pow_lt (natAbs_mul_lt h1 h2) (by decide)
  · have := Rat.divInt_mul_divInt p.num q.num (d₁ := p.den) (d₂ := q.den)
    rw [Rat.num_divInt_den, Rat.num_divInt_den] at this
    rw [← this]; exact hk
theorem sp_lminus {d : Nat} {p q : Rat} {n : Nat} {k : KD} {x : KX} (hp : Sz p) (hq : Sz q) (hk : k (dFr (p - q)) n) : callW T (d + 4) 57 [dFr p, dFr q] n k x := by
  refine callW_i t_law_minus rfl ?_
  repeat array_get_dec
  refine ⟨by simp [small], ?_⟩
  repeat array_get_dec
  rw [neg_data]
  have e : k = fin false k := by funext d n; exact fin_f.symm
  rw [← e]
  exact sp_lplus hp hq.neg (by rw [← Rat.sub_eq_add_neg]; exact hk)
theorem sp_ltimes {d : Nat} {p q : Rat} {n : Nat} {k : KD} {x : KX} (hp : Sz p) (hq : Sz q) (hk : k (dFr (p * q)) n) : callW T (d + 3) 58 [dFr p, dFr q] n k x := by
  refine callW_i t_law_times rfl ?_
  have h1 : ((p.den : Int)).natAbs < 2 ^ 4000 := hp.2
  have h2 : ((q.den : Int)).natAbs < 2 ^ 4000 := hq.2
  repeat array_get_dec
  refine oMul (mulOk_of hp.1 hq.1) ?_
  repeat array_get_dec
  refine oMul (mulOk_of h1 h2) ?_
  repeat array_get_dec
  have hp0 := p.den_nz
  have hq0 := q.den_nz
  have e : k = fin false k := by funext d n; exact fin_f.symm
  rw [← e]
  refine sp_lfrac ?_ ?_ ?_ ?_
  · exact_mod_cast Nat.mul_ne_zero hp0 hq0
  · exact pow_lt (natAbs_mul_lt hp.1 hq.1) (by decide)
  · exact pow_lt (natAbs_mul_lt h1 h2) (by decide)
  · have := Rat.divInt_mul_divInt p.num q.num (d₁ := p.den) (d₂ := q.den)
    rw [Rat.num_divInt_den, Rat.num_divInt_den] at this
    rw [← this]; exact hk
theorem sp_whole {d : Nat} {i : Int} {n : Nat} {k : KD} {x : KX} (hk : k (dFr i) n) : callW T (d + 1) 50 [.int i] n k x := by
  refine callW_i t_whole rfl ?_
  repeat array_get_dec
  refine ⟨by simp [small], ?_⟩
  repeat array_get_dec
  exact hk
end PVR
end
section
set_option Elab.async false
set_option linter.all false
set_option maxRecDepth 100000
set_option maxHeartbeats 2000000
namespace PVR
open PV
local macro_rules | `(tactic| sizeOf_list_dec) => `(tactic| first
  | assumption
  | ((with_reducible repeat constructor); done)
  | exact List.mem_cons_self
  | (simp [small]; done)
  | (simp [small]; omega)
  | (simp; omega)
  | omega)
local macro_rules | `(tactic| array_get_dec) => `(tactic| first
  | with_reducible refine wCaF ?_
  | with_reducible refine wAs ?_
  | with_reducible refine wB ?_
  | with_reducible refine wB0 ?_
  | with_reducible refine wL ?_
  | with_reducible refine wL0 ?_
  | with_reducible refine wI ?_
  | with_reducible refine wF ?_
  | with_reducible refine wFi ?_
  | with_reducible refine wRe ?_
  | with_reducible refine wTu ?_
  | with_reducible refine wIx ?_
  | with_reducible refine wCm ?_
  | with_reducible refine wAo ?_
  | with_reducible refine wFo ?_
  | with_reducible refine wEx ?_
  | with_reducible refine wIe ?_
  | with_reducible refine wBc ?_
  | with_reducible refine wLc ?_
  | with_reducible refine wBi ?_
  | with_reducible refine wAn ?_
  | with_reducible refine wOr ?_
  | with_reducible refine wNt ?_
  | with_reducible refine wIsi ?_
  | with_reducible refine wSl ?_
  | with_reducible refine wO ?_
  | with_reducible refine wO0 ?_
  | with_reducible refine wC0 ?_
  | with_reducible refine wC ?_
  | with_reducible refine wIex ?_
  | with_reducible refine wIr1 ?_
  | with_reducible refine wIr2 ?_
  | with_reducible refine wIen ?_
  | with_reducible refine wIzp ?_
  | with_reducible refine wFt ?_
  | with_reducible refine wKb ?_
  | with_reducible refine wLs ?_
  | with_reducible refine wP2 ?_
  | with_reducible refine wP3 ?_
  | with_reducible refine wRa ?_
  | with_reducible refine wTy ?_
  | with_reducible refine wBl ?_
  | with_reducible refine wN ?_
  | with_reducible refine wS ?_
  | with_reducible refine wCh ?_
  | with_reducible refine wNg ?_
  | with_reducible refine wCa ?_
  | with_reducible refine wRv ?_
  | with_reducible refine wL2 ?_
  | with_reducible refine wLirL ?_
  | with_reducible refine wLirT ?_
  | with_reducible refine wMn ?_
  | with_reducible refine wDg ?_
  | with_reducible refine oMn ?_
  | with_reducible refine wDa ?_
  | with_reducible refine oAdd ?_
  | with_reducible refine oSub ?_
  | with_reducible refine oNg ?_
  | with_reducible refine oInt ?_
  | with_reducible refine oSqT ?_
  | with_reducible refine oSqL ?_
  | with_reducible refine oSqR ?_
  | with_reducible refine oLt ?_
  | with_reducible refine oLe ?_
  | with_reducible refine oGt ?_
  | with_reducible refine oGe ?_
  | with_reducible refine oEqI ?_
  | with_reducible refine oNeI ?_
  | with_reducible refine oIs ?_
  | with_reducible refine oIsn ?_
  | with_reducible refine bLenT ?_
  | with_reducible refine bLenL ?_
  | with_reducible refine bLenR ?_
  | with_reducible refine bAbs ?_
  | with_reducible refine bList ?_
  | with_reducible refine bListT ?_
  | with_reducible refine bTup ?_
  | with_reducible refine bTupT ?_
  | with_reducible refine oST1 ?_
  | with_reducible refine oSL1 ?_
  | with_reducible refine oST ?_
  | with_reducible refine oSL ?_
  | with_reducible refine oZTT ?_
  | with_reducible refine oZTL ?_
  | with_reducible refine oZLT ?_
  | with_reducible refine oZLL ?_
  | with_reducible refine oET ?_
  | with_reducible refine oEL ?_
  | with_reducible refine bIntI ?_
  | with_reducible refine bIntB ?_
  | with_reducible refine bAllM ?_
  | with_reducible refine bAnyM ?_
  | with_reducible refine bSumM ?_
  | with_reducible refine bSumT ?_
  | ((with_reducible refine' vPd ?h ?_); (case h => (with_reducible repeat constructor)))
  | ((with_reducible refine' vOin ?h ?_); (case h => (with_reducible repeat constructor)))
  | ((with_reducible refine' vOgD ?h ?_); (case h => (with_reducible repeat constructor)))
  | ((with_reducible refine' vOgx ?h ?_); (case h => (with_reducible repeat constructor)))
  | ((with_reducible refine' vDk ?h ?_); (case h => (with_reducible repeat constructor)))
  | ((with_reducible refine' vDn ?h ?_); (case h => (with_reducible repeat constructor)))
  | ((with_reducible refine' vDs ?h ?_); (case h => (with_reducible repeat constructor)))
  | ((with_reducible refine' vV ?h ?_); (case h => (with_reducible repeat constructor)))
  | ((with_reducible refine' vVo ?h ?_); (case h => (with_reducible repeat constructor)))
  | ((with_reducible refine' vAg ?h ?_); (case h => (with_reducible repeat constructor)))
  | ((with_reducible refine' vAp ?h ?_); (case h => (with_reducible repeat constructor)))
  | ((with_reducible refine' vSi ?h ?_); (case h => (with_reducible repeat constructor)))
  | ((with_reducible refine' vOl ?h ?_); (case h => (with_reducible repeat constructor)))
  | ((with_reducible refine' vOi ?h ?_); (case h => (with_reducible repeat constructor)))
  | ((with_reducible refine' vA ?h ?_); (case h => (with_reducible repeat constructor)))
  | ((with_reducible refine' vSet ?h ?_); (case h => (with_reducible repeat constructor)))
  | ((with_reducible refine' vSetO ?h ?_); (case h => (with_reducible repeat constructor)))
  | ((with_reducible refine' vFz ?h ?_); (case h => (with_reducible repeat constructor)))
  | ((with_reducible refine' vLk ?h ?h2 ?_); (case h => (with_reducible repeat constructor)); (case h2 => (with_reducible repeat constructor)))
  | ((with_reducible refine' wFtN ?h ?_); (case h => rfl))
  | ((with_reducible refine' oT ?h ?_); (case h => rfl))
  | ((with_reducible refine' oI ?h ?_); (case h => rfl))
  | ((with_reducible refine' oXT ?h ?_); (case h => rfl))
  | ((with_reducible refine' oXL ?h ?_); (case h => rfl))
  | ((with_reducible refine' iteT ?h ?_); (case h => first | with_reducible rfl | decide))
  | ((with_reducible refine' iteF ?h ?_); (case h => first | with_reducible rfl | decide))
  | ((with_reducible refine' oCatT ?h ?_); (case h => sizeOf_list_dec))
  | ((with_reducible refine' oCatL ?h ?_); (case h => sizeOf_list_dec))
  | ((with_reducible refine' aSm ?h ?_); (case h => sizeOf_list_dec))
  | ((with_reducible refine' aMem ?h ?_); (case h => sizeOf_list_dec))
  | ((with_reducible refine' aTop ?h ?_); (case h => sizeOf_list_dec)))
local macro_rules | `(tactic| array_mem_dec) => `(tactic| repeat array_get_dec)
local macro_rules | `(tactic| clean_wf) => `(tactic| repeat (first | array_get_dec | refine oNeB ?_ | refine iteT rfl ?_ | refine iteF rfl ?_))
abbrev Q (L k b : Nat) (q : Rat) : Prop := Fb (L ^ k) (2 ^ b) q
structure Lk (L : Nat) : Prop where
  pos : 0 < L
  lt : L < 2 ^ 256
theorem Lk.pow {L : Nat} (h : Lk L) (k : Nat) : 0 < L ^ k := Nat.pow_pos h.pos
theorem Lk.le {L : Nat} (h : Lk L) (k : Nat) : L ^ k ≤ 2 ^ (256 * k) := by
  rw [Nat.pow_mul]
  exact Nat.pow_le_pow_left (Nat.le_of_lt h.lt) k
theorem Fb.dvd {M M' B : Nat} {q : Rat} (h : Fb M B q) (hd : M ∣ M') : Fb M' B q := ⟨Nat.dvd_trans h.den hd, h.lo, h.hi⟩
theorem Q.mono {L k b k' b' : Nat} {q : Rat} (h : Q L k b q) (hk : k ≤ k') (hb : b ≤ b') : Q L k' b' q := (Fb.mono h (Nat.pow_le_pow_right (by decide) hb)).dvd (Nat.pow_dvd_pow L hk)
theorem qsize {L k b m : Nat} (hL : Lk L) (hs : 256 * k + b + m + 2 ≤ 4000) : (2 ^ m * 2 ^ b + 1) * L ^ k < 2 ^ 4000 := by
  have h1 := hL.le k
  have h2 : 2 ^ m * 2 ^ b + 1 ≤ 2 ^ (m + b + 1) := by
    rw [← Nat.pow_add, Nat.pow_succ]
    have := Nat.one_le_two_pow (n := m + b)
    omega
  have h3 : (2 ^ m * 2 ^ b + 1) * L ^ k ≤ 2 ^ (m + b + 1) * 2 ^ (256 * k) := Nat.mul_le_mul h2 h1
  have e3 : 2 ^ (m + b + 1) * 2 ^ (256 * k) = 2 ^ (m + b + 1 + 256 * k) := (Nat.pow_add _ _ _).symm
  rw [e3] at h3
  exact Nat.lt_of_le_of_lt h3 (Nat.pow_lt_pow_right (a := 2) (by decide) (show m + b + 1 + 256 * k < 4000 by omega))
theorem Q.sz {L k b : Nat} {q : Rat} (hL : Lk L) (h : Q L k b q) (hs : 256 * k + b + 2 ≤ 4000) : Sz q := by
  refine Fb.sz (hL.pow k) h ?_
  have := qsize (m := 0) hL (by omega : 256 * k + b + 0 + 2 ≤ 4000)
  simpa using this
theorem Q.neg {L k b : Nat} {q : Rat} (h : Q L k b q) : Q L k b (-q) := by
  refine ⟨by rw [Rat.neg_den]; exact h.den, ?_, ?_⟩
  · have := h.hi; grind
  · have := h.lo; grind
theorem Q.add {L k b k' b' : Nat} {p q : Rat} (hL : Lk L) (h : Q L k b p) (h' : Q L k' b' q) : Q L (max k k') (max b b' + 1) (p + q) := by
  have h1 := Q.mono h (Nat.le_max_left k k') (Nat.le_max_left b b')
  have h2 := Q.mono h' (Nat.le_max_right k k') (Nat.le_max_right b b')
  have := Fb.add (hL.pow _) h1 h2
  refine Fb.mono this ?_
  rw [Nat.pow_succ]; omega
theorem Q.sub {L k b k' b' : Nat} {p q : Rat} (hL : Lk L) (h : Q L k b p) (h' : Q L k' b' q) : Q L (max k k') (max b b' + 1) (p - q) := by
  rw [Rat.sub_eq_add_neg]
  exact Q.add hL h (Q.neg h')
theorem Fb.mul {M B M' B' : Nat} {p q : Rat} (hM : 0 < M) (hM' : 0 < M') (h : Fb M B p) (h' : Fb M' B' q) : Fb (M * M') (B * B') (p * q) := by
  have e : ((B * B' : Nat) : Rat) = (B : Rat) * (B' : Rat) := by simp
  have l1 := h.lo
  have l2 := h.hi
  have l3 := h'.lo
  have l4 := h'.hi
  have a1 : 0 ≤ ((B : Rat) - p) * ((B' : Rat) + q) := Rat.mul_nonneg (by grind) (by grind)
  have a2 : 0 ≤ ((B : Rat) + p) * ((B' : Rat) - q) := Rat.mul_nonneg (by grind) (by grind)
  have a3 : 0 ≤ ((B : Rat) - p) * ((B' : Rat) - q) := Rat.mul_nonneg (by grind) (by grind)
  have a4 : 0 ≤ ((B : Rat) + p) * ((B' : Rat) + q) := Rat.mul_nonneg (by grind) (by grind)
  refine ⟨?_, ?_, ?_⟩
  · obtain ⟨a, ha⟩ := (den_dvd_iff hM).mp h.den
    obtain ⟨b, hb⟩ := (den_dvd_iff hM').mp h'.den
    refine (den_dvd_iff (Nat.mul_pos hM hM')).mpr ⟨a * b, ?_⟩
    rw [ha, hb, Rat.mkRat_mul_mkRat]
  · rw [e]; grind
  · rw [e]; grind
theorem Q.mul {L k b k' b' : Nat} {p q : Rat} (hL : Lk L) (h : Q L k b p) (h' : Q L k' b' q) : Q L (k + k') (b + b') (p * q) := by
  have := Fb.mul (hL.pow k) (hL.pow k') h h'
  rw [← Nat.pow_add, ← Nat.pow_add] at this
  exact this
theorem Q.div {L k b k' b' : Nat} {p q : Rat} (hL : Lk L) (h : Q L k b p) (h' : Q L k' b' q⁻¹) : Q L (k + k') (b + b') (p / q) := by
  rw [Rat.div_def]; exact Q.mul hL h h'
theorem Q.int {L b : Nat} {i : Int} (h : i.natAbs ≤ 2 ^ b) : Q L 0 b (i : Rat) := by
  refine ⟨by simp, ?_, ?_⟩
  · have : -((2 ^ b : Nat) : Int) ≤ i := by omega
    have h2 : ((-((2 ^ b : Nat) : Int) : Int) : Rat) ≤ (i : Rat) := Rat.intCast_le_intCast.mpr this
    simpa using h2
  · have : i ≤ ((2 ^ b : Nat) : Int) := by omega
    have h2 : (i : Rat) ≤ ((((2 ^ b : Nat) : Int)) : Rat) := Rat.intCast_le_intCast.mpr this
    simpa using h2
theorem Q.zero {L k b : Nat} : Q L k b 0 := Fb.mono (Fb.zero (M := L ^ k)) (Nat.zero_le _)
theorem Fb.sum {M B : Nat} (hM : 0 < M) : ∀ {qs : List Rat}, (∀ q ∈ qs, Fb M B q) → Fb M (qs.length * B) qs.sum
  | [], _ => by simpa using Fb.zero (M := M)
  | q :: qs, h => by
    rw [List.sum_cons, List.length_cons, Nat.succ_mul, Nat.add_comm]
    exact Fb.add hM (h q List.mem_cons_self) (Fb.sum hM fun r hr => h r (List.mem_cons_of_mem _ hr))
theorem Q.sum {L k b : Nat} (m : Nat) {qs : List Rat} (hL : Lk L) (h : ∀ q ∈ qs, Q L k b q) (hm : qs.length ≤ 2 ^ m) : Q L k (b + m) qs.sum := by
  refine Fb.mono (Fb.sum (hL.pow k) h) ?_
  rw [Nat.pow_add, Nat.mul_comm]
  exact Nat.mul_le_mul_left _ hm
theorem lenQ {L k b len : Nat} (hL : Lk L) (hs : 256 * k + b + 20 ≤ 4000) (hl : len ≤ 100000) : (len * 2 ^ b + 1) * L ^ k < 2 ^ 4000 := by
  have := qsize (m := 17) hL (by omega : 256 * k + b + 17 + 2 ≤ 4000)
  have e : len ≤ 2 ^ 17 := by omega
  have h1 : len * 2 ^ b + 1 ≤ 2 ^ 17 * 2 ^ b + 1 := Nat.succ_le_succ (Nat.mul_le_mul_right _ e)
  exact Nat.lt_of_le_of_lt (Nat.mul_le_mul_right _ h1) this
theorem sp_totalL {d L k b : Nat} {qs : List Rat} {n : Nat} {kk : KD} {x : KX} (hL : Lk L) (hq : ∀ q ∈ qs, Q L k b q) (hs : 256 * k + b + 20 ≤ 4000) (hl : qs.length ≤ 100000) (hk : kk (dFr qs.sum) n) : callW T (d + 4) 5 [.lst (qs.map dFr)] n kk x :=
  sp_total rfl (hL.pow k) hq (lenQ hL hs hl) (Nat.two_pow_pos b) hk
theorem sp_ltotalL {d L k b : Nat} {qs : List Rat} {n : Nat} {kk : KD} {x : KX} (hL : Lk L) (hq : ∀ q ∈ qs, Q L k b q) (hs : 256 * k + b + 20 ≤ 4000) (hl : qs.length ≤ 100000) (hk : kk (dFr qs.sum) n) : callW T (d + 4) 16 [.lst (qs.map dFr)] n kk x :=
  sp_ltotal rfl (hL.pow k) hq (lenQ hL hs hl) (Nat.two_pow_pos b) hk
theorem sp_totalM {d L k b : Nat} {α : Type} {l : List α} {f : α → Rat} {n : Nat} {kk : KD} {x : KX} (hL : Lk L) (hq : ∀ a ∈ l, Q L k b (f a)) (hs : 256 * k + b + 20 ≤ 4000) (hl : l.length ≤ 100000) (hk : kk (dFr (l.map f).sum) n) : callW T (d + 4) 5 [.lst (l.map fun a => dFr (f a))] n kk x := by
  have e : (l.map fun a => dFr (f a)) = (l.map f).map dFr := by rw [List.map_map]; rfl
  rw [e]
  exact sp_totalL hL (fun q hq' => by obtain ⟨a, ha, rfl⟩ := List.mem_map.mp hq'; exact hq a ha) hs (by simpa using hl) hk
theorem sp_ltotalM {d L k b : Nat} {α : Type} {l : List α} {f : α → Rat} {n : Nat} {kk : KD} {x : KX} (hL : Lk L) (hq : ∀ a ∈ l, Q L k b (f a)) (hs : 256 * k + b + 20 ≤ 4000) (hl : l.length ≤ 100000) (hk : kk (dFr (l.map f).sum) n) : callW T (d + 4) 16 [.lst (l.map fun a => dFr (f a))] n kk x := by
  have e : (l.map fun a => dFr (f a)) = (l.map f).map dFr := by rw [List.map_map]; rfl
  rw [e]
  exact sp_ltotalL hL (fun q hq' => by obtain ⟨a, ha, rfl⟩ := List.mem_map.mp hq'; exact hq a ha) hs (by simpa using hl) hk
theorem sp_over {d : Nat} {p q : Rat} {n : Nat} {k : KD} {x : KX} (hp : Sz p) (hq : Sz q) (h0 : q ≠ 0) (hk : k (dFr (p / q)) n) : callW T (d + 3) 136 [dFr p, dFr q] n k x := by
  refine callW_v t_over rfl (by with_reducible repeat constructor) ?_
  have h1 : ((p.den : Int)).natAbs < 2 ^ 4000 := hp.2
  have h2 : ((q.den : Int)).natAbs < 2 ^ 4000 := hq.2
  have hq0 : q.num ≠ 0 := fun e => h0 (Rat.num_eq_zero.mp e)
  array_mem_dec
  refine oMul (mulOk_of hp.1 h2) ?_
  array_mem_dec
  refine oMul (mulOk_of h1 hq.1) ?_
  array_mem_dec
  refine sp_lowest (Int.mul_ne_zero (by have := p.den_nz; omega) hq0) (pow_lt (natAbs_mul_lt h1 hq.1) (by decide)) ?_
  have e : Rat.divInt (p.num * q.den) (p.den * q.num) = p / q := by
    rw [← Rat.divInt_mul_divInt, Rat.num_divInt_den, Rat.div_def, Rat.inv_def]
  rw [e]; exact hk
theorem num_zero {q : Rat} : (q.num == 0) = decide (q = 0) := by
  by_cases h : q = 0
  · subst h; rfl
  · rw [decide_eq_false h, beq_eq_false_iff_ne]
    exact fun e => h (Rat.num_eq_zero.mp e)
theorem num_pos {q : Rat} : decide (0 < q.num) = decide (0 < q) := by
  have : 0 < q.num ↔ 0 < q := by rw [Rat.lt_iff]; simp
  simp only [this]
theorem whole_data (i : Int) : D.tup [.int i, .int 1] = dFr i := rfl
end PVR
end
section
set_option Elab.async false
set_option linter.all false
set_option maxRecDepth 100000
set_option maxHeartbeats 2000000
namespace PVR
open PV
local macro_rules | `(tactic| sizeOf_list_dec) => `(tactic| first
  | assumption
  | ((with_reducible repeat constructor); done)
  | exact List.mem_cons_self
  | (simp [small]; done)
  | (simp [small]; omega)
  | (simp; omega)
  | omega)
local macro_rules | `(tactic| array_get_dec) => `(tactic| first
  | with_reducible refine wCaF ?_
  | with_reducible refine wAs ?_
  | with_reducible refine wB ?_
  | with_reducible refine wB0 ?_
  | with_reducible refine wL ?_
  | with_reducible refine wL0 ?_
  | with_reducible refine wI ?_
  | with_reducible refine wF ?_
  | with_reducible refine wFi ?_
  | with_reducible refine wRe ?_
  | with_reducible refine wTu ?_
  | with_reducible refine wIx ?_
  | with_reducible refine wCm ?_
  | with_reducible refine wAo ?_
  | with_reducible refine wFo ?_
  | with_reducible refine wEx ?_
  | with_reducible refine wIe ?_
  | with_reducible refine wBc ?_
  | with_reducible refine wLc ?_
  | with_reducible refine wBi ?_
  | with_reducible refine wAn ?_
  | with_reducible refine wOr ?_
  | with_reducible refine wNt ?_
  | with_reducible refine wIsi ?_
  | with_reducible refine wSl ?_
  | with_reducible refine wO ?_
  | with_reducible refine wO0 ?_
  | with_reducible refine wC0 ?_
  | with_reducible refine wC ?_
  | with_reducible refine wIex ?_
  | with_reducible refine wIr1 ?_
  | with_reducible refine wIr2 ?_
  | with_reducible refine wIen ?_
  | with_reducible refine wIzp ?_
  | with_reducible refine wFt ?_
  | with_reducible refine wKb ?_
  | with_reducible refine wLs ?_
  | with_reducible refine wP2 ?_
  | with_reducible refine wP3 ?_
  | with_reducible refine wRa ?_
  | with_reducible refine wTy ?_
  | with_reducible refine wBl ?_
  | with_reducible refine wN ?_
  | with_reducible refine wS ?_
  | with_reducible refine wCh ?_
  | with_reducible refine wNg ?_
  | with_reducible refine wCa ?_
  | with_reducible refine wRv ?_
  | with_reducible refine wL2 ?_
  | with_reducible refine wLirL ?_
  | with_reducible refine wLirT ?_
  | with_reducible refine wMn ?_
  | with_reducible refine wDg ?_
  | with_reducible refine oMn ?_
  | with_reducible refine wDa ?_
  | with_reducible refine oAdd ?_
  | with_reducible refine oSub ?_
  | with_reducible refine oNg ?_
  | with_reducible refine oInt ?_
  | with_reducible refine oSqT ?_
  | with_reducible refine oSqL ?_
  | with_reducible refine oSqR ?_
  | with_reducible refine oLt ?_
  | with_reducible refine oLe ?_
  | with_reducible refine oGt ?_
  | with_reducible refine oGe ?_
  | with_reducible refine oEqI ?_
  | with_reducible refine oNeI ?_
  | with_reducible refine oIs ?_
  | with_reducible refine oIsn ?_
  | with_reducible refine bLenT ?_
  | with_reducible refine bLenL ?_
  | with_reducible refine bLenR ?_
  | with_reducible refine bAbs ?_
  | with_reducible refine bList ?_
  | with_reducible refine bListT ?_
  | with_reducible refine bTup ?_
  | with_reducible refine bTupT ?_
  | with_reducible refine oST1 ?_
  | with_reducible refine oSL1 ?_
  | with_reducible refine oST ?_
  | with_reducible refine oSL ?_
  | with_reducible refine oZTT ?_
  | with_reducible refine oZTL ?_
  | with_reducible refine oZLT ?_
  | with_reducible refine oZLL ?_
  | with_reducible refine oET ?_
  | with_reducible refine oEL ?_
  | with_reducible refine bIntI ?_
  | with_reducible refine bIntB ?_
  | with_reducible refine bAllM ?_
  | with_reducible refine bAnyM ?_
  | with_reducible refine bSumM ?_
  | with_reducible refine bSumT ?_
  | ((with_reducible refine' vPd ?h ?_); (case h => (with_reducible repeat constructor)))
  | ((with_reducible refine' vOin ?h ?_); (case h => (with_reducible repeat constructor)))
  | ((with_reducible refine' vOgD ?h ?_); (case h => (with_reducible repeat constructor)))
  | ((with_reducible refine' vOgx ?h ?_); (case h => (with_reducible repeat constructor)))
  | ((with_reducible refine' vDk ?h ?_); (case h => (with_reducible repeat constructor)))
  | ((with_reducible refine' vDn ?h ?_); (case h => (with_reducible repeat constructor)))
  | ((with_reducible refine' vDs ?h ?_); (case h => (with_reducible repeat constructor)))
  | ((with_reducible refine' vV ?h ?_); (case h => (with_reducible repeat constructor)))
  | ((with_reducible refine' vVo ?h ?_); (case h => (with_reducible repeat constructor)))
  | ((with_reducible refine' vAg ?h ?_); (case h => (with_reducible repeat constructor)))
  | ((with_reducible refine' vAp ?h ?_); (case h => (with_reducible repeat constructor)))
  | ((with_reducible refine' vSi ?h ?_); (case h => (with_reducible repeat constructor)))
  | ((with_reducible refine' vOl ?h ?_); (case h => (with_reducible repeat constructor)))
  | ((with_reducible refine' vOi ?h ?_); (case h => (with_reducible repeat constructor)))
  | ((with_reducible refine' vA ?h ?_); (case h => (with_reducible repeat constructor)))
  | ((with_reducible refine' vSet ?h ?_); (case h => (with_reducible repeat constructor)))
  | ((with_reducible refine' vSetO ?h ?_); (case h => (with_reducible repeat constructor)))
  | ((with_reducible refine' vFz ?h ?_); (case h => (with_reducible repeat constructor)))
  | ((with_reducible refine' vLk ?h ?h2 ?_); (case h => (with_reducible repeat constructor)); (case h2 => (with_reducible repeat constructor)))
  | ((with_reducible refine' wFtN ?h ?_); (case h => rfl))
  | ((with_reducible refine' oT ?h ?_); (case h => rfl))
  | ((with_reducible refine' oI ?h ?_); (case h => rfl))
  | ((with_reducible refine' oXT ?h ?_); (case h => rfl))
  | ((with_reducible refine' oXL ?h ?_); (case h => rfl))
  | ((with_reducible refine' iteT ?h ?_); (case h => first | with_reducible rfl | decide))
  | ((with_reducible refine' iteF ?h ?_); (case h => first | with_reducible rfl | decide))
  | ((with_reducible refine' oCatT ?h ?_); (case h => sizeOf_list_dec))
  | ((with_reducible refine' oCatL ?h ?_); (case h => sizeOf_list_dec))
  | ((with_reducible refine' aSm ?h ?_); (case h => sizeOf_list_dec))
  | ((with_reducible refine' aMem ?h ?_); (case h => sizeOf_list_dec))
  | ((with_reducible refine' aTop ?h ?_); (case h => sizeOf_list_dec)))
local macro_rules | `(tactic| array_mem_dec) => `(tactic| repeat array_get_dec)
local macro_rules | `(tactic| clean_wf) => `(tactic| repeat (first | array_get_dec | refine oNeB ?_ | refine iteT rfl ?_ | refine iteF rfl ?_))
structure PlFacts (P : Pl) : Prop where
  u1 : 1 ≤ P.u
  u5 : P.u ≤ 5
  len : P.rows.length ≤ 60
  pos : ∀ r ∈ P.rows, 0 < r.2
  one : (P.rows.map (·.2)).sum = 1
  set : ∀ r ∈ P.rows, isSet P.u (sD r.1) = true
  rng : ∀ r ∈ P.rows, ∀ i ∈ r.1, 0 ≤ i ∧ i < P.u
theorem set_rng {u : Nat} {s : List Int} (h : isSet u (sD s) = true) : ∀ i ∈ s, 0 ≤ i ∧ i < u := fun i hi => by
  simp only [isSet, sD, Bool.and_eq_true] at h
  have := List.all_eq_true.mp h.1 (.int i) (List.mem_map.mpr ⟨i, hi, rfl⟩)
  simp only [isInteger, Bool.and_eq_true, decide_eq_true_eq] at this
  omega
theorem PlOk.facts {M : Nat} {P : Pl} (h : PlOk M P) : PlFacts P := by
  have h1 := h.plan
  simp only [isPlan, Bool.and_eq_true, decide_eq_true_eq] at h1
  have hu := h.u
  have hd : ∀ r ∈ P.rows, isDraw P.u (rowD r) = true := fun r hr => List.all_eq_true.mp h1.2.1 _ (List.mem_map.mpr ⟨r, hr, rfl⟩)
  have hset : ∀ r ∈ P.rows, isSet P.u (sD r.1) = true := fun r hr => by
    have := hd r hr
    simp only [isDraw, Bool.and_eq_true] at this
    exact this.1
  refine ⟨hu.1, hu.2, h.len, fun r hr => ?_, ?_, hset, fun r hr => set_rng (hset r hr)⟩
  · have := hd r hr
    simp only [isDraw, Bool.and_eq_true] at this
    have h2 : decide (0 < r.2.num) = true := this.2.2
    rw [num_pos] at h2
    simpa using h2
  · have h2 := h1.2.2.2
    have e : shares (P.rows.map rowD) = P.rows.map (·.2) := by
      unfold shares
      rw [List.map_map]
      exact List.map_congr_left fun r _ => rat_fr r.2
    rw [e] at h2
    exact h2
theorem sum_nonneg : ∀ {qs : List Rat}, (∀ q ∈ qs, 0 ≤ q) → 0 ≤ qs.sum
  | [], _ => by simp
  | q :: qs, h => by
    rw [List.sum_cons]
    exact Rat.add_nonneg (h q List.mem_cons_self) (sum_nonneg fun r hr => h r (List.mem_cons_of_mem _ hr))
theorem sum_filter_le {α : Type} (p : α → Bool) (f : α → Rat) : ∀ {l : List α}, (∀ a ∈ l, 0 ≤ f a) → ((l.filter p).map f).sum ≤ (l.map f).sum
  | [], _ => by simp
  | a :: l, h => by
    have ih := sum_filter_le p f (l := l) fun b hb => h b (List.mem_cons_of_mem _ hb)
    have h0 := h a List.mem_cons_self
    by_cases hp : p a = true
    · rw [List.filter_cons_of_pos hp, List.map_cons, List.sum_cons, List.map_cons, List.sum_cons]; grind
    · rw [List.filter_cons_of_neg hp, List.map_cons, List.sum_cons]; grind
theorem PlFacts.jn0 {P : Pl} (h : PlFacts P) (i j : Int) : 0 ≤ jn P i j := sum_nonneg fun q hq => by
  obtain ⟨r, hr, rfl⟩ := List.mem_map.mp hq
  exact Rat.le_of_lt (h.pos r (List.mem_filter.mp hr).1)
theorem PlFacts.jn1 {P : Pl} (h : PlFacts P) (i j : Int) : jn P i j ≤ 1 := by
  rw [← h.one]
  exact sum_filter_le _ _ fun r hr => Rat.le_of_lt (h.pos r hr)
structure PlG (L : Nat) (P : Pl) : Prop where
  hL : Lk L
  six : 60 ∣ L
  f : PlFacts P
  ok : ∃ M, PlOk M P
  row : ∀ r ∈ P.rows, Q L 1 0 r.2
  jn : ∀ i j, Q L 1 0 (jn P i j)
  inv : ∀ i j : Nat, i < P.u → j < P.u → PVR.jn P i j ≠ 0 → Q L 1 9 (PVR.jn P i j)⁻¹
theorem PlG.sm {L : Nat} {P : Pl} (h : PlG L P) : sm (dPl P) = true := h.ok.elim fun _ h => h.sm
theorem PlG.plan {L : Nat} {P : Pl} (h : PlG L P) : isPlan (dPl P) = true := h.ok.elim fun _ h => h.plan
theorem jn_den {M : Nat} {P : Pl} (h : PlOk M P) (i j : Int) : (jn P i j).den ∣ M := (Fb.sum h.hM (jn_fb h i j)).den
theorem prod_le {c : Nat} (hc : 0 < c) : ∀ {l : List Nat}, (∀ a ∈ l, a ≤ c) → l.prod ≤ c ^ l.length
  | [], _ => by simp
  | a :: l, h => by
    rw [List.prod_cons, List.length_cons, Nat.pow_succ, Nat.mul_comm (c ^ _)]
    exact Nat.mul_le_mul (h a List.mem_cons_self) (prod_le hc fun b hb => h b (List.mem_cons_of_mem _ hb))
theorem prod_pos' : ∀ {l : List Nat}, (∀ a ∈ l, 0 < a) → 0 < l.prod
  | [], _ => by simp
  | a :: l, h => by
    rw [List.prod_cons]
    exact Nat.mul_pos (h a List.mem_cons_self) (prod_pos' fun b hb => h b (List.mem_cons_of_mem _ hb))
theorem dvd_prod' : ∀ {l : List Nat} {a : Nat}, a ∈ l → a ∣ l.prod
  | b :: l, a, h => by
    rw [List.prod_cons]
    rcases List.mem_cons.mp h with rfl | h
    · exact Nat.dvd_mul_right _ _
    · exact Nat.dvd_trans (dvd_prod' h) (Nat.dvd_mul_left _ _)
theorem plG_of {M : Nat} {P : Pl} (h : PlOk M P) (hM : M ≤ 2 ^ 9) : ∃ L, PlG L P := by
  have F := h.facts
  let g : Nat × Nat → Nat := fun p => if (jn P p.1 p.2).num.natAbs = 0 then 1 else (jn P p.1 p.2).num.natAbs
  let ps : List (Nat × Nat) := (List.range P.u).flatMap fun i => (List.range P.u).map fun j => (i, j)
  have hden : ∀ i j : Int, (jn P i j).den ≤ M := fun i j => Nat.le_of_dvd h.hM (jn_den h i j)
  have hnum : ∀ i j : Int, (jn P i j).num.natAbs ≤ M := fun i j => by
    have h1 := (Rat.le_iff _ _).mp (F.jn1 i j)
    have h2 := Rat.num_nonneg.mpr (F.jn0 i j)
    have := hden i j
    simp at h1
    omega
  have g1 : ∀ p, 0 < g p := fun p => by show 0 < ite _ _ _; split <;> omega
  have g2 : ∀ p, g p ≤ M := fun p => by
    show ite _ _ _ ≤ M
    have := h.hM
    have := hnum p.1 p.2
    split <;> omega
  have hps : ps.length ≤ 25 := by
    have : ps.length = P.u * P.u := by simp [ps, List.length_flatMap, List.map_const', List.sum_replicate_nat]
    rw [this]
    exact Nat.mul_le_mul F.u5 F.u5
  have hpr : (ps.map g).prod ≤ M ^ 25 := by
    refine Nat.le_trans (prod_le h.hM (l := ps.map g) fun a ha => ?_) ?_
    · obtain ⟨p, _, rfl⟩ := List.mem_map.mp ha
      exact g2 p
    · rw [List.length_map]
      exact Nat.pow_le_pow_right h.hM hps
  refine ⟨60 * (M * (ps.map g).prod), ⟨⟨Nat.mul_pos (by decide) (Nat.mul_pos h.hM (prod_pos' fun a ha => ?_)), ?_⟩, Nat.dvd_mul_right _ _, F, ⟨M, h⟩, fun r hr => ?_, fun i j => ?_, fun i j hi hj h0 => ?_⟩⟩
  · obtain ⟨p, _, rfl⟩ := List.mem_map.mp ha
    exact g1 p
  · have h1 : M * (ps.map g).prod ≤ 2 ^ 9 * (2 ^ 9) ^ 25 := Nat.mul_le_mul hM (Nat.le_trans hpr (Nat.pow_le_pow_left hM 25))
    have h2 : 60 * (M * (ps.map g).prod) ≤ 60 * (2 ^ 9 * (2 ^ 9) ^ 25) := Nat.mul_le_mul_left _ h1
    exact Nat.lt_of_le_of_lt h2 (by decide)
  · have := h.fb r hr
    refine Fb.dvd (M := M) (by simpa using this) ?_
    rw [Nat.pow_one]
    exact Nat.dvd_trans (Nat.dvd_mul_right _ _) (Nat.dvd_mul_left _ _)
  · refine ⟨?_, ?_, ?_⟩
    · rw [Nat.pow_one]
      exact Nat.dvd_trans (Nat.dvd_trans (jn_den h i j) (Nat.dvd_mul_right _ _)) (Nat.dvd_mul_left _ _)
    · have := F.jn0 i j
      refine Rat.le_trans ?_ this
      decide
    · exact F.jn1 i j
  · have hp : 0 < jn P i j := Rat.lt_of_le_of_ne (F.jn0 i j) (Ne.symm h0)
    have hn : 0 < (jn P i j).num := by have := Rat.lt_iff 0 (jn P i j); simp at this; exact this.mp hp
    have hi0 : 0 < (jn P i j)⁻¹ := Rat.inv_pos.mpr hp
    refine ⟨?_, ?_, ?_⟩
    · rw [Nat.pow_one, Rat.den_inv, if_neg (by omega)]
      have hm : g (i, j) ∈ ps.map g := List.mem_map.mpr ⟨(i, j), by simp [ps, hi, hj], rfl⟩
      have e : g (i, j) = (jn P i j).num.natAbs := if_neg (by show ¬ (jn P i j).num.natAbs = 0; omega)
      rw [e] at hm
      exact Nat.dvd_trans (Nat.dvd_trans (dvd_prod' hm) (Nat.dvd_mul_left _ _)) (Nat.dvd_mul_left _ _)
    · have e : ((2 ^ 9 : Nat) : Rat) = 512 := by decide +kernel
      rw [e]; grind
    · rw [Rat.le_iff, Rat.num_inv, Rat.den_inv, if_neg (by omega), Int.sign_eq_one_of_pos hn]
      have := hden i j
      simp
      have h3 : (jn P i j).den ≤ 512 := by omega
      have h4 : 512 ≤ 512 * (jn P i j).num.natAbs := Nat.le_mul_of_pos_right _ (by omega)
      omega
end PVR
end
section
set_option Elab.async false
set_option linter.all false
set_option maxRecDepth 100000
set_option maxHeartbeats 2000000
namespace PVR
open PV
local macro_rules | `(tactic| sizeOf_list_dec) => `(tactic| first
  | assumption
  | ((with_reducible repeat constructor); done)
  | exact List.mem_cons_self
  | (simp [small]; done)
  | (simp [small]; omega)
  | (simp; omega)
  | omega)
local macro_rules | `(tactic| array_get_dec) => `(tactic| first
  | with_reducible refine wCaF ?_
  | with_reducible refine wAs ?_
  | with_reducible refine wB ?_
  | with_reducible refine wB0 ?_
  | with_reducible refine wL ?_
  | with_reducible refine wL0 ?_
  | with_reducible refine wI ?_
  | with_reducible refine wF ?_
  | with_reducible refine wFi ?_
  | with_reducible refine wRe ?_
  | with_reducible refine wTu ?_
  | with_reducible refine wIx ?_
  | with_reducible refine wCm ?_
  | with_reducible refine wAo ?_
  | with_reducible refine wFo ?_
  | with_reducible refine wEx ?_
  | with_reducible refine wIe ?_
  | with_reducible refine wBc ?_
  | with_reducible refine wLc ?_
  | with_reducible refine wBi ?_
  | with_reducible refine wAn ?_
  | with_reducible refine wOr ?_
  | with_reducible refine wNt ?_
  | with_reducible refine wIsi ?_
  | with_reducible refine wSl ?_
  | with_reducible refine wO ?_
  | with_reducible refine wO0 ?_
  | with_reducible refine wC0 ?_
  | with_reducible refine wC ?_
  | with_reducible refine wIex ?_
  | with_reducible refine wIr1 ?_
  | with_reducible refine wIr2 ?_
  | with_reducible refine wIen ?_
  | with_reducible refine wIzp ?_
  | with_reducible refine wFt ?_
  | with_reducible refine wKb ?_
  | with_reducible refine wLs ?_
  | with_reducible refine wP2 ?_
  | with_reducible refine wP3 ?_
  | with_reducible refine wRa ?_
  | with_reducible refine wTy ?_
  | with_reducible refine wBl ?_
  | with_reducible refine wN ?_
  | with_reducible refine wS ?_
  | with_reducible refine wCh ?_
  | with_reducible refine wNg ?_
  | with_reducible refine wCa ?_
  | with_reducible refine wRv ?_
  | with_reducible refine wL2 ?_
  | with_reducible refine wLirL ?_
  | with_reducible refine wLirT ?_
  | with_reducible refine wMn ?_
  | with_reducible refine wDg ?_
  | with_reducible refine oMn ?_
  | with_reducible refine wDa ?_
  | with_reducible refine oAdd ?_
  | with_reducible refine oSub ?_
  | with_reducible refine oNg ?_
  | with_reducible refine oInt ?_
  | with_reducible refine oSqT ?_
  | with_reducible refine oSqL ?_
  | with_reducible refine oSqR ?_
  | with_reducible refine oLt ?_
  | with_reducible refine oLe ?_
  | with_reducible refine oGt ?_
  | with_reducible refine oGe ?_
  | with_reducible refine oEqI ?_
  | with_reducible refine oNeI ?_
  | with_reducible refine oIs ?_
  | with_reducible refine oIsn ?_
  | with_reducible refine bLenT ?_
  | with_reducible refine bLenL ?_
  | with_reducible refine bLenR ?_
  | with_reducible refine bAbs ?_
  | with_reducible refine bList ?_
  | with_reducible refine bListT ?_
  | with_reducible refine bTup ?_
  | with_reducible refine bTupT ?_
  | with_reducible refine oST1 ?_
  | with_reducible refine oSL1 ?_
  | with_reducible refine oST ?_
  | with_reducible refine oSL ?_
  | with_reducible refine oZTT ?_
  | with_reducible refine oZTL ?_
  | with_reducible refine oZLT ?_
  | with_reducible refine oZLL ?_
  | with_reducible refine oET ?_
  | with_reducible refine oEL ?_
  | with_reducible refine bIntI ?_
  | with_reducible refine bIntB ?_
  | with_reducible refine bAllM ?_
  | with_reducible refine bAnyM ?_
  | with_reducible refine bSumM ?_
  | with_reducible refine bSumT ?_
  | ((with_reducible refine' vPd ?h ?_); (case h => (with_reducible repeat constructor)))
  | ((with_reducible refine' vOin ?h ?_); (case h => (with_reducible repeat constructor)))
  | ((with_reducible refine' vOgD ?h ?_); (case h => (with_reducible repeat constructor)))
  | ((with_reducible refine' vOgx ?h ?_); (case h => (with_reducible repeat constructor)))
  | ((with_reducible refine' vDk ?h ?_); (case h => (with_reducible repeat constructor)))
  | ((with_reducible refine' vDn ?h ?_); (case h => (with_reducible repeat constructor)))
  | ((with_reducible refine' vDs ?h ?_); (case h => (with_reducible repeat constructor)))
  | ((with_reducible refine' vV ?h ?_); (case h => (with_reducible repeat constructor)))
  | ((with_reducible refine' vVo ?h ?_); (case h => (with_reducible repeat constructor)))
  | ((with_reducible refine' vAg ?h ?_); (case h => (with_reducible repeat constructor)))
  | ((with_reducible refine' vAp ?h ?_); (case h => (with_reducible repeat constructor)))
  | ((with_reducible refine' vSi ?h ?_); (case h => (with_reducible repeat constructor)))
  | ((with_reducible refine' vOl ?h ?_); (case h => (with_reducible repeat constructor)))
  | ((with_reducible refine' vOi ?h ?_); (case h => (with_reducible repeat constructor)))
  | ((with_reducible refine' vA ?h ?_); (case h => (with_reducible repeat constructor)))
  | ((with_reducible refine' vSet ?h ?_); (case h => (with_reducible repeat constructor)))
  | ((with_reducible refine' vSetO ?h ?_); (case h => (with_reducible repeat constructor)))
  | ((with_reducible refine' vFz ?h ?_); (case h => (with_reducible repeat constructor)))
  | ((with_reducible refine' vLk ?h ?h2 ?_); (case h => (with_reducible repeat constructor)); (case h2 => (with_reducible repeat constructor)))
  | ((with_reducible refine' wFtN ?h ?_); (case h => rfl))
  | ((with_reducible refine' oT ?h ?_); (case h => rfl))
  | ((with_reducible refine' oI ?h ?_); (case h => rfl))
  | ((with_reducible refine' oXT ?h ?_); (case h => rfl))
  | ((with_reducible refine' oXL ?h ?_); (case h => rfl))
  | ((with_reducible refine' iteT ?h ?_); (case h => first | with_reducible rfl | decide))
  | ((with_reducible refine' iteF ?h ?_); (case h => first | with_reducible rfl | decide))
  | ((with_reducible refine' oCatT ?h ?_); (case h => sizeOf_list_dec))
  | ((with_reducible refine' oCatL ?h ?_); (case h => sizeOf_list_dec))
  | ((with_reducible refine' aSm ?h ?_); (case h => sizeOf_list_dec))
  | ((with_reducible refine' aMem ?h ?_); (case h => sizeOf_list_dec))
  | ((with_reducible refine' aTop ?h ?_); (case h => sizeOf_list_dec)))
local macro_rules | `(tactic| array_mem_dec) => `(tactic| repeat array_get_dec)
local macro_rules | `(tactic| clean_wf) => `(tactic| repeat (first | array_get_dec | refine oNeB ?_ | refine iteT rfl ?_ | refine iteF rfl ?_))
def mean (P : Pl) (f : List Int × Rat → Rat) : Rat := (P.rows.map fun r => r.2 * f r).sum
def vari (P : Pl) (f : List Int × Rat → Rat) : Rat := mean P fun r => (f r - mean P f) * (f r - mean P f)
theorem mean_q {L k b : Nat} {P : Pl} {f : List Int × Rat → Rat} (g : PlG L P) (hf : ∀ r ∈ P.rows, Q L k b (f r)) : Q L (k + 1) (b + 6) (mean P f) := by
  refine Q.sum 6 g.hL (fun q hq => ?_) (by rw [List.length_map]; exact Nat.le_trans g.f.len (by decide))
  obtain ⟨r, hr, rfl⟩ := List.mem_map.mp hq
  have := Q.mul g.hL (g.row r hr) (hf r hr)
  exact Q.mono this (by omega) (by omega)
theorem sp_mean_of {d L k b : Nat} {P : Pl} {f : List Int × Rat → Rat} {n : Nat} {kk : KD} {x : KX} (g : PlG L P) (hf : ∀ r ∈ P.rows, Q L k b (f r)) (hs : 256 * (k + 1) + b + 20 ≤ 4000) (hk : kk (dFr (mean P f)) n) : callW T (d + 5) 51 [dPl P, .lst (P.rows.map fun r => dFr (f r))] n kk x := by
  have hl := g.f.len
  refine callW_v t_mean_of rfl (by with_reducible repeat constructor) ?_
  array_mem_dec
  rw [zipS]
  refine lcM (res := fun r => dFr (r.2 * f r)) (by omega) (by sizeOf_list_dec) (fun r hr => by sizeOf_list_dec) (fun r hr kk hkk => ?_) ?_
  · array_mem_dec
    exact sp_times (Q.sz g.hL (g.row r hr) (by omega)) (Q.sz g.hL (hf r hr) (by omega)) hkk
  array_mem_dec
  exact sp_totalM (k := k + 1) (b := b) g.hL (fun r hr => Q.mono (Q.mul g.hL (g.row r hr) (hf r hr)) (by omega) (by omega)) hs (by omega) hk
theorem rest_q {L k b : Nat} {P : Pl} {f : List Int × Rat → Rat} (g : PlG L P) (hf : ∀ r ∈ P.rows, Q L k b (f r)) : ∀ r ∈ P.rows, Q L (k + 1) (b + 7) (f r - mean P f) := fun r hr => Q.mono (Q.sub g.hL (hf r hr) (mean_q g hf)) (by omega) (by omega)
theorem sq_q {L k b : Nat} {P : Pl} {f : List Int × Rat → Rat} (g : PlG L P) (hf : ∀ r ∈ P.rows, Q L k b (f r)) : ∀ r ∈ P.rows, Q L (2 * k + 2) (2 * b + 14) ((f r - mean P f) * (f r - mean P f)) := fun r hr => Q.mono (Q.mul g.hL (rest_q g hf r hr) (rest_q g hf r hr)) (by omega) (by omega)
theorem sp_variance_of {d L k b : Nat} {P : Pl} {f : List Int × Rat → Rat} {n : Nat} {kk : KD} {x : KX} (g : PlG L P) (hf : ∀ r ∈ P.rows, Q L k b (f r)) (hs : 256 * (2 * k + 3) + 2 * b + 40 ≤ 4000) (hk : kk (dFr (vari P f)) n) : callW T (d + 6) 52 [dPl P, .lst (P.rows.map fun r => dFr (f r))] n kk x := by
  have hl := g.f.len
  refine callW_v t_variance_of rfl (by with_reducible repeat constructor) ?_
  array_mem_dec
  refine sp_mean_of g hf (by omega) ?_
  array_mem_dec
  refine lcM (res := fun r => dFr (f r - mean P f)) (by omega) (by sizeOf_list_dec) (fun r hr => by sizeOf_list_dec) (fun r hr kk hkk => ?_) ?_
  · array_mem_dec
    exact sp_minus (Q.sz g.hL (hf r hr) (by omega)) (Q.sz g.hL (mean_q g hf) (by omega)) hkk
  array_mem_dec
  refine lcM (res := fun r => dFr ((f r - mean P f) * (f r - mean P f))) (by omega) (by sizeOf_list_dec) (fun r hr => by sizeOf_list_dec) (fun r hr kk hkk => ?_) ?_
  · array_mem_dec
    exact sp_times (Q.sz g.hL (rest_q g hf r hr) (by omega)) (Q.sz g.hL (rest_q g hf r hr) (by omega)) hkk
  array_mem_dec
  exact sp_mean_of g (sq_q g hf) (by omega) hk
theorem sets_len {u : Nat} {s : List Int} (h : isSet u (sD s) = true) : s.length ≤ u := by
  simp only [isSet, sD, Bool.and_eq_true] at h
  have hr := set_rng (u := u) (s := s) (by simp only [isSet, sD, Bool.and_eq_true]; exact h)
  have hc := h.2
  -- ascending ints below u
  have key : ∀ (s : List Int) (lo : Int), (∀ i ∈ s, lo ≤ i ∧ i < u) → lo ≤ u → chain ltI (s.map D.int) = true → (s.length : Int) ≤ u - lo := by
    intro s
    induction s with
    | nil => intro lo _ h _; simp; omega
    | cons a s ih =>
      intro lo hr _ hc
      have ha := hr a List.mem_cons_self
      cases s with
      | nil => simp; omega
      | cons b s =>
        have h2 : (ltI (.int a) (.int b) && chain ltI ((b :: s).map D.int)) = true := hc
        simp only [ltI, Bool.and_eq_true, decide_eq_true_eq] at h2
        have hb : ∀ i ∈ b :: s, a + 1 ≤ i ∧ i < u := by
          -- all behind a are above a
          have asc : ∀ (s : List Int) (b : Int), chain ltI ((b :: s).map D.int) = true → ∀ i ∈ b :: s, b ≤ i := by
            intro s
            induction s with
            | nil => intro b _ i hi; simp at hi; omega
            | cons c s ih2 =>
              intro b hc i hi
              have h3 : (ltI (.int b) (.int c) && chain ltI ((c :: s).map D.int)) = true := hc
              simp only [ltI, Bool.and_eq_true, decide_eq_true_eq] at h3
              rcases List.mem_cons.mp hi with rfl | hi
              · omega
              · have := ih2 c h3.2 i hi; omega
          intro i hi
          have := asc s b h2.2 i hi
          have := (hr i (List.mem_cons_of_mem _ hi)).2
          omega
        have := ih (a + 1) hb (by omega) h2.2
        simp only [List.length_cons] at this ⊢
        omega
  have := key s 0 hr (by omega) hc
  omega
end PVR
end
section
set_option Elab.async false
set_option linter.all false
set_option maxRecDepth 100000
set_option maxHeartbeats 2000000
namespace PVR
open PV
local macro_rules | `(tactic| sizeOf_list_dec) => `(tactic| first
  | assumption
  | ((with_reducible repeat constructor); done)
  | exact List.mem_cons_self
  | (simp [small]; done)
  | (simp [small]; omega)
  | (simp; omega)
  | omega)
local macro_rules | `(tactic| array_get_dec) => `(tactic| first
  | with_reducible refine wCaF ?_
  | with_reducible refine wAs ?_
  | with_reducible refine wB ?_
  | with_reducible refine wB0 ?_
  | with_reducible refine wL ?_
  | with_reducible refine wL0 ?_
  | with_reducible refine wI ?_
  | with_reducible refine wF ?_
  | with_reducible refine wFi ?_
  | with_reducible refine wRe ?_
  | with_reducible refine wTu ?_
  | with_reducible refine wIx ?_
  | with_reducible refine wCm ?_
  | with_reducible refine wAo ?_
  | with_reducible refine wFo ?_
  | with_reducible refine wEx ?_
  | with_reducible refine wIe ?_
  | with_reducible refine wBc ?_
  | with_reducible refine wLc ?_
  | with_reducible refine wBi ?_
  | with_reducible refine wAn ?_
  | with_reducible refine wOr ?_
  | with_reducible refine wNt ?_
  | with_reducible refine wIsi ?_
  | with_reducible refine wSl ?_
  | with_reducible refine wO ?_
  | with_reducible refine wO0 ?_
  | with_reducible refine wC0 ?_
  | with_reducible refine wC ?_
  | with_reducible refine wIex ?_
  | with_reducible refine wIr1 ?_
  | with_reducible refine wIr2 ?_
  | with_reducible refine wIen ?_
  | with_reducible refine wIzp ?_
  | with_reducible refine wFt ?_
  | with_reducible refine wKb ?_
  | with_reducible refine wLs ?_
  | with_reducible refine wP2 ?_
  | with_reducible refine wP3 ?_
  | with_reducible refine wRa ?_
  | with_reducible refine wTy ?_
  | with_reducible refine wBl ?_
  | with_reducible refine wN ?_
  | with_reducible refine wS ?_
  | with_reducible refine wCh ?_
  | with_reducible refine wNg ?_
  | with_reducible refine wCa ?_
  | with_reducible refine wRv ?_
  | with_reducible refine wL2 ?_
  | with_reducible refine wLirL ?_
  | with_reducible refine wLirT ?_
  | with_reducible refine wMn ?_
  | with_reducible refine wDg ?_
  | with_reducible refine oMn ?_
  | with_reducible refine wDa ?_
  | with_reducible refine oAdd ?_
  | with_reducible refine oSub ?_
  | with_reducible refine oNg ?_
  | with_reducible refine oInt ?_
  | with_reducible refine oSqT ?_
  | with_reducible refine oSqL ?_
  | with_reducible refine oSqR ?_
  | with_reducible refine oLt ?_
  | with_reducible refine oLe ?_
  | with_reducible refine oGt ?_
  | with_reducible refine oGe ?_
  | with_reducible refine oEqI ?_
  | with_reducible refine oNeI ?_
  | with_reducible refine oIs ?_
  | with_reducible refine oIsn ?_
  | with_reducible refine bLenT ?_
  | with_reducible refine bLenL ?_
  | with_reducible refine bLenR ?_
  | with_reducible refine bAbs ?_
  | with_reducible refine bList ?_
  | with_reducible refine bListT ?_
  | with_reducible refine bTup ?_
  | with_reducible refine bTupT ?_
  | with_reducible refine oST1 ?_
  | with_reducible refine oSL1 ?_
  | with_reducible refine oST ?_
  | with_reducible refine oSL ?_
  | with_reducible refine oZTT ?_
  | with_reducible refine oZTL ?_
  | with_reducible refine oZLT ?_
  | with_reducible refine oZLL ?_
  | with_reducible refine oET ?_
  | with_reducible refine oEL ?_
  | with_reducible refine bIntI ?_
  | with_reducible refine bIntB ?_
  | with_reducible refine bAllM ?_
  | with_reducible refine bAnyM ?_
  | with_reducible refine bSumM ?_
  | with_reducible refine bSumT ?_
  | ((with_reducible refine' vPd ?h ?_); (case h => (with_reducible repeat constructor)))
  | ((with_reducible refine' vOin ?h ?_); (case h => (with_reducible repeat constructor)))
  | ((with_reducible refine' vOgD ?h ?_); (case h => (with_reducible repeat constructor)))
  | ((with_reducible refine' vOgx ?h ?_); (case h => (with_reducible repeat constructor)))
  | ((with_reducible refine' vDk ?h ?_); (case h => (with_reducible repeat constructor)))
  | ((with_reducible refine' vDn ?h ?_); (case h => (with_reducible repeat constructor)))
  | ((with_reducible refine' vDs ?h ?_); (case h => (with_reducible repeat constructor)))
  | ((with_reducible refine' vV ?h ?_); (case h => (with_reducible repeat constructor)))
  | ((with_reducible refine' vVo ?h ?_); (case h => (with_reducible repeat constructor)))
  | ((with_reducible refine' vAg ?h ?_); (case h => (with_reducible repeat constructor)))
  | ((with_reducible refine' vAp ?h ?_); (case h => (with_reducible repeat constructor)))
  | ((with_reducible refine' vSi ?h ?_); (case h => (with_reducible repeat constructor)))
  | ((with_reducible refine' vOl ?h ?_); (case h => (with_reducible repeat constructor)))
  | ((with_reducible refine' vOi ?h ?_); (case h => (with_reducible repeat constructor)))
  | ((with_reducible refine' vA ?h ?_); (case h => (with_reducible repeat constructor)))
  | ((with_reducible refine' vSet ?h ?_); (case h => (with_reducible repeat constructor)))
  | ((with_reducible refine' vSetO ?h ?_); (case h => (with_reducible repeat constructor)))
  | ((with_reducible refine' vFz ?h ?_); (case h => (with_reducible repeat constructor)))
  | ((with_reducible refine' vLk ?h ?h2 ?_); (case h => (with_reducible repeat constructor)); (case h2 => (with_reducible repeat constructor)))
  | ((with_reducible refine' wFtN ?h ?_); (case h => rfl))
  | ((with_reducible refine' oT ?h ?_); (case h => rfl))
  | ((with_reducible refine' oI ?h ?_); (case h => rfl))
  | ((with_reducible refine' oXT ?h ?_); (case h => rfl))
  | ((with_reducible refine' oXL ?h ?_); (case h => rfl))
  | ((with_reducible refine' iteT ?h ?_); (case h => first | with_reducible rfl | decide))
  | ((with_reducible refine' iteF ?h ?_); (case h => first | with_reducible rfl | decide))
  | ((with_reducible refine' oCatT ?h ?_); (case h => sizeOf_list_dec))
  | ((with_reducible refine' oCatL ?h ?_); (case h => sizeOf_list_dec))
  | ((with_reducible refine' aSm ?h ?_); (case h => sizeOf_list_dec))
  | ((with_reducible refine' aMem ?h ?_); (case h => sizeOf_list_dec))
  | ((with_reducible refine' aTop ?h ?_); (case h => sizeOf_list_dec)))
local macro_rules | `(tactic| array_mem_dec) => `(tactic| repeat array_get_dec)
local macro_rules | `(tactic| clean_wf) => `(tactic| repeat (first | array_get_dec | refine oNeB ?_ | refine iteT rfl ?_ | refine iteF rfl ?_))
theorem sorted_eq {α : Type} {R : α → α → Prop} (anti : ∀ a b, R a b → R b a → a = b) : ∀ {xs ys : List α}, xs.Perm ys → xs.Pairwise R → ys.Pairwise R → xs = ys
  | [], ys, h, _, _ => (List.Perm.nil_eq h)
  | x :: xs, [], h, _, _ => by have := h.length_eq; simp at this
  | x :: xs, y :: ys, h, hx, hy => by
    have hx' := List.pairwise_cons.mp hx
    have hy' := List.pairwise_cons.mp hy
    have e : x = y := by
      have h1 : x ∈ y :: ys := h.mem_iff.mp List.mem_cons_self
      have h2 : y ∈ x :: xs := h.mem_iff.mpr List.mem_cons_self
      rcases List.mem_cons.mp h1 with e | h1
      · exact e
      · rcases List.mem_cons.mp h2 with e | h2
        · exact e.symm
        · exact anti _ _ (hx'.1 _ h2) (hy'.1 _ h1)
    subst e
    rw [sorted_eq anti (List.Perm.cons_inv h) hx'.2 hy'.2]
def lexS : Nat → Nat → List (List Int)
  | _, 0 => [[]]
  | i, m + 1 => [] :: (((lexS (i + 1) m).map ((i : Int) :: ·)) ++ (lexS (i + 1) m).tail)
def lexOf (u : Nat) : List (List Int) := lexS 0 u
theorem lex_perm {u : Nat} (hu : u ≤ 5) : (lexOf u).Perm (rowsOf u) := by
  match u, hu with
  | 0, _ => decide
  | 1, _ => decide
  | 2, _ => decide
  | 3, _ => decide
  | 4, _ => decide +kernel
  | 5, _ => decide +kernel
def geD (a b : List Int) : Prop := D.ltb (sD b) (sD a) = false
instance (a b : List Int) : Decidable (geD a b) := inferInstanceAs (Decidable (_ = _))
theorem lex_len {u : Nat} (hu : u ≤ 5) : (lexOf u).length ≤ 32 := by
  rw [(lex_perm hu).length_eq, rows_len]
  exact Nat.le_trans (Nat.pow_le_pow_right (by decide) hu) (by decide)
theorem lex_ok {u : Nat} (hu : u ≤ 5) : ∀ s ∈ lexOf u, isSet u (sD s) = true ∧ sm (sD s) = true := fun s hs => sets_ok hu s ((lex_perm hu).mem_iff.mp hs)
end PVR
end
section
set_option Elab.async false
set_option linter.all false
set_option maxRecDepth 100000
set_option maxHeartbeats 2000000
namespace PVR
open PV
local macro_rules | `(tactic| sizeOf_list_dec) => `(tactic| first
  | assumption
  | ((with_reducible repeat constructor); done)
  | exact List.mem_cons_self
  | (simp [small]; done)
  | (simp [small]; omega)
  | (simp; omega)
  | omega)
local macro_rules | `(tactic| array_get_dec) => `(tactic| first
  | with_reducible refine wCaF ?_
  | with_reducible refine wAs ?_
  | with_reducible refine wB ?_
  | with_reducible refine wB0 ?_
  | with_reducible refine wL ?_
  | with_reducible refine wL0 ?_
  | with_reducible refine wI ?_
  | with_reducible refine wF ?_
  | with_reducible refine wFi ?_
  | with_reducible refine wRe ?_
  | with_reducible refine wTu ?_
  | with_reducible refine wIx ?_
  | with_reducible refine wCm ?_
  | with_reducible refine wAo ?_
  | with_reducible refine wFo ?_
  | with_reducible refine wEx ?_
  | with_reducible refine wIe ?_
  | with_reducible refine wBc ?_
  | with_reducible refine wLc ?_
  | with_reducible refine wBi ?_
  | with_reducible refine wAn ?_
  | with_reducible refine wOr ?_
  | with_reducible refine wNt ?_
  | with_reducible refine wIsi ?_
  | with_reducible refine wSl ?_
  | with_reducible refine wO ?_
  | with_reducible refine wO0 ?_
  | with_reducible refine wC0 ?_
  | with_reducible refine wC ?_
  | with_reducible refine wIex ?_
  | with_reducible refine wIr1 ?_
  | with_reducible refine wIr2 ?_
  | with_reducible refine wIen ?_
  | with_reducible refine wIzp ?_
  | with_reducible refine wFt ?_
  | with_reducible refine wKb ?_
  | with_reducible refine wLs ?_
  | with_reducible refine wP2 ?_
  | with_reducible refine wP3 ?_
  | with_reducible refine wRa ?_
  | with_reducible refine wTy ?_
  | with_reducible refine wBl ?_
  | with_reducible refine wN ?_
  | with_reducible refine wS ?_
  | with_reducible refine wCh ?_
  | with_reducible refine wNg ?_
  | with_reducible refine wCa ?_
  | with_reducible refine wRv ?_
  | with_reducible refine wL2 ?_
  | with_reducible refine wLirL ?_
  | with_reducible refine wLirT ?_
  | with_reducible refine wMn ?_
  | with_reducible refine wDg ?_
  | with_reducible refine oMn ?_
  | with_reducible refine wDa ?_
  | with_reducible refine oAdd ?_
  | with_reducible refine oSub ?_
  | with_reducible refine oNg ?_
  | with_reducible refine oInt ?_
  | with_reducible refine oSqT ?_
  | with_reducible refine oSqL ?_
  | with_reducible refine oSqR ?_
  | with_reducible refine oLt ?_
  | with_reducible refine oLe ?_
  | with_reducible refine oGt ?_
  | with_reducible refine oGe ?_
  | with_reducible refine oEqI ?_
  | with_reducible refine oNeI ?_
  | with_reducible refine oIs ?_
  | with_reducible refine oIsn ?_
  | with_reducible refine bLenT ?_
  | with_reducible refine bLenL ?_
  | with_reducible refine bLenR ?_
  | with_reducible refine bAbs ?_
  | with_reducible refine bList ?_
  | with_reducible refine bListT ?_
  | with_reducible refine bTup ?_
  | with_reducible refine bTupT ?_
  | with_reducible refine oST1 ?_
  | with_reducible refine oSL1 ?_
  | with_reducible refine oST ?_
  | with_reducible refine oSL ?_
  | with_reducible refine oZTT ?_
  | with_reducible refine oZTL ?_
  | with_reducible refine oZLT ?_
  | with_reducible refine oZLL ?_
  | with_reducible refine oET ?_
  | with_reducible refine oEL ?_
  | with_reducible refine bIntI ?_
  | with_reducible refine bIntB ?_
  | with_reducible refine bAllM ?_
  | with_reducible refine bAnyM ?_
  | with_reducible refine bSumM ?_
  | with_reducible refine bSumT ?_
  | ((with_reducible refine' vPd ?h ?_); (case h => (with_reducible repeat constructor)))
  | ((with_reducible refine' vOin ?h ?_); (case h => (with_reducible repeat constructor)))
  | ((with_reducible refine' vOgD ?h ?_); (case h => (with_reducible repeat constructor)))
  | ((with_reducible refine' vOgx ?h ?_); (case h => (with_reducible repeat constructor)))
  | ((with_reducible refine' vDk ?h ?_); (case h => (with_reducible repeat constructor)))
  | ((with_reducible refine' vDn ?h ?_); (case h => (with_reducible repeat constructor)))
  | ((with_reducible refine' vDs ?h ?_); (case h => (with_reducible repeat constructor)))
  | ((with_reducible refine' vV ?h ?_); (case h => (with_reducible repeat constructor)))
  | ((with_reducible refine' vVo ?h ?_); (case h => (with_reducible repeat constructor)))
  | ((with_reducible refine' vAg ?h ?_); (case h => (with_reducible repeat constructor)))
  | ((with_reducible refine' vAp ?h ?_); (case h => (with_reducible repeat constructor)))
  | ((with_reducible refine' vSi ?h ?_); (case h => (with_reducible repeat constructor)))
  | ((with_reducible refine' vOl ?h ?_); (case h => (with_reducible repeat constructor)))
  | ((with_reducible refine' vOi ?h ?_); (case h => (with_reducible repeat constructor)))
  | ((with_reducible refine' vA ?h ?_); (case h => (with_reducible repeat constructor)))
  | ((with_reducible refine' vSet ?h ?_); (case h => (with_reducible repeat constructor)))
  | ((with_reducible refine' vSetO ?h ?_); (case h => (with_reducible repeat constructor)))
  | ((with_reducible refine' vFz ?h ?_); (case h => (with_reducible repeat constructor)))
  | ((with_reducible refine' vLk ?h ?h2 ?_); (case h => (with_reducible repeat constructor)); (case h2 => (with_reducible repeat constructor)))
  | ((with_reducible refine' wFtN ?h ?_); (case h => rfl))
  | ((with_reducible refine' oT ?h ?_); (case h => rfl))
  | ((with_reducible refine' oI ?h ?_); (case h => rfl))
  | ((with_reducible refine' oXT ?h ?_); (case h => rfl))
  | ((with_reducible refine' oXL ?h ?_); (case h => rfl))
  | ((with_reducible refine' iteT ?h ?_); (case h => first | with_reducible rfl | decide))
  | ((with_reducible refine' iteF ?h ?_); (case h => first | with_reducible rfl | decide))
  | ((with_reducible refine' oCatT ?h ?_); (case h => sizeOf_list_dec))
  | ((with_reducible refine' oCatL ?h ?_); (case h => sizeOf_list_dec))
  | ((with_reducible refine' aSm ?h ?_); (case h => sizeOf_list_dec))
  | ((with_reducible refine' aMem ?h ?_); (case h => sizeOf_list_dec))
  | ((with_reducible refine' aTop ?h ?_); (case h => sizeOf_list_dec)))
local macro_rules | `(tactic| array_mem_dec) => `(tactic| repeat array_get_dec)
local macro_rules | `(tactic| clean_wf) => `(tactic| repeat (first | array_get_dec | refine oNeB ?_ | refine iteT rfl ?_ | refine iteF rfl ?_))
theorem okq_frs (m : Nat) (qs : List Rat) : D.okqL (m + 1) (qs.map dFr) = true := by
  induction qs with
  | nil => rfl
  | cons q qs ih => simp only [List.map_cons, D.okqL, ih, Bool.and_true]; rfl
mutual
theorem eqv_refl : ∀ (v : D) (m : Nat), D.okq m v = true → D.eqv v v = true
  | .non, _, _ => rfl
  | .bl b, _, _ => by cases b <;> rfl
  | .int i, _, _ => by show (i == i) = true; exact beq_self_eq_true i
  | .str s, _, _ => by show (s == s) = true; exact beq_self_eq_true s
  | .tup xs, m, h => by
    cases m with
    | zero => cases h
    | succ m => exact eqvL_refl xs m h
  | .lst xs, m, h => by
    cases m with
    | zero => cases h
    | succ m => exact eqvL_refl xs m h
  | .st, m, h => by cases m <;> cases h
  | .scr _, m, h => by cases m <;> cases h
theorem eqvL_refl : ∀ (xs : List D) (m : Nat), D.okqL m xs = true → D.eqvL xs xs = true
  | [], _, _ => rfl
  | x :: xs, m, h => by
    simp only [D.okqL, Bool.and_eq_true] at h
    simp only [D.eqvL, Bool.and_eq_true]
    exact ⟨eqv_refl x m h.1, eqvL_refl xs m h.2⟩
end
theorem oNeR {v : D} {k : Bool → Prop} (h : D.okq 60 v = true) (hk : k false) : op1 .ne v v k := ⟨h, h, by rw [eqv_refl v 60 h]; exact hk⟩
theorem oNeB {a b : Bool} {k : Bool → Prop} (hk : k (!(a == b))) : op1 .ne (.bl a) (.bl b) k := ⟨rfl, rfl, hk⟩
theorem oNeF {p q : Rat} {k : Bool → Prop} (hk : k (!decide (p = q))) : op1 .ne (dFr p) (dFr q) k := ⟨rfl, rfl, by rw [eqv_fr]; exact hk⟩
theorem oEqF {p q : Rat} {k : Bool → Prop} (hk : k (decide (p = q))) : op1 .eq (dFr p) (dFr q) k := ⟨rfl, rfl, by rw [eqv_fr]; exact hk⟩
end PVR
end
section
set_option Elab.async false
set_option linter.all false
set_option maxRecDepth 100000
set_option maxHeartbeats 400000
namespace PVR
open PV
local macro_rules | `(tactic| array_get_dec) => `(tactic| first
  | with_reducible refine wB0 ?_
  | with_reducible refine wB ?_
  | with_reducible refine wAs ?_
  | with_reducible refine wAo ?_
  | with_reducible refine wP2 ?_
  | with_reducible refine wP3 ?_
  | with_reducible refine wEx ?_
  | with_reducible refine wFi ?_
  | with_reducible refine wFo ?_
  | with_reducible refine wRe ?_
  | with_reducible refine wRa ?_
  | with_reducible refine wTy ?_
  | with_reducible refine wFz ?_
  | with_reducible refine wI ?_
  | with_reducible refine wBl ?_
  | with_reducible refine wN ?_
  | with_reducible refine wS ?_
  | with_reducible refine wTu ?_
  | with_reducible refine wLs ?_
  | with_reducible refine wBi ?_
  | with_reducible refine wCm ?_
  | with_reducible refine wCh ?_
  | with_reducible refine wNg ?_
  | with_reducible refine wNt ?_
  | with_reducible refine wAn ?_
  | with_reducible refine wOr ?_
  | with_reducible refine wIe ?_
  | with_reducible refine wCa ?_
  | with_reducible refine wBc ?_
  | with_reducible refine wIsi ?_
  | with_reducible refine wIx ?_
  | with_reducible refine wSl ?_
  | with_reducible refine wRv ?_
  | with_reducible refine wLc ?_
  | with_reducible refine wL2 ?_
  | with_reducible refine wL0 ?_
  | with_reducible refine wL ?_
  | with_reducible refine wO0 ?_
  | with_reducible refine wO ?_
  | with_reducible refine wC0 ?_
  | with_reducible refine wC ?_
  | with_reducible refine wIex ?_
  | with_reducible refine wIr1 ?_
  | with_reducible refine wIr2 ?_
  | with_reducible refine wIen ?_
  | with_reducible refine wIzp ?_
  | with_reducible refine wF ?_
  | with_reducible refine wFt ?_
  | with_reducible refine wKb ?_
  | with_reducible refine oAdd ?_
  | with_reducible refine oSub ?_
  | with_reducible refine oNg ?_
  | with_reducible refine oInt ?_
  | with_reducible refine oSqT ?_
  | with_reducible refine oSqL ?_
  | with_reducible refine oSqR ?_
  | with_reducible refine oLt ?_
  | with_reducible refine oLe ?_
  | with_reducible refine oGt ?_
  | with_reducible refine oGe ?_
  | with_reducible refine oEqI ?_
  | with_reducible refine oNeI ?_
  | with_reducible refine bLenT ?_
  | with_reducible refine bLenL ?_
  | with_reducible refine bLenR ?_
  | with_reducible refine bAbs ?_
  | with_reducible refine bList ?_
  | with_reducible refine bListT ?_
  | with_reducible refine bTup ?_
  | with_reducible refine bTupT ?_
  | with_reducible refine oIs ?_
  | with_reducible refine oIsn ?_
  | with_reducible refine oST ?_
  | with_reducible refine oSL ?_
  | with_reducible refine oZTT ?_
  | with_reducible refine oZTL ?_
  | with_reducible refine oZLT ?_
  | with_reducible refine oZLL ?_
  | with_reducible refine oET ?_
  | with_reducible refine oEL ?_
  | ((with_reducible refine' wV ?h ?_); (case h => rfl))
  | ((with_reducible refine' wVo ?h ?_); (case h => rfl))
  | ((with_reducible refine' wAg ?h ?_); (case h => rfl))
  | ((with_reducible refine' wAp ?h ?_); (case h => rfl))
  | ((with_reducible refine' wSi ?h ?_); (case h => rfl))
  | ((with_reducible refine' wOl ?h ?_); (case h => rfl))
  | ((with_reducible refine' wOi ?h ?_); (case h => rfl))
  | ((with_reducible refine' wFtN ?h ?_); (case h => rfl))
  | ((with_reducible refine' wA ?h ?_); (case h => rfl))
  | ((with_reducible refine' oT ?h ?_); (case h => rfl))
  | ((with_reducible refine' oI ?h ?_); (case h => rfl))
  | ((with_reducible refine' oXT ?h ?_); (case h => rfl))
  | ((with_reducible refine' oXL ?h ?_); (case h => rfl))
  | ((with_reducible refine' iteT ?h ?_); (case h => rfl))
  | ((with_reducible refine' iteF ?h ?_); (case h => rfl))
  | ((with_reducible refine' wSet ?h ?_); (case h => rfl))
  | ((with_reducible refine' wSetO ?h ?_); (case h => rfl))
  | ((with_reducible refine' oCatT ?h ?_); (case h => simp [small]; done)))


theorem PlOk.rsm {M : Nat} {P : Pl} (h : PlOk M P) : sms (P.rows.map rowD) = true := by
  have h2 := h.sm
  simp only [PVR.sm, sms, Bool.and_eq_true] at h2
  exact h2.2.2.1.2
end PVR
end
section
set_option Elab.async false
set_option linter.all false
set_option maxRecDepth 100000
set_option maxHeartbeats 2000000
namespace PVR
open PV
local macro_rules | `(tactic| sizeOf_list_dec) => `(tactic| first
  | assumption
  | ((with_reducible repeat constructor); done)
  | exact List.mem_cons_self
  | (simp [small]; done)
  | (simp [small]; omega)
  | (simp; omega)
  | omega)
local macro_rules | `(tactic| array_get_dec) => `(tactic| first
  | with_reducible refine wCaF ?_
  | with_reducible refine wAs ?_
  | with_reducible refine wB ?_
  | with_reducible refine wB0 ?_
  | with_reducible refine wL ?_
  | with_reducible refine wL0 ?_
  | with_reducible refine wI ?_
  | with_reducible refine wF ?_
  | with_reducible refine wFi ?_
  | with_reducible refine wRe ?_
  | with_reducible refine wTu ?_
  | with_reducible refine wIx ?_
  | with_reducible refine wCm ?_
  | with_reducible refine wAo ?_
  | with_reducible refine wFo ?_
  | with_reducible refine wEx ?_
  | with_reducible refine wIe ?_
  | with_reducible refine wBc ?_
  | with_reducible refine wLc ?_
  | with_reducible refine wBi ?_
  | with_reducible refine wAn ?_
  | with_reducible refine wOr ?_
  | with_reducible refine wNt ?_
  | with_reducible refine wIsi ?_
  | with_reducible refine wSl ?_
  | with_reducible refine wO ?_
  | with_reducible refine wO0 ?_
  | with_reducible refine wC0 ?_
  | with_reducible refine wC ?_
  | with_reducible refine wIex ?_
  | with_reducible refine wIr1 ?_
  | with_reducible refine wIr2 ?_
  | with_reducible refine wIen ?_
  | with_reducible refine wIzp ?_
  | with_reducible refine wFt ?_
  | with_reducible refine wKb ?_
  | with_reducible refine wLs ?_
  | with_reducible refine wP2 ?_
  | with_reducible refine wP3 ?_
  | with_reducible refine wRa ?_
  | with_reducible refine wTy ?_
  | with_reducible refine wBl ?_
  | with_reducible refine wN ?_
  | with_reducible refine wS ?_
  | with_reducible refine wCh ?_
  | with_reducible refine wNg ?_
  | with_reducible refine wCa ?_
  | with_reducible refine wRv ?_
  | with_reducible refine wL2 ?_
  | with_reducible refine wLirL ?_
  | with_reducible refine wLirT ?_
  | with_reducible refine wMn ?_
  | with_reducible refine wDg ?_
  | with_reducible refine oMn ?_
  | with_reducible refine wDa ?_
  | with_reducible refine oAdd ?_
  | with_reducible refine oSub ?_
  | with_reducible refine oNg ?_
  | with_reducible refine oInt ?_
  | with_reducible refine oSqT ?_
  | with_reducible refine oSqL ?_
  | with_reducible refine oSqR ?_
  | with_reducible refine oLt ?_
  | with_reducible refine oLe ?_
  | with_reducible refine oGt ?_
  | with_reducible refine oGe ?_
  | with_reducible refine oEqI ?_
  | with_reducible refine oNeI ?_
  | with_reducible refine oIs ?_
  | with_reducible refine oIsn ?_
  | with_reducible refine bLenT ?_
  | with_reducible refine bLenL ?_
  | with_reducible refine bLenR ?_
  | with_reducible refine bAbs ?_
  | with_reducible refine bList ?_
  | with_reducible refine bListT ?_
  | with_reducible refine bTup ?_
  | with_reducible refine bTupT ?_
  | with_reducible refine oST1 ?_
  | with_reducible refine oSL1 ?_
  | with_reducible refine oST ?_
  | with_reducible refine oSL ?_
  | with_reducible refine oZTT ?_
  | with_reducible refine oZTL ?_
  | with_reducible refine oZLT ?_
  | with_reducible refine oZLL ?_
  | with_reducible refine oET ?_
  | with_reducible refine oEL ?_
  | with_reducible refine bIntI ?_
  | with_reducible refine bIntB ?_
  | with_reducible refine bAllM ?_
  | with_reducible refine bAnyM ?_
  | with_reducible refine bSumM ?_
  | with_reducible refine bSumT ?_
  | ((with_reducible refine' vPd ?h ?_); (case h => (with_reducible repeat constructor)))
  | ((with_reducible refine' vOin ?h ?_); (case h => (with_reducible repeat constructor)))
  | ((with_reducible refine' vOgD ?h ?_); (case h => (with_reducible repeat constructor)))
  | ((with_reducible refine' vOgx ?h ?_); (case h => (with_reducible repeat constructor)))
  | ((with_reducible refine' vDk ?h ?_); (case h => (with_reducible repeat constructor)))
  | ((with_reducible refine' vDn ?h ?_); (case h => (with_reducible repeat constructor)))
  | ((with_reducible refine' vDs ?h ?_); (case h => (with_reducible repeat constructor)))
  | ((with_reducible refine' vV ?h ?_); (case h => (with_reducible repeat constructor)))
  | ((with_reducible refine' vVo ?h ?_); (case h => (with_reducible repeat constructor)))
  | ((with_reducible refine' vAg ?h ?_); (case h => (with_reducible repeat constructor)))
  | ((with_reducible refine' vAp ?h ?_); (case h => (with_reducible repeat constructor)))
  | ((with_reducible refine' vSi ?h ?_); (case h => (with_reducible repeat constructor)))
  | ((with_reducible refine' vOl ?h ?_); (case h => (with_reducible repeat constructor)))
  | ((with_reducible refine' vOi ?h ?_); (case h => (with_reducible repeat constructor)))
  | ((with_reducible refine' vA ?h ?_); (case h => (with_reducible repeat constructor)))
  | ((with_reducible refine' vSet ?h ?_); (case h => (with_reducible repeat constructor)))
  | ((with_reducible refine' vSetO ?h ?_); (case h => (with_reducible repeat constructor)))
  | ((with_reducible refine' vFz ?h ?_); (case h => (with_reducible repeat constructor)))
  | ((with_reducible refine' vLk ?h ?h2 ?_); (case h => (with_reducible repeat constructor)); (case h2 => (with_reducible repeat constructor)))
  | ((with_reducible refine' wFtN ?h ?_); (case h => rfl))
  | ((with_reducible refine' oT ?h ?_); (case h => rfl))
  | ((with_reducible refine' oI ?h ?_); (case h => rfl))
  | ((with_reducible refine' oXT ?h ?_); (case h => rfl))
  | ((with_reducible refine' oXL ?h ?_); (case h => rfl))
  | ((with_reducible refine' iteT ?h ?_); (case h => first | with_reducible rfl | decide))
  | ((with_reducible refine' iteF ?h ?_); (case h => first | with_reducible rfl | decide))
  | ((with_reducible refine' oCatT ?h ?_); (case h => sizeOf_list_dec))
  | ((with_reducible refine' oCatL ?h ?_); (case h => sizeOf_list_dec))
  | ((with_reducible refine' aSm ?h ?_); (case h => sizeOf_list_dec))
  | ((with_reducible refine' aMem ?h ?_); (case h => sizeOf_list_dec))
  | ((with_reducible refine' aTop ?h ?_); (case h => sizeOf_list_dec)))
local macro_rules | `(tactic| array_mem_dec) => `(tactic| repeat array_get_dec)
local macro_rules | `(tactic| clean_wf) => `(tactic| repeat (first | array_get_dec | refine oNeB ?_ | refine iteT rfl ?_ | refine iteF rfl ?_))
theorem sp_good {d L : Nat} {P : Pl} {n : Nat} {k : KD} {x : KX} (g : PlG L P) (hk : k .non n) : callW T (d + 6) 23 [dPl P] n k x := sp_require g.sm (fun _ => hk) fun e => by rw [g.plan] at e; cases e
end PVR
end
section
set_option Elab.async false
set_option linter.all false
set_option maxRecDepth 100000
set_option maxHeartbeats 2000000
namespace PVR
open PV
local macro_rules | `(tactic| sizeOf_list_dec) => `(tactic| first
  | assumption
  | ((with_reducible repeat constructor); done)
  | exact List.mem_cons_self
  | (simp [small]; done)
  | (simp [small]; omega)
  | (simp; omega)
  | omega)
local macro_rules | `(tactic| array_get_dec) => `(tactic| first
  | with_reducible refine wCaF ?_
  | with_reducible refine wAs ?_
  | with_reducible refine wB ?_
  | with_reducible refine wB0 ?_
  | with_reducible refine wL ?_
  | with_reducible refine wL0 ?_
  | with_reducible refine wI ?_
  | with_reducible refine wF ?_
  | with_reducible refine wFi ?_
  | with_reducible refine wRe ?_
  | with_reducible refine wTu ?_
  | with_reducible refine wIx ?_
  | with_reducible refine wCm ?_
  | with_reducible refine wAo ?_
  | with_reducible refine wFo ?_
  | with_reducible refine wEx ?_
  | with_reducible refine wIe ?_
  | with_reducible refine wBc ?_
  | with_reducible refine wLc ?_
  | with_reducible refine wBi ?_
  | with_reducible refine wAn ?_
  | with_reducible refine wOr ?_
  | with_reducible refine wNt ?_
  | with_reducible refine wIsi ?_
  | with_reducible refine wSl ?_
  | with_reducible refine wO ?_
  | with_reducible refine wO0 ?_
  | with_reducible refine wC0 ?_
  | with_reducible refine wC ?_
  | with_reducible refine wIex ?_
  | with_reducible refine wIr1 ?_
  | with_reducible refine wIr2 ?_
  | with_reducible refine wIen ?_
  | with_reducible refine wIzp ?_
  | with_reducible refine wFt ?_
  | with_reducible refine wKb ?_
  | with_reducible refine wLs ?_
  | with_reducible refine wP2 ?_
  | with_reducible refine wP3 ?_
  | with_reducible refine wRa ?_
  | with_reducible refine wTy ?_
  | with_reducible refine wBl ?_
  | with_reducible refine wN ?_
  | with_reducible refine wS ?_
  | with_reducible refine wCh ?_
  | with_reducible refine wNg ?_
  | with_reducible refine wCa ?_
  | with_reducible refine wRv ?_
  | with_reducible refine wL2 ?_
  | with_reducible refine wLirL ?_
  | with_reducible refine wLirT ?_
  | with_reducible refine wMn ?_
  | with_reducible refine wDg ?_
  | with_reducible refine oMn ?_
  | with_reducible refine wDa ?_
  | with_reducible refine oAdd ?_
  | with_reducible refine oSub ?_
  | with_reducible refine oNg ?_
  | with_reducible refine oInt ?_
  | with_reducible refine oSqT ?_
  | with_reducible refine oSqL ?_
  | with_reducible refine oSqR ?_
  | with_reducible refine oLt ?_
  | with_reducible refine oLe ?_
  | with_reducible refine oGt ?_
  | with_reducible refine oGe ?_
  | with_reducible refine oEqI ?_
  | with_reducible refine oNeI ?_
  | with_reducible refine oIs ?_
  | with_reducible refine oIsn ?_
  | with_reducible refine bLenT ?_
  | with_reducible refine bLenL ?_
  | with_reducible refine bLenR ?_
  | with_reducible refine bAbs ?_
  | with_reducible refine bList ?_
  | with_reducible refine bListT ?_
  | with_reducible refine bTup ?_
  | with_reducible refine bTupT ?_
  | with_reducible refine oST1 ?_
  | with_reducible refine oSL1 ?_
  | with_reducible refine oST ?_
  | with_reducible refine oSL ?_
  | with_reducible refine oZTT ?_
  | with_reducible refine oZTL ?_
  | with_reducible refine oZLT ?_
  | with_reducible refine oZLL ?_
  | with_reducible refine oET ?_
  | with_reducible refine oEL ?_
  | with_reducible refine bIntI ?_
  | with_reducible refine bIntB ?_
  | with_reducible refine bAllM ?_
  | with_reducible refine bAnyM ?_
  | with_reducible refine bSumM ?_
  | with_reducible refine bSumT ?_
  | ((with_reducible refine' vPd ?h ?_); (case h => (with_reducible repeat constructor)))
  | ((with_reducible refine' vOin ?h ?_); (case h => (with_reducible repeat constructor)))
  | ((with_reducible refine' vOgD ?h ?_); (case h => (with_reducible repeat constructor)))
  | ((with_reducible refine' vOgx ?h ?_); (case h => (with_reducible repeat constructor)))
  | ((with_reducible refine' vDk ?h ?_); (case h => (with_reducible repeat constructor)))
  | ((with_reducible refine' vDn ?h ?_); (case h => (with_reducible repeat constructor)))
  | ((with_reducible refine' vDs ?h ?_); (case h => (with_reducible repeat constructor)))
  | ((with_reducible refine' vV ?h ?_); (case h => (with_reducible repeat constructor)))
  | ((with_reducible refine' vVo ?h ?_); (case h => (with_reducible repeat constructor)))
  | ((with_reducible refine' vAg ?h ?_); (case h => (with_reducible repeat constructor)))
  | ((with_reducible refine' vAp ?h ?_); (case h => (with_reducible repeat constructor)))
  | ((with_reducible refine' vSi ?h ?_); (case h => (with_reducible repeat constructor)))
  | ((with_reducible refine' vOl ?h ?_); (case h => (with_reducible repeat constructor)))
  | ((with_reducible refine' vOi ?h ?_); (case h => (with_reducible repeat constructor)))
  | ((with_reducible refine' vA ?h ?_); (case h => (with_reducible repeat constructor)))
  | ((with_reducible refine' vSet ?h ?_); (case h => (with_reducible repeat constructor)))
  | ((with_reducible refine' vSetO ?h ?_); (case h => (with_reducible repeat constructor)))
  | ((with_reducible refine' vFz ?h ?_); (case h => (with_reducible repeat constructor)))
  | ((with_reducible refine' vLk ?h ?h2 ?_); (case h => (with_reducible repeat constructor)); (case h2 => (with_reducible repeat constructor)))
  | ((with_reducible refine' wFtN ?h ?_); (case h => rfl))
  | ((with_reducible refine' oT ?h ?_); (case h => rfl))
  | ((with_reducible refine' oI ?h ?_); (case h => rfl))
  | ((with_reducible refine' oXT ?h ?_); (case h => rfl))
  | ((with_reducible refine' oXL ?h ?_); (case h => rfl))
  | ((with_reducible refine' iteT ?h ?_); (case h => first | with_reducible rfl | decide))
  | ((with_reducible refine' iteF ?h ?_); (case h => first | with_reducible rfl | decide))
  | ((with_reducible refine' oCatT ?h ?_); (case h => sizeOf_list_dec))
  | ((with_reducible refine' oCatL ?h ?_); (case h => sizeOf_list_dec))
  | ((with_reducible refine' aSm ?h ?_); (case h => sizeOf_list_dec))
  | ((with_reducible refine' aMem ?h ?_); (case h => sizeOf_list_dec))
  | ((with_reducible refine' aTop ?h ?_); (case h => sizeOf_list_dec))
  | ((with_reducible refine oNeR ?h ?_); (case h => decide +kernel)))
local macro_rules | `(tactic| array_mem_dec) => `(tactic| repeat array_get_dec)
local macro_rules | `(tactic| clean_wf) => `(tactic| repeat (first | array_get_dec | refine oNeB ?_ | refine iteT rfl ?_ | refine iteF rfl ?_))
def va (vs : List Int) (a : Int) : Int := vs.getD a.toNat 0
abbrev dVs (vs : List Int) : D := .tup (vs.map D.int)
structure Vals (u : Nat) (vs : List Int) : Prop where
  len : vs.length = u
  bd : ∀ v ∈ vs, -99 ≤ v ∧ v ≤ 99
theorem ix_int {u : Nat} {α : Type} {f : α → D} {l : List α} {a : Int} (hl : l.length = u) (h0 : 0 ≤ a) (h : a < u) : ∃ (hi : a.toNat < l.length), ixd (l.map f) a = some (f l[a.toNat]) := by
  have hi : a.toNat < l.length := by omega
  refine ⟨hi, ?_⟩
  have := ixM (f := f) hi
  rwa [Int.toNat_of_nonneg h0] at this
theorem ix_va {u : Nat} {vs : List Int} (hl : vs.length = u) {a : Int} (h0 : 0 ≤ a) (h : a < u) : ixd (vs.map D.int) a = some (.int (va vs a)) := by
  obtain ⟨hi, e⟩ := ix_int (f := D.int) hl h0 h
  rw [e]
  unfold va
  rw [List.getD_eq_getElem?_getD, List.getElem?_eq_getElem hi]; rfl
theorem ix_rg {u : Nat} {f : Nat → D} {a : Int} (h0 : 0 ≤ a) (h : a < u) : ixd ((List.range u).map f) a = some (f a.toNat) := by
  have := ixR (f := f) (u := u) (i := a.toNat) (by omega)
  rwa [Int.toNat_of_nonneg h0] at this
theorem va_bd {u : Nat} {vs : List Int} (h : Vals u vs) (a : Int) : -99 ≤ va vs a ∧ va vs a ≤ 99 := by
  unfold va
  rw [List.getD_eq_getElem?_getD]
  by_cases hi : a.toNat < vs.length
  · rw [List.getElem?_eq_getElem hi]
    exact h.bd _ (List.getElem_mem hi)
  · rw [List.getElem?_eq_none (by omega)]; simp
theorem va_q {L u : Nat} {vs : List Int} (h : Vals u vs) (a : Int) : Q L 0 7 (va vs a : Rat) := by
  have := va_bd h a
  exact Q.int (by omega)
abbrev dCh (u : Nat) (c : Int → Rat) : List D := (List.range u).map fun i : Nat => dFr (c i)
theorem own_map (P : Pl) : dFrs (own P) = dCh P.u fun a => jn P a a := by
  unfold own dFrs dCh
  rw [List.map_map]; rfl
theorem ix_ch {u : Nat} {c : Int → Rat} {a : Int} (h0 : 0 ≤ a) (h : a < u) : ixd (dCh u c) a = some (dFr (c a)) := by
  have := ix_rg (f := fun i : Nat => dFr (c i)) h0 h
  rwa [Int.toNat_of_nonneg h0] at this
theorem sp_chs {d L : Nat} {P : Pl} {n : Nat} {k : KD} {x : KX} (g : PlG L P) (hk : k (.tup (dCh P.u fun a => jn P a a)) n) : callW T (d + 6) 38 [dPl P] n k x := by
  obtain ⟨M, h⟩ := g.ok
  refine sp_chances_of h ?_
  rw [own_map]; exact hk
theorem jn_pos {P : Pl} (f : PlFacts P) {r : List Int × Rat} (hr : r ∈ P.rows) {a b : Int} (ha : a ∈ r.1) (hb : b ∈ r.1) : 0 < jn P a b := by
  have hm : r ∈ P.rows.filter fun r => has r.1 a && has r.1 b := by
    rw [List.mem_filter]
    refine ⟨hr, ?_⟩
    simp only [has, Bool.and_eq_true, List.any_eq_true, beq_iff_eq]
    exact ⟨⟨a, ha, rfl⟩, b, hb, rfl⟩
  unfold jn
  have key : ∀ l : List (List Int × Rat), (∀ r ∈ l, 0 < r.2) → r ∈ l → 0 < (l.map (·.2)).sum := by
    intro l
    induction l with
    | nil => intro _ h; cases h
    | cons z l ih =>
      intro hp hm
      rw [List.map_cons, List.sum_cons]
      have h1 := hp z List.mem_cons_self
      rcases List.mem_cons.mp hm with rfl | hm
      · have : 0 ≤ (l.map (·.2)).sum := sum_nonneg fun q hq => by
          obtain ⟨y, hy, rfl⟩ := List.mem_map.mp hq
          exact Rat.le_of_lt (hp y (List.mem_cons_of_mem _ hy))
        grind
      · have := ih (fun r h => hp r (List.mem_cons_of_mem _ h)) hm
        grind
  exact key _ (fun r h => f.pos r (List.mem_filter.mp h).1) hm
structure SmpOk (L u : Nat) (c : Int → Rat) (s : List Int) : Prop where
  len : s.length ≤ 5
  rng : ∀ a ∈ s, 0 ≤ a ∧ a < u
  q : ∀ a ∈ s, Q L 1 0 (c a)
  nz : ∀ a ∈ s, c a ≠ 0
  inv : ∀ a ∈ s, Q L 1 9 (c a)⁻¹
theorem inv_q {L : Nat} {P : Pl} (g : PlG L P) {a b : Int} (ha : 0 ≤ a ∧ a < P.u) (hb : 0 ≤ b ∧ b < P.u) (h : jn P a b ≠ 0) : Q L 1 9 (jn P a b)⁻¹ := by
  have := g.inv a.toNat b.toNat (by omega) (by omega)
  rw [Int.toNat_of_nonneg ha.1, Int.toNat_of_nonneg hb.1] at this
  exact this h
theorem smp_ok {L : Nat} {P : Pl} (g : PlG L P) {r : List Int × Rat} (hr : r ∈ P.rows) : SmpOk L P.u (fun a => jn P a a) r.1 := by
  have h1 := sets_len (g.f.set r hr)
  have h2 := g.f.u5
  have hr1 := g.f.rng r hr
  exact ⟨by omega, hr1, fun a _ => g.jn a a, fun a ha => Rat.ne_of_gt (jn_pos g.f hr ha ha), fun a ha => inv_q g (hr1 a ha) (hr1 a ha) (Rat.ne_of_gt (jn_pos g.f hr ha ha))⟩
def estS (c : Int → Rat) (vs s : List Int) : Rat := (s.map fun a => (va vs a : Rat) / c a).sum
theorem est_t {L u : Nat} {c : Int → Rat} {vs s : List Int} (hL : Lk L) (hv : Vals u vs) (hs : SmpOk L u c s) : ∀ a ∈ s, Q L 1 16 ((va vs a : Rat) / c a) := fun a ha => Q.mono (Q.div hL (va_q hv a) (hs.inv a ha)) (by omega) (by omega)
theorem est_q {L u : Nat} {c : Int → Rat} {vs s : List Int} (hL : Lk L) (hv : Vals u vs) (hs : SmpOk L u c s) : Q L 1 19 (estS c vs s) := by
  refine Q.sum 3 hL (fun q hq => ?_) (by rw [List.length_map]; have := hs.len; omega)
  obtain ⟨a, ha, rfl⟩ := List.mem_map.mp hq
  exact est_t hL hv hs a ha
theorem sp_estimate_of {d L u : Nat} {c : Int → Rat} {vs s : List Int} {n : Nat} {k : KD} {x : KX} (hL : Lk L) (hv : Vals u vs) (hs : SmpOk L u c s) (hk : k (dFr (estS c vs s)) n) : callW T (d + 5) 139 [dVs vs, .tup (dCh u c), sD s] n k x := by
  have hl := hs.len
  unfold dVs sD
  refine callW_v t_estimate_of rfl (by sizeOf_list_dec) ?_
  array_mem_dec
  refine lcM (res := fun a => dFr ((va vs a : Rat) / c a)) (by omega) (by sizeOf_list_dec) (fun a ha => by sizeOf_list_dec) (fun a ha kk hkk => ?_) ?_
  · have hr := hs.rng a ha
    array_mem_dec
    refine oXT (ix_va hv.len hr.1 hr.2) ?_
    array_mem_dec
    refine sp_whole ?_
    array_mem_dec
    refine oXT (ix_ch hr.1 hr.2) ?_
    array_mem_dec
    exact sp_over (Q.sz hL (va_q hv a) (by omega)) (Q.sz hL (hs.q a ha) (by omega)) (hs.nz a ha) hkk
  array_mem_dec
  exact sp_totalM hL (est_t hL hv hs) (by omega) (by omega) hk
theorem sp_estimates_of {d L : Nat} {P : Pl} {vs : List Int} {n : Nat} {k : KD} {x : KX} (g : PlG L P) (hv : Vals P.u vs) (hk : k (.lst (P.rows.map fun r => dFr (estS (fun a => jn P a a) vs r.1))) n) : callW T (d + 7) 140 [dPl P, dVs vs] n k x := by
  have hl := g.f.len
  refine callW_v t_estimates_of rfl (by sizeOf_list_dec) ?_
  array_mem_dec
  refine sp_chs g ?_
  array_mem_dec
  refine lcM (res := fun r => dFr (estS (fun a => jn P a a) vs r.1)) (by omega) (by sizeOf_list_dec) (fun a ha => by sizeOf_list_dec) (fun r hr kk hkk => ?_) ?_
  · array_mem_dec
    exact sp_estimate_of g.hL hv (smp_ok g hr) hkk
  array_mem_dec
  exact hk
abbrev estR (P : Pl) (vs : List Int) : List Int × Rat → Rat := fun r => estS (fun a => jn P a a) vs r.1
theorem estR_q {L : Nat} {P : Pl} {vs : List Int} (g : PlG L P) (hv : Vals P.u vs) : ∀ r ∈ P.rows, Q L 1 19 (estR P vs r) := fun r hr => est_q g.hL hv (smp_ok g hr)
def isVals (u : Nat) : D → Bool
  | .tup xs => decide (xs.length = u) && xs.all (isInteger (-99) 99)
  | _ => false
theorem sp_reqv {d u : Nat} {v : D} {n : Nat} {k : KD} {x : KX} (hv : sm v = true) (h1 : isVals u v = true → k .non n) (h2 : isVals u v = false → x "InvalidValues" n) : callW T (d + 2) 138 [.int u, v] n k x := by
  refine callW_v t_require_values rfl (by sizeOf_list_dec) ?_
  cases v with
  | st => simp [sm] at hv
  | scr => simp [sm] at hv
  | tup xs =>
    simp only [sm, Bool.and_eq_true, decide_eq_true_eq] at hv
    array_mem_dec
    have e : (!((xs.length : Int) == (u : Int))) = !decide (xs.length = u) := by
      congr 1
      rw [Bool.eq_iff_iff, beq_iff_eq, decide_eq_true_eq]; omega
    rw [e]
    refine oItr (fun h => ?_) (fun h => ?_)
    · array_mem_dec
      refine h2 ?_
      simp only [isVals]
      rw [Bool.not_eq_true'] at h
      rw [h]; rfl
    · have hl : decide (xs.length = u) = true := by simpa using h
      array_mem_dec
      refine lcMI (res := fun d => .bl (isInteger (-99) 99 d)) (by omega) (by sizeOf_list_dec) (fun a ha => by sizeOf_list_dec) (fun d hd kk hkk => ?_) ?_
      · array_mem_dec
        exact sp_isInteger (sms_mem hv.2 hd) hkk
      array_mem_dec
      refine oItr (fun h => ?_) (fun h => ?_)
      · array_mem_dec
        refine h2 ?_
        simp only [isVals, hl, Bool.true_and]
        simpa using h
      · array_mem_dec
        refine h1 ?_
        simp only [isVals, hl, Bool.true_and]
        simpa using h
  | _ =>
    array_mem_dec
    exact h2 rfl
theorem vals_ok {u : Nat} {vs : List Int} (h : Vals u vs) (hu : u ≤ 5) : sm (dVs vs) = true ∧ isVals u (dVs vs) = true := by
  constructor
  · show (decide ((vs.map D.int).length ≤ 60) && sms (vs.map D.int)) = true
    rw [Bool.and_eq_true, decide_eq_true_eq, List.length_map]
    refine ⟨by have := h.len; omega, sms_of fun x hx => ?_⟩
    obtain ⟨v, hv, rfl⟩ := List.mem_map.mp hx
    have := h.bd v hv
    show decide (v.natAbs < 2 ^ 64) = true
    rw [decide_eq_true_eq]; omega
  · show (decide ((vs.map D.int).length = u) && (vs.map D.int).all (isInteger (-99) 99)) = true
    rw [Bool.and_eq_true, decide_eq_true_eq, List.length_map, List.all_eq_true]
    refine ⟨h.len, fun x hx => ?_⟩
    obtain ⟨v, hv, rfl⟩ := List.mem_map.mp hx
    have := h.bd v hv
    simp only [isInteger, Bool.and_eq_true, decide_eq_true_eq]
    omega
theorem sp_goodv {d u : Nat} {vs : List Int} {n : Nat} {k : KD} {x : KX} (h : Vals u vs) (hu : u ≤ 5) (hk : k .non n) : callW T (d + 2) 138 [.int u, dVs vs] n k x :=
  sp_reqv (vals_ok h hu).1 (fun _ => hk) fun e => by rw [(vals_ok h hu).2] at e; cases e
theorem sp_both {d L : Nat} {P : Pl} {vs : List Int} {n : Nat} {k : KD} {x : KX} (g : PlG L P) (hv : Vals P.u vs) (hk : k .non n) : callW T (d + 7) 141 [dPl P, dVs vs] n k x := by
  refine callW_v t_require_both rfl (by sizeOf_list_dec) ?_
  array_mem_dec
  refine sp_good g ?_
  array_mem_dec
  refine sp_goodv hv g.f.u5 ?_
  array_mem_dec
  exact hk
theorem set_sD {u : Nat} {v : D} (h : isSet u v = true) : ∃ s : List Int, v = sD s := by
  cases v with
  | tup xs =>
    have := set_ints h
    clear h
    have : ∃ s : List Int, xs = s.map D.int := by
      induction xs with
      | nil => exact ⟨[], rfl⟩
      | cons x xs ih =>
        obtain ⟨s, rfl⟩ := ih fun y hy => this y (List.mem_cons_of_mem _ hy)
        obtain ⟨i, rfl⟩ := this x List.mem_cons_self
        exact ⟨i :: s, rfl⟩
    obtain ⟨s, rfl⟩ := this
    exact ⟨s, rfl⟩
  | _ => simp [isSet] at h
theorem eqv_sD (s t : List Int) : D.eqv (sD s) (sD t) = decide (s = t) := by
  rw [Bool.eq_iff_iff, decide_eq_true_eq, good1.eqv _ _ (sD_good s) (sD_good t)]
  exact ⟨sD_inj, fun e => by rw [e]⟩
theorem okq_sD (s : List Int) : D.okq 60 (sD s) = true := by
  show D.okqL 59 (s.map D.int) = true
  induction s with
  | nil => rfl
  | cons a s ih => simp only [List.map_cons, D.okqL, Bool.and_eq_true]; exact ⟨rfl, ih⟩
theorem sp_reqs {d L : Nat} {P : Pl} {v : D} {n : Nat} {k : KD} {x : KX} (g : PlG L P) (hv : sm v = true) (h1 : ∀ r ∈ P.rows, v = sD r.1 → k .non n) (h2 : (∀ r ∈ P.rows, v ≠ sD r.1) → x "InvalidSample" n) : callW T (d + 3) 137 [dPl P, v] n k x := by
  have hl := g.f.len
  refine callW_v t_require_sample rfl (by sizeOf_list_dec) ?_
  array_mem_dec
  refine sp_isSet hv ?_
  array_mem_dec
  refine oItr (fun h => ?_) (fun h => ?_)
  · array_mem_dec
    refine h2 fun r hr e => ?_
    have := g.f.set r hr
    rw [← e] at this
    rw [this] at h; cases h
  · have hs : isSet P.u v = true := by simpa using h
    obtain ⟨s, rfl⟩ := set_sD hs
    array_mem_dec
    refine lcM (res := fun r => sD r.1) (by omega) (by sizeOf_list_dec) (fun a ha => by sizeOf_list_dec) (fun r hr kk hkk => ?_) ?_
    · array_mem_dec
      exact hkk
    array_mem_dec
    refine ⟨okq_sD s, ?_, ?_⟩
    · have := okq_sets (P.rows.map (·.1))
      rw [List.map_map] at this; exact this
    array_mem_dec
    have e : ((P.rows.map fun r => sD r.1).any fun x => D.eqv x (sD s)) = P.rows.any fun r => decide (r.1 = s) := by
      rw [List.any_map]
      congr 1
      funext r
      exact eqv_sD r.1 s
    rw [e]
    refine oItr (fun h => ?_) (fun h => ?_)
    · array_mem_dec
      refine h2 fun r hr e => ?_
      rw [Bool.not_eq_true', List.any_eq_false] at h
      exact h r hr (by rw [decide_eq_true_eq]; exact (sD_inj e).symm)
    · array_mem_dec
      rw [Bool.not_eq_false', List.any_eq_true] at h
      obtain ⟨r, hr, e⟩ := h
      exact h1 r hr (by rw [of_decide_eq_true e])
section
variable {u : Nat} {vs : List Int}
theorem sm_tup {xs : List D} (h1 : xs.length ≤ 60) (h2 : sms xs = true) : sm (.tup xs) = true := by
  show (decide (xs.length ≤ 60) && sms xs) = true
  rw [Bool.and_eq_true, decide_eq_true_eq]; exact ⟨h1, h2⟩
end
end PVR
end
section
set_option Elab.async false
set_option linter.all false
set_option maxRecDepth 100000
set_option maxHeartbeats 2000000
namespace PVR
open PV
local macro_rules | `(tactic| sizeOf_list_dec) => `(tactic| first
  | assumption
  | ((with_reducible repeat constructor); done)
  | exact List.mem_cons_self
  | (simp [small]; done)
  | (simp [small]; omega)
  | (simp; omega)
  | omega)
local macro_rules | `(tactic| array_get_dec) => `(tactic| first
  | with_reducible refine wCaF ?_
  | with_reducible refine wAs ?_
  | with_reducible refine wB ?_
  | with_reducible refine wB0 ?_
  | with_reducible refine wL ?_
  | with_reducible refine wL0 ?_
  | with_reducible refine wI ?_
  | with_reducible refine wF ?_
  | with_reducible refine wFi ?_
  | with_reducible refine wRe ?_
  | with_reducible refine wTu ?_
  | with_reducible refine wIx ?_
  | with_reducible refine wCm ?_
  | with_reducible refine wAo ?_
  | with_reducible refine wFo ?_
  | with_reducible refine wEx ?_
  | with_reducible refine wIe ?_
  | with_reducible refine wBc ?_
  | with_reducible refine wLc ?_
  | with_reducible refine wBi ?_
  | with_reducible refine wAn ?_
  | with_reducible refine wOr ?_
  | with_reducible refine wNt ?_
  | with_reducible refine wIsi ?_
  | with_reducible refine wSl ?_
  | with_reducible refine wO ?_
  | with_reducible refine wO0 ?_
  | with_reducible refine wC0 ?_
  | with_reducible refine wC ?_
  | with_reducible refine wIex ?_
  | with_reducible refine wIr1 ?_
  | with_reducible refine wIr2 ?_
  | with_reducible refine wIen ?_
  | with_reducible refine wIzp ?_
  | with_reducible refine wFt ?_
  | with_reducible refine wKb ?_
  | with_reducible refine wLs ?_
  | with_reducible refine wP2 ?_
  | with_reducible refine wP3 ?_
  | with_reducible refine wRa ?_
  | with_reducible refine wTy ?_
  | with_reducible refine wBl ?_
  | with_reducible refine wN ?_
  | with_reducible refine wS ?_
  | with_reducible refine wCh ?_
  | with_reducible refine wNg ?_
  | with_reducible refine wCa ?_
  | with_reducible refine wRv ?_
  | with_reducible refine wL2 ?_
  | with_reducible refine wLirL ?_
  | with_reducible refine wLirT ?_
  | with_reducible refine wMn ?_
  | with_reducible refine wDg ?_
  | with_reducible refine oMn ?_
  | with_reducible refine wDa ?_
  | with_reducible refine oAdd ?_
  | with_reducible refine oSub ?_
  | with_reducible refine oNg ?_
  | with_reducible refine oInt ?_
  | with_reducible refine oSqT ?_
  | with_reducible refine oSqL ?_
  | with_reducible refine oSqR ?_
  | with_reducible refine oLt ?_
  | with_reducible refine oLe ?_
  | with_reducible refine oGt ?_
  | with_reducible refine oGe ?_
  | with_reducible refine oEqI ?_
  | with_reducible refine oNeI ?_
  | with_reducible refine oIs ?_
  | with_reducible refine oIsn ?_
  | with_reducible refine bLenT ?_
  | with_reducible refine bLenL ?_
  | with_reducible refine bLenR ?_
  | with_reducible refine bAbs ?_
  | with_reducible refine bList ?_
  | with_reducible refine bListT ?_
  | with_reducible refine bTup ?_
  | with_reducible refine bTupT ?_
  | with_reducible refine oST1 ?_
  | with_reducible refine oSL1 ?_
  | with_reducible refine oST ?_
  | with_reducible refine oSL ?_
  | with_reducible refine oZTT ?_
  | with_reducible refine oZTL ?_
  | with_reducible refine oZLT ?_
  | with_reducible refine oZLL ?_
  | with_reducible refine oET ?_
  | with_reducible refine oEL ?_
  | with_reducible refine bIntI ?_
  | with_reducible refine bIntB ?_
  | with_reducible refine bAllM ?_
  | with_reducible refine bAnyM ?_
  | with_reducible refine bSumM ?_
  | with_reducible refine bSumT ?_
  | ((with_reducible refine' vPd ?h ?_); (case h => (with_reducible repeat constructor)))
  | ((with_reducible refine' vOin ?h ?_); (case h => (with_reducible repeat constructor)))
  | ((with_reducible refine' vOgD ?h ?_); (case h => (with_reducible repeat constructor)))
  | ((with_reducible refine' vOgx ?h ?_); (case h => (with_reducible repeat constructor)))
  | ((with_reducible refine' vDk ?h ?_); (case h => (with_reducible repeat constructor)))
  | ((with_reducible refine' vDn ?h ?_); (case h => (with_reducible repeat constructor)))
  | ((with_reducible refine' vDs ?h ?_); (case h => (with_reducible repeat constructor)))
  | ((with_reducible refine' vV ?h ?_); (case h => (with_reducible repeat constructor)))
  | ((with_reducible refine' vVo ?h ?_); (case h => (with_reducible repeat constructor)))
  | ((with_reducible refine' vAg ?h ?_); (case h => (with_reducible repeat constructor)))
  | ((with_reducible refine' vAp ?h ?_); (case h => (with_reducible repeat constructor)))
  | ((with_reducible refine' vSi ?h ?_); (case h => (with_reducible repeat constructor)))
  | ((with_reducible refine' vOl ?h ?_); (case h => (with_reducible repeat constructor)))
  | ((with_reducible refine' vOi ?h ?_); (case h => (with_reducible repeat constructor)))
  | ((with_reducible refine' vA ?h ?_); (case h => (with_reducible repeat constructor)))
  | ((with_reducible refine' vSet ?h ?_); (case h => (with_reducible repeat constructor)))
  | ((with_reducible refine' vSetO ?h ?_); (case h => (with_reducible repeat constructor)))
  | ((with_reducible refine' vFz ?h ?_); (case h => (with_reducible repeat constructor)))
  | ((with_reducible refine' vLk ?h ?h2 ?_); (case h => (with_reducible repeat constructor)); (case h2 => (with_reducible repeat constructor)))
  | ((with_reducible refine' wFtN ?h ?_); (case h => rfl))
  | ((with_reducible refine' oT ?h ?_); (case h => rfl))
  | ((with_reducible refine' oI ?h ?_); (case h => rfl))
  | ((with_reducible refine' oXT ?h ?_); (case h => rfl))
  | ((with_reducible refine' oXL ?h ?_); (case h => rfl))
  | ((with_reducible refine' iteT ?h ?_); (case h => first | with_reducible rfl | decide))
  | ((with_reducible refine' iteF ?h ?_); (case h => first | with_reducible rfl | decide))
  | ((with_reducible refine' oCatT ?h ?_); (case h => sizeOf_list_dec))
  | ((with_reducible refine' oCatL ?h ?_); (case h => sizeOf_list_dec))
  | ((with_reducible refine' aSm ?h ?_); (case h => sizeOf_list_dec))
  | ((with_reducible refine' aMem ?h ?_); (case h => sizeOf_list_dec))
  | ((with_reducible refine' aTop ?h ?_); (case h => sizeOf_list_dec)))
local macro_rules | `(tactic| array_mem_dec) => `(tactic| repeat array_get_dec)
local macro_rules | `(tactic| clean_wf) => `(tactic| repeat (first | array_get_dec | refine oNeB ?_ | refine iteT rfl ?_ | refine iteF rfl ?_))
theorem sp_estimate {d L : Nat} {P : Pl} {vs : List Int} {r : List Int × Rat} {n : Nat} {k : KD} {x : KX} (g : PlG L P) (hv : Vals P.u vs) (hr : r ∈ P.rows) (hk : k (dFr (estR P vs r)) n) : callW T (d + 8) 142 [dPl P, dVs vs, sD r.1] n k x := by
  refine callW_v t_estimate rfl (by sizeOf_list_dec) ?_
  array_mem_dec
  refine sp_both g hv ?_
  array_mem_dec
  refine sp_reqs g ?_ (fun q hq e => ?_) (fun h => absurd rfl (h r hr))
  · have hM := g.ok
    obtain ⟨M, h⟩ := hM
    have h2 := sms_mem h.rsm (List.mem_map.mpr ⟨r, hr, rfl⟩)
    simp only [rowD, sm, sms, Bool.and_eq_true] at h2
    show (decide ((r.1.map D.int).length ≤ 60) && sms (r.1.map D.int)) = true
    rw [Bool.and_eq_true]
    exact h2.2.1
  array_mem_dec
  refine sp_chs g ?_
  array_mem_dec
  exact sp_estimate_of g.hL hv (smp_ok g hr) hk
theorem sp_variance {d L : Nat} {P : Pl} {vs : List Int} {n : Nat} {k : KD} {x : KX} (g : PlG L P) (hv : Vals P.u vs) (hk : k (dFr (vari P (estR P vs))) n) : callW T (d + 8) 144 [dPl P, dVs vs] n k x := by
  refine callW_v t_variance rfl (by sizeOf_list_dec) ?_
  array_mem_dec
  refine sp_both g hv ?_
  array_mem_dec
  refine sp_estimates_of g hv ?_
  array_mem_dec
  exact sp_variance_of g (estR_q g hv) (by decide) hk
theorem sum_bd2 {vs : List Int} (h : ∀ v ∈ vs, -99 ≤ v ∧ v ≤ 99) : vs.sum.natAbs ≤ 99 * vs.length := by
  induction vs with
  | nil => simp
  | cons v vs ih =>
    have h1 := h v List.mem_cons_self
    have h2 := ih fun w hw => h w (List.mem_cons_of_mem _ hw)
    simp only [List.sum_cons, List.length_cons]
    omega
theorem sum_q {L u : Nat} {vs : List Int} (h : Vals u vs) (hu : u ≤ 5) : Q L 0 9 (vs.sum : Rat) := by
  have h1 := sum_bd2 h.bd
  have h2 := h.len
  exact Q.int (by omega)
theorem sp_lvalues {d u : Nat} {sc : List Int} {n : Nat} {k : KD} {x : KX} (hs : sc.length ≤ 63) (hu : u ≤ 5) (hn : n + 10 ≤ 1000000) (hk : ∀ (vs : List Int) m, Vals u vs → (∀ v ∈ vs, -6 ≤ v ∧ v ≤ 6) → n ≤ m → m ≤ n + 10 → k (dVs vs) m) : callW T (d + 2) 146 [.scr sc, .st, .int u] n k x := by
  refine callW_v t_law_values rfl (by sizeOf_list_dec) ?_
  array_mem_dec
  refine oRng (by omega) ?_
  refine lcD (fun v : Int => -6 ≤ v ∧ v ≤ 6) D.int 2 (by simp; omega) (by sizeOf_list_dec) (fun a ha => by sizeOf_list_dec) (fun a ha m h1 h2 kk hkk => ?_) fun bs m hl hP h1 h2 => ?_
  · rw [List.length_range] at h2
    array_mem_dec
    refine draw_i hs (by omega) (by omega) fun r n' h3 h4 h5 h6 => ?_
    array_mem_dec
    exact hkk _ _ ⟨by omega, by omega⟩ h5 h6
  rw [List.length_range] at hl h2
  array_mem_dec
  exact hk bs m ⟨hl, fun v hv => by have := hP v hv; omega⟩ hP h1 (by omega)
end PVR
end
section
set_option Elab.async false
set_option linter.all false
set_option maxRecDepth 100000
set_option maxHeartbeats 2000000
namespace PVR
open PV
local macro_rules | `(tactic| sizeOf_list_dec) => `(tactic| first
  | assumption
  | ((with_reducible repeat constructor); done)
  | exact List.mem_cons_self
  | (simp [small]; done)
  | (simp [small]; omega)
  | (simp; omega)
  | omega)
local macro_rules | `(tactic| array_get_dec) => `(tactic| first
  | with_reducible refine wCaF ?_
  | with_reducible refine wAs ?_
  | with_reducible refine wB ?_
  | with_reducible refine wB0 ?_
  | with_reducible refine wL ?_
  | with_reducible refine wL0 ?_
  | with_reducible refine wI ?_
  | with_reducible refine wF ?_
  | with_reducible refine wFi ?_
  | with_reducible refine wRe ?_
  | with_reducible refine wTu ?_
  | with_reducible refine wIx ?_
  | with_reducible refine wCm ?_
  | with_reducible refine wAo ?_
  | with_reducible refine wFo ?_
  | with_reducible refine wEx ?_
  | with_reducible refine wIe ?_
  | with_reducible refine wBc ?_
  | with_reducible refine wLc ?_
  | with_reducible refine wBi ?_
  | with_reducible refine wAn ?_
  | with_reducible refine wOr ?_
  | with_reducible refine wNt ?_
  | with_reducible refine wIsi ?_
  | with_reducible refine wSl ?_
  | with_reducible refine wO ?_
  | with_reducible refine wO0 ?_
  | with_reducible refine wC0 ?_
  | with_reducible refine wC ?_
  | with_reducible refine wIex ?_
  | with_reducible refine wIr1 ?_
  | with_reducible refine wIr2 ?_
  | with_reducible refine wIen ?_
  | with_reducible refine wIzp ?_
  | with_reducible refine wFt ?_
  | with_reducible refine wKb ?_
  | with_reducible refine wLs ?_
  | with_reducible refine wP2 ?_
  | with_reducible refine wP3 ?_
  | with_reducible refine wRa ?_
  | with_reducible refine wTy ?_
  | with_reducible refine wBl ?_
  | with_reducible refine wN ?_
  | with_reducible refine wS ?_
  | with_reducible refine wCh ?_
  | with_reducible refine wNg ?_
  | with_reducible refine wCa ?_
  | with_reducible refine wRv ?_
  | with_reducible refine wL2 ?_
  | with_reducible refine wLirL ?_
  | with_reducible refine wLirT ?_
  | with_reducible refine wMn ?_
  | with_reducible refine wDg ?_
  | with_reducible refine oMn ?_
  | with_reducible refine wDa ?_
  | with_reducible refine oAdd ?_
  | with_reducible refine oSub ?_
  | with_reducible refine oNg ?_
  | with_reducible refine oInt ?_
  | with_reducible refine oSqT ?_
  | with_reducible refine oSqL ?_
  | with_reducible refine oSqR ?_
  | with_reducible refine oLt ?_
  | with_reducible refine oLe ?_
  | with_reducible refine oGt ?_
  | with_reducible refine oGe ?_
  | with_reducible refine oEqI ?_
  | with_reducible refine oNeI ?_
  | with_reducible refine oIs ?_
  | with_reducible refine oIsn ?_
  | with_reducible refine bLenT ?_
  | with_reducible refine bLenL ?_
  | with_reducible refine bLenR ?_
  | with_reducible refine bAbs ?_
  | with_reducible refine bList ?_
  | with_reducible refine bListT ?_
  | with_reducible refine bTup ?_
  | with_reducible refine bTupT ?_
  | with_reducible refine oST1 ?_
  | with_reducible refine oSL1 ?_
  | with_reducible refine oST ?_
  | with_reducible refine oSL ?_
  | with_reducible refine oZTT ?_
  | with_reducible refine oZTL ?_
  | with_reducible refine oZLT ?_
  | with_reducible refine oZLL ?_
  | with_reducible refine oET ?_
  | with_reducible refine oEL ?_
  | with_reducible refine bIntI ?_
  | with_reducible refine bIntB ?_
  | with_reducible refine bAllM ?_
  | with_reducible refine bAnyM ?_
  | with_reducible refine bSumM ?_
  | with_reducible refine bSumT ?_
  | ((with_reducible refine' vPd ?h ?_); (case h => (with_reducible repeat constructor)))
  | ((with_reducible refine' vOin ?h ?_); (case h => (with_reducible repeat constructor)))
  | ((with_reducible refine' vOgD ?h ?_); (case h => (with_reducible repeat constructor)))
  | ((with_reducible refine' vOgx ?h ?_); (case h => (with_reducible repeat constructor)))
  | ((with_reducible refine' vDk ?h ?_); (case h => (with_reducible repeat constructor)))
  | ((with_reducible refine' vDn ?h ?_); (case h => (with_reducible repeat constructor)))
  | ((with_reducible refine' vDs ?h ?_); (case h => (with_reducible repeat constructor)))
  | ((with_reducible refine' vV ?h ?_); (case h => (with_reducible repeat constructor)))
  | ((with_reducible refine' vVo ?h ?_); (case h => (with_reducible repeat constructor)))
  | ((with_reducible refine' vAg ?h ?_); (case h => (with_reducible repeat constructor)))
  | ((with_reducible refine' vAp ?h ?_); (case h => (with_reducible repeat constructor)))
  | ((with_reducible refine' vSi ?h ?_); (case h => (with_reducible repeat constructor)))
  | ((with_reducible refine' vOl ?h ?_); (case h => (with_reducible repeat constructor)))
  | ((with_reducible refine' vOi ?h ?_); (case h => (with_reducible repeat constructor)))
  | ((with_reducible refine' vA ?h ?_); (case h => (with_reducible repeat constructor)))
  | ((with_reducible refine' vSet ?h ?_); (case h => (with_reducible repeat constructor)))
  | ((with_reducible refine' vSetO ?h ?_); (case h => (with_reducible repeat constructor)))
  | ((with_reducible refine' vFz ?h ?_); (case h => (with_reducible repeat constructor)))
  | ((with_reducible refine' vLk ?h ?h2 ?_); (case h => (with_reducible repeat constructor)); (case h2 => (with_reducible repeat constructor)))
  | ((with_reducible refine' wFtN ?h ?_); (case h => rfl))
  | ((with_reducible refine' oT ?h ?_); (case h => rfl))
  | ((with_reducible refine' oI ?h ?_); (case h => rfl))
  | ((with_reducible refine' oXT ?h ?_); (case h => rfl))
  | ((with_reducible refine' oXL ?h ?_); (case h => rfl))
  | ((with_reducible refine' iteT ?h ?_); (case h => first | with_reducible rfl | decide))
  | ((with_reducible refine' iteF ?h ?_); (case h => first | with_reducible rfl | decide))
  | ((with_reducible refine' oCatT ?h ?_); (case h => sizeOf_list_dec))
  | ((with_reducible refine' oCatL ?h ?_); (case h => sizeOf_list_dec))
  | ((with_reducible refine' aSm ?h ?_); (case h => sizeOf_list_dec))
  | ((with_reducible refine' aMem ?h ?_); (case h => sizeOf_list_dec))
  | ((with_reducible refine' aTop ?h ?_); (case h => sizeOf_list_dec)))
local macro_rules | `(tactic| array_mem_dec) => `(tactic| repeat array_get_dec)
local macro_rules | `(tactic| clean_wf) => `(tactic| repeat (first | array_get_dec | refine oNeB ?_ | refine iteT rfl ?_ | refine iteF rfl ?_))
theorem one_data : D.tup [.int 1, .int 1] = dFr 1 := rfl
theorem zero_data : D.tup [.int 0, .int 1] = dFr 0 := rfl
theorem q1 {L : Nat} : Q L 0 0 1 := by have := Q.int (L := L) (b := 0) (i := 1) (by decide); simpa using this
def unb (P : Pl) : Bool := (List.range P.u).all fun i : Nat => decide (0 < jn P i i)
theorem sp_is_unbiased {d L : Nat} {P : Pl} {n : Nat} {k : KD} {x : KX} (g : PlG L P) (hk : k (.bl (unb P)) n) : callW T (d + 8) 156 [dPl P] n k x := by
  have hu := g.f.u5
  refine callW_v t_is_unbiased rfl (by sizeOf_list_dec) ?_
  array_mem_dec
  refine sp_good g ?_
  array_mem_dec
  refine sp_chs g ?_
  array_mem_dec
  refine lcM (res := fun i : Nat => .bl (decide (0 < jn P i i))) (by simp; omega) (by sizeOf_list_dec) (fun a ha => by sizeOf_list_dec) (fun i hi kk hkk => ?_) ?_
  · array_mem_dec
    rw [num_pos]
    exact hkk
  array_mem_dec
  exact hk
end PVR
end
section
set_option Elab.async false
set_option linter.all false
set_option maxRecDepth 100000
set_option maxHeartbeats 2000000
namespace PVR
open PV
local macro_rules | `(tactic| sizeOf_list_dec) => `(tactic| first
  | assumption
  | ((with_reducible repeat constructor); done)
  | exact List.mem_cons_self
  | (simp [small]; done)
  | (simp [small]; omega)
  | (simp; omega)
  | omega)
local macro_rules | `(tactic| array_get_dec) => `(tactic| first
  | with_reducible refine wCaF ?_
  | with_reducible refine wAs ?_
  | with_reducible refine wB ?_
  | with_reducible refine wB0 ?_
  | with_reducible refine wL ?_
  | with_reducible refine wL0 ?_
  | with_reducible refine wI ?_
  | with_reducible refine wF ?_
  | with_reducible refine wFi ?_
  | with_reducible refine wRe ?_
  | with_reducible refine wTu ?_
  | with_reducible refine wIx ?_
  | with_reducible refine wCm ?_
  | with_reducible refine wAo ?_
  | with_reducible refine wFo ?_
  | with_reducible refine wEx ?_
  | with_reducible refine wIe ?_
  | with_reducible refine wBc ?_
  | with_reducible refine wLc ?_
  | with_reducible refine wBi ?_
  | with_reducible refine wAn ?_
  | with_reducible refine wOr ?_
  | with_reducible refine wNt ?_
  | with_reducible refine wIsi ?_
  | with_reducible refine wSl ?_
  | with_reducible refine wO ?_
  | with_reducible refine wO0 ?_
  | with_reducible refine wC0 ?_
  | with_reducible refine wC ?_
  | with_reducible refine wIex ?_
  | with_reducible refine wIr1 ?_
  | with_reducible refine wIr2 ?_
  | with_reducible refine wIen ?_
  | with_reducible refine wIzp ?_
  | with_reducible refine wFt ?_
  | with_reducible refine wKb ?_
  | with_reducible refine wLs ?_
  | with_reducible refine wP2 ?_
  | with_reducible refine wP3 ?_
  | with_reducible refine wRa ?_
  | with_reducible refine wTy ?_
  | with_reducible refine wBl ?_
  | with_reducible refine wN ?_
  | with_reducible refine wS ?_
  | with_reducible refine wCh ?_
  | with_reducible refine wNg ?_
  | with_reducible refine wCa ?_
  | with_reducible refine wRv ?_
  | with_reducible refine wL2 ?_
  | with_reducible refine wLirL ?_
  | with_reducible refine wLirT ?_
  | with_reducible refine wJn ?_
  | with_reducible refine wMn ?_
  | with_reducible refine wDg ?_
  | with_reducible refine oMn ?_
  | with_reducible refine wDa ?_
  | with_reducible refine oAdd ?_
  | with_reducible refine oSub ?_
  | with_reducible refine oNg ?_
  | with_reducible refine oInt ?_
  | with_reducible refine oSqT ?_
  | with_reducible refine oSqL ?_
  | with_reducible refine oSqR ?_
  | with_reducible refine oLt ?_
  | with_reducible refine oLe ?_
  | with_reducible refine oGt ?_
  | with_reducible refine oGe ?_
  | with_reducible refine oEqI ?_
  | with_reducible refine oNeI ?_
  | with_reducible refine oIs ?_
  | with_reducible refine oIsn ?_
  | with_reducible refine bLenT ?_
  | with_reducible refine bLenL ?_
  | with_reducible refine bLenR ?_
  | with_reducible refine bAbs ?_
  | with_reducible refine bList ?_
  | with_reducible refine bListT ?_
  | with_reducible refine bTup ?_
  | with_reducible refine bTupT ?_
  | with_reducible refine oST1 ?_
  | with_reducible refine oSL1 ?_
  | with_reducible refine oST ?_
  | with_reducible refine oSL ?_
  | with_reducible refine oZTT ?_
  | with_reducible refine oZTL ?_
  | with_reducible refine oZLT ?_
  | with_reducible refine oZLL ?_
  | with_reducible refine oET ?_
  | with_reducible refine oEL ?_
  | with_reducible refine bIntI ?_
  | with_reducible refine bIntB ?_
  | with_reducible refine bAllM ?_
  | with_reducible refine bAnyM ?_
  | with_reducible refine bSumM ?_
  | with_reducible refine bSumT ?_
  | ((with_reducible refine' vPd ?h ?_); (case h => (with_reducible repeat constructor)))
  | ((with_reducible refine' vOin ?h ?_); (case h => (with_reducible repeat constructor)))
  | ((with_reducible refine' vOgD ?h ?_); (case h => (with_reducible repeat constructor)))
  | ((with_reducible refine' vOgx ?h ?_); (case h => (with_reducible repeat constructor)))
  | ((with_reducible refine' vDk ?h ?_); (case h => (with_reducible repeat constructor)))
  | ((with_reducible refine' vDn ?h ?_); (case h => (with_reducible repeat constructor)))
  | ((with_reducible refine' vDs ?h ?_); (case h => (with_reducible repeat constructor)))
  | ((with_reducible refine' vV ?h ?_); (case h => (with_reducible repeat constructor)))
  | ((with_reducible refine' vVo ?h ?_); (case h => (with_reducible repeat constructor)))
  | ((with_reducible refine' vAg ?h ?_); (case h => (with_reducible repeat constructor)))
  | ((with_reducible refine' vAp ?h ?_); (case h => (with_reducible repeat constructor)))
  | ((with_reducible refine' vSi ?h ?_); (case h => (with_reducible repeat constructor)))
  | ((with_reducible refine' vOl ?h ?_); (case h => (with_reducible repeat constructor)))
  | ((with_reducible refine' vOi ?h ?_); (case h => (with_reducible repeat constructor)))
  | ((with_reducible refine' vA ?h ?_); (case h => (with_reducible repeat constructor)))
  | ((with_reducible refine' vSet ?h ?_); (case h => (with_reducible repeat constructor)))
  | ((with_reducible refine' vSetO ?h ?_); (case h => (with_reducible repeat constructor)))
  | ((with_reducible refine' vFz ?h ?_); (case h => (with_reducible repeat constructor)))
  | ((with_reducible refine' vLk ?h ?h2 ?_); (case h => (with_reducible repeat constructor)); (case h2 => (with_reducible repeat constructor)))
  | ((with_reducible refine' wFtN ?h ?_); (case h => rfl))
  | ((with_reducible refine' oT ?h ?_); (case h => rfl))
  | ((with_reducible refine' oI ?h ?_); (case h => rfl))
  | ((with_reducible refine' oXT ?h ?_); (case h => rfl))
  | ((with_reducible refine' oXL ?h ?_); (case h => rfl))
  | ((with_reducible refine' iteT ?h ?_); (case h => first | with_reducible rfl | decide))
  | ((with_reducible refine' iteF ?h ?_); (case h => first | with_reducible rfl | decide))
  | ((with_reducible refine' oCatT ?h ?_); (case h => sizeOf_list_dec))
  | ((with_reducible refine' oCatL ?h ?_); (case h => sizeOf_list_dec))
  | ((with_reducible refine' aSm ?h ?_); (case h => sizeOf_list_dec))
  | ((with_reducible refine' aMem ?h ?_); (case h => sizeOf_list_dec))
  | ((with_reducible refine' aTop ?h ?_); (case h => sizeOf_list_dec)))
local macro_rules | `(tactic| array_mem_dec) => `(tactic| repeat array_get_dec)
local macro_rules | `(tactic| clean_wf) => `(tactic| repeat (first | array_get_dec | refine oNeB ?_ | refine iteT rfl ?_ | refine iteF rfl ?_))
theorem forAD {α β : Type} {C : Cal} {n : Nat} {x : KX} (Pb : β → Prop) (emb2 : β → D) (c : Nat) (E : List D → PV.Env) {t : TG} {body : SL} {r : KD} {kl : List Nat} {env0 : PV.Env} {K : PV.Env → Nat → Prop} {l : List α} {emb : α → D} (he : KP env0 kl (E []))
    (hF : ∀ acc, ∀ a ∈ l, acc.length < l.length → ∀ m, n ≤ m → m + c ≤ n + c * l.length → ∀ kk : PV.Env → Nat → Prop, (∀ b env' m2, Pb b → KP env' kl (E (acc ++ [emb2 b])) → m ≤ m2 → m2 ≤ m + c → kk env' m2) → forF C t body r x (emb a) (E acc) m kk)
    (h : ∀ (bs : List β) (m : Nat), bs.length = l.length → (∀ b ∈ bs, Pb b) → n ≤ m → m ≤ n + c * l.length → K (E (bs.map emb2)) m) : forGo (forF C t body r x) kl (l.map emb) env0 n K := by
  have key : ∀ (l2 : List α) (env1 : PV.Env) (acc : List β) (m : Nat), (∀ a ∈ l2, a ∈ l) → killE env1 kl = E (acc.map emb2) → (∀ b ∈ acc, Pb b) → acc.length + l2.length = l.length → n ≤ m → m + c * l2.length ≤ n + c * l.length → forGo (forF C t body r x) kl (l2.map emb) env1 m K := by
    intro l2
    induction l2 with
    | nil =>
      intro env1 acc m _ he hP hl h1 h2
      simp only [List.map_nil, forGo]; rw [he]
      exact h acc m (by simpa using hl) hP h1 (by simpa using h2)
    | cons a l2 ih =>
      intro env1 acc m hm he hP hl h1 h2
      simp only [List.map_cons, forGo]
      rw [List.length_cons, Nat.mul_succ] at h2
      rw [he]
      refine hF _ a (hm a List.mem_cons_self) (by simp at hl ⊢; omega) m h1 (by omega) _ fun b env' m2 hb he' h3 h4 => ?_
      refine ih env' (acc ++ [b]) m2 (fun b hb => hm b (List.mem_cons_of_mem _ hb)) (by rw [he'.eq]; simp) (fun b2 hb2 => ?_) (by simp at hl ⊢; omega) (by omega) (by omega)
      rcases List.mem_append.mp hb2 with q | q
      · exact hP _ q
      · rw [List.mem_singleton] at q; subst q; exact hb
  exact key l env0 [] n (fun a h => h) he.eq (fun b hb => by cases hb) (by simp) (Nat.le_refl _) (Nat.le_refl _)
structure Wts (L u : Nat) (w : Int → Rat) : Prop where
  q : ∀ a, Q L 1 9 (w a)
  sm : ∀ a, sm (dFr (w a)) = true
abbrev dWts (u : Nat) (w : Int → Rat) : D := .tup (dCh u w)
theorem list_ch (bs : List Rat) : bs.map dFr = dCh bs.length fun a => bs.getD a.toNat 0 := by
  refine List.ext_getElem (by simp) fun i h1 h2 => ?_
  simp at h1
  simp [List.getElem?_eq_getElem h1]
theorem wt_q {L : Nat} (h6 : 60 ∣ L) {a b : Int} (ha : -2 ≤ a ∧ a ≤ 4) (hb : 1 ≤ b ∧ b ≤ 3) : Q L 1 3 (Rat.divInt a b) ∧ sm (dFr (Rat.divInt a b)) = true := by
  have key : ∀ a ∈ [-2, -1, 0, 1, 2, 3, 4], ∀ b ∈ [1, 2, 3], (Rat.divInt a b).den ∣ 60 ∧ (-8 : Rat) ≤ Rat.divInt a b ∧ Rat.divInt a b ≤ 8 ∧ sm (dFr (Rat.divInt a b)) = true := by decide +kernel
  obtain ⟨h1, h2, h3, h4⟩ := key a (by simp; omega) b (by simp; omega)
  refine ⟨⟨?_, ?_, ?_⟩, h4⟩
  · rw [Nat.pow_one]; exact Nat.dvd_trans h1 h6
  · simpa using h2
  · simpa using h3
theorem zero_w {L : Nat} : Q L 1 3 0 ∧ sm (dFr 0) = true := ⟨Q.zero, rfl⟩
theorem sp_lweights {d L u : Nat} {sc : List Int} {n : Nat} {k : KD} {x : KX} (h6 : 60 ∣ L) (hs : sc.length ≤ 63) (hu : u ≤ 5) (hn : n + 20 ≤ 1000000) (hk : ∀ (w : Int → Rat) m, Wts L u w → n ≤ m → m ≤ n + 20 → k (dWts u w) m) : callW T (d + 2) 190 [.scr sc, .st, .int u] n k x := by
  refine callW_v t_law_weights rfl (by sizeOf_list_dec) ?_
  array_mem_dec
  refine oRng (by omega) ?_
  refine forAD (fun q : Rat => Q L 1 3 q ∧ sm (dFr q) = true) dFr 4 (fun acc => [.val (.scr sc), .val .st, .val (.int u), .own acc, .no]) (by sizeOf_list_dec) (fun acc a ha hacc m h1 h2 kk hkk => ?_) fun bs m hl hP h1 h2 => ?_
  · rw [List.length_range] at h2 hacc
    unfold forF
    array_mem_dec
    refine draw_i hs (by omega) (by omega) fun r n' h3 h4 h5 h66 => ?_
    array_mem_dec
    refine draw_i hs (by omega) (by omega) fun r2 n2 h7 h8 h9 h10 => ?_
    array_mem_dec
    refine sp_lfrac (by omega) (pow_lt (m := 10) (by omega) (by decide)) (pow_lt (m := 10) (by omega) (by decide)) ?_
    array_mem_dec
    exact hkk (Rat.divInt (r - 2) (1 + r2)) _ _ (wt_q h6 (by omega) (by omega)) (by sizeOf_list_dec) (by omega) (by omega)
  · rw [List.length_range] at hl h2
    array_mem_dec
    rw [list_ch, hl]
    refine hk _ m ⟨fun a => ?_, fun a => ?_⟩ h1 (by omega)
    · rw [List.getD_eq_getElem?_getD]
      by_cases hi : a.toNat < bs.length
      · rw [List.getElem?_eq_getElem hi]; exact Q.mono (hP _ (List.getElem_mem hi)).1 (by omega) (by omega)
      · rw [List.getElem?_eq_none (by omega)]; exact Q.mono zero_w.1 (by omega) (by omega)
    · rw [List.getD_eq_getElem?_getD]
      by_cases hi : a.toNat < bs.length
      · rw [List.getElem?_eq_getElem hi]; exact (hP _ (List.getElem_mem hi)).2
      · rw [List.getElem?_eq_none (by omega)]; rfl
def isWts (u : Nat) : D → Bool
  | .tup xs => decide (xs.length = u) && xs.all isFraction
  | _ => false
theorem sp_reqw {d L : Nat} {P : Pl} {v : D} {n : Nat} {k : KD} {x : KX} (g : PlG L P) (hv : sm v = true) (h1 : isWts P.u v = true → k .non n) (h2 : isWts P.u v = false → x "InvalidWeights" n) : callW T (d + 7) 184 [dPl P, v] n k x := by
  refine callW_v t_require_weights rfl (by sizeOf_list_dec) ?_
  array_mem_dec
  refine sp_good g ?_
  array_mem_dec
  cases v with
  | st => simp [sm] at hv
  | scr => simp [sm] at hv
  | tup xs =>
    simp only [sm, Bool.and_eq_true, decide_eq_true_eq] at hv
    array_mem_dec
    have e : (!((xs.length : Int) == (P.u : Int))) = !decide (xs.length = P.u) := by
      congr 1
      rw [Bool.eq_iff_iff, beq_iff_eq, decide_eq_true_eq]; omega
    rw [e]
    refine oItr (fun h => ?_) (fun h => ?_)
    · array_mem_dec
      refine h2 ?_
      simp only [isWts]
      rw [Bool.not_eq_true'] at h
      rw [h]; rfl
    · have hl : decide (xs.length = P.u) = true := by simpa using h
      array_mem_dec
      refine lcMI (res := fun d => .bl (isFraction d)) (by omega) (by sizeOf_list_dec) (fun a ha => by sizeOf_list_dec) (fun d hd kk hkk => ?_) ?_
      · array_mem_dec
        exact sp_isFraction (sms_mem hv.2 hd) hkk
      array_mem_dec
      refine oItr (fun h => ?_) (fun h => ?_)
      · array_mem_dec
        refine h2 ?_
        simp only [isWts, hl, Bool.true_and]
        simpa using h
      · array_mem_dec
        refine h1 ?_
        simp only [isWts, hl, Bool.true_and]
        simpa using h
  | _ =>
    array_mem_dec
    exact h2 rfl
theorem wts_ok {L u : Nat} {w : Int → Rat} (h : Wts L u w) (hu : u ≤ 5) : sm (dWts u w) = true ∧ isWts u (dWts u w) = true := by
  constructor
  · refine sm_tup (by simp; omega) (sms_of fun x hx => ?_)
    obtain ⟨i, _, rfl⟩ := List.mem_map.mp hx
    exact h.sm i
  · show (decide ((dCh u w).length = u) && (dCh u w).all isFraction) = true
    rw [Bool.and_eq_true, decide_eq_true_eq, List.all_eq_true]
    refine ⟨by simp, fun x hx => ?_⟩
    obtain ⟨i, _, rfl⟩ := List.mem_map.mp hx
    exact fr_is _
theorem sp_goodw {d L : Nat} {P : Pl} {w : Int → Rat} {n : Nat} {k : KD} {x : KX} (g : PlG L P) (h : Wts L P.u w) (hk : k .non n) : callW T (d + 7) 184 [dPl P, dWts P.u w] n k x :=
  sp_reqw g (wts_ok h g.f.u5).1 (fun _ => hk) fun e => by rw [(wts_ok h g.f.u5).2] at e; cases e
def linS (w : Int → Rat) (vs s : List Int) : Rat := (s.map fun a => w a * (va vs a : Rat)).sum
theorem lin_t {L u : Nat} {w : Int → Rat} {vs s : List Int} (hL : Lk L) (hw : Wts L u w) (hv : Vals u vs) : ∀ a ∈ s, Q L 1 16 (w a * (va vs a : Rat)) := fun a _ => Q.mono (Q.mul hL (hw.q a) (va_q hv a)) (by omega) (by omega)
theorem lin_q {L u : Nat} {w : Int → Rat} {vs s : List Int} (hL : Lk L) (hw : Wts L u w) (hv : Vals u vs) (hl : s.length ≤ 5) : Q L 1 19 (linS w vs s) := by
  refine Q.sum 3 hL (fun q hq => ?_) (by rw [List.length_map]; omega)
  obtain ⟨a, ha, rfl⟩ := List.mem_map.mp hq
  exact lin_t hL hw hv a ha
theorem sp_linear_of {d L u : Nat} {w : Int → Rat} {vs s : List Int} {n : Nat} {k : KD} {x : KX} (hL : Lk L) (hw : Wts L u w) (hv : Vals u vs) (hl : s.length ≤ 5) (hr : ∀ a ∈ s, 0 ≤ a ∧ a < u) (hk : k (dFr (linS w vs s)) n) : callW T (d + 5) 185 [dWts u w, dVs vs, sD s] n k x := by
  unfold sD
  refine callW_v t_linear_of rfl (by sizeOf_list_dec) ?_
  array_mem_dec
  refine lcM (res := fun a => dFr (w a * (va vs a : Rat))) (by omega) (by sizeOf_list_dec) (fun a ha => by sizeOf_list_dec) (fun a ha kk hkk => ?_) ?_
  · have hr := hr a ha
    array_mem_dec
    refine oXT (ix_ch hr.1 hr.2) ?_
    array_mem_dec
    refine oXT (ix_va hv.len hr.1 hr.2) ?_
    array_mem_dec
    refine sp_whole ?_
    array_mem_dec
    exact sp_times (Q.sz hL (hw.q a) (by omega)) (Q.sz hL (va_q hv a) (by omega)) hkk
  array_mem_dec
  exact sp_totalM hL (lin_t hL hw hv) (by omega) (by omega) hk
abbrev linR (w : Int → Rat) (vs : List Int) : List Int × Rat → Rat := fun r => linS w vs r.1
theorem linR_q {L : Nat} {P : Pl} {w : Int → Rat} {vs : List Int} (g : PlG L P) (hw : Wts L P.u w) (hv : Vals P.u vs) : ∀ r ∈ P.rows, Q L 1 19 (linR w vs r) := fun r hr => lin_q g.hL hw hv (smp_ok g hr).len
theorem sp_linear {d L : Nat} {P : Pl} {w : Int → Rat} {vs : List Int} {r : List Int × Rat} {n : Nat} {k : KD} {x : KX} (g : PlG L P) (hw : Wts L P.u w) (hv : Vals P.u vs) (hr : r ∈ P.rows) (hk : k (dFr (linR w vs r)) n) : callW T (d + 8) 186 [dPl P, dWts P.u w, dVs vs, sD r.1] n k x := by
  refine callW_v t_linear rfl (by sizeOf_list_dec) ?_
  array_mem_dec
  refine sp_goodw g hw ?_
  array_mem_dec
  refine sp_goodv hv g.f.u5 ?_
  array_mem_dec
  refine sp_reqs g ?_ (fun q hq e => ?_) (fun h => absurd rfl (h r hr))
  · obtain ⟨M, h⟩ := g.ok
    have h2 := sms_mem h.rsm (List.mem_map.mpr ⟨r, hr, rfl⟩)
    simp only [rowD, sm, sms, Bool.and_eq_true] at h2
    show (decide ((r.1.map D.int).length ≤ 60) && sms (r.1.map D.int)) = true
    rw [Bool.and_eq_true]
    exact h2.2.1
  array_mem_dec
  exact sp_linear_of g.hL hw hv (smp_ok g hr).len (smp_ok g hr).rng hk
def facT (P : Pl) (w : Int → Rat) (i : Nat) : Rat := w i * jn P i i - 1
theorem wj_q {L : Nat} {P : Pl} {w : Int → Rat} (g : PlG L P) (hw : Wts L P.u w) (i : Int) : Q L 2 9 (w i * jn P i i) := Q.mul g.hL (hw.q i) (g.jn i i)
abbrev facD (P : Pl) (w : Int → Rat) : List D := (List.range P.u).map fun i : Nat => dFr (facT P w i)
theorem sp_factors {d L : Nat} {P : Pl} {w : Int → Rat} {n : Nat} {k : KD} {x : KX} (g : PlG L P) (hw : Wts L P.u w) (hk : k (.tup (facD P w)) n) : callW T (d + 8) 187 [dPl P, dWts P.u w] n k x := by
  have hu := g.f.u5
  refine callW_v t_factors rfl (by sizeOf_list_dec) ?_
  array_mem_dec
  refine sp_goodw g hw ?_
  array_mem_dec
  refine sp_chs g ?_
  array_mem_dec
  rw [zipS]
  refine lcM (res := fun i : Nat => dFr (facT P w i)) (by simp; omega) (by sizeOf_list_dec) (fun a ha => by sizeOf_list_dec) (fun i hi kk hkk => ?_) ?_
  · array_mem_dec
    refine sp_times (Q.sz g.hL (hw.q i) (by omega)) (Q.sz g.hL (g.jn i i) (by omega)) ?_
    array_mem_dec
    rw [one_data]
    exact sp_minus (Q.sz g.hL (wj_q g hw i) (by omega)) (Q.sz g.hL q1 (by omega)) hkk
  array_mem_dec
  exact hk
def anyZ (P : Pl) : Bool := (List.range P.u).any fun i : Nat => (jn P i i).num == 0
abbrev invD (P : Pl) : List D := (List.range P.u).map fun i : Nat => dFr ((jn P i i)⁻¹)
def rigD (P : Pl) : D := if anyZ P = true then .non else .tup (invD P)
theorem sp_right_weights {d L : Nat} {P : Pl} {n : Nat} {k : KD} {x : KX} (g : PlG L P) (hk : k (rigD P) n) : callW T (d + 8) 188 [dPl P] n k x := by
  have hu := g.f.u5
  refine callW_v t_right_weights rfl (by sizeOf_list_dec) ?_
  array_mem_dec
  refine sp_good g ?_
  array_mem_dec
  refine sp_chs g ?_
  array_mem_dec
  refine lcM (res := fun i : Nat => .bl ((jn P i i).num == 0)) (by simp; omega) (by sizeOf_list_dec) (fun a ha => by sizeOf_list_dec) (fun i hi kk hkk => ?_) ?_
  · array_mem_dec
    exact hkk
  array_mem_dec
  have e0 : ((List.range P.u).any fun i : Nat => (jn P i i).num == 0) = anyZ P := rfl
  rw [e0]
  refine oItr (fun h => ?_) (fun h => ?_)
  · array_mem_dec
    unfold rigD at hk
    rw [if_pos h] at hk
    exact hk
  · array_mem_dec
    refine lcM (res := fun i : Nat => dFr ((jn P i i)⁻¹)) (by simp; omega) (by sizeOf_list_dec) (fun a ha => by sizeOf_list_dec) (fun i hi kk hkk => ?_) ?_
    · array_mem_dec
      rw [one_data]
      have hz : jn P i i ≠ 0 := fun e => by
        have := List.any_eq_false.mp h i hi
        rw [num_zero, e] at this
        simp at this
      refine sp_over (Q.sz g.hL q1 (by omega)) (Q.sz g.hL (g.jn i i) (by omega)) hz ?_
      rw [Rat.div_def, Rat.one_mul]
      exact hkk
    array_mem_dec
    unfold rigD at hk
    rw [if_neg (by rw [h]; simp)] at hk
    exact hk
theorem lrest_q {L : Nat} {P : Pl} {w : Int → Rat} {vs : List Int} (g : PlG L P) (hw : Wts L P.u w) (hv : Vals P.u vs) : ∀ r ∈ P.rows, Q L 1 20 (linR w vs r - (vs.sum : Rat)) := fun r hr => Q.mono (Q.sub g.hL (linR_q g hw hv r hr) (sum_q hv g.f.u5)) (by omega) (by omega)
abbrev lsqR (w : Int → Rat) (vs : List Int) : List Int × Rat → Rat := fun r => (linR w vs r - (vs.sum : Rat)) * (linR w vs r - (vs.sum : Rat))
theorem lsq_q {L : Nat} {P : Pl} {w : Int → Rat} {vs : List Int} (g : PlG L P) (hw : Wts L P.u w) (hv : Vals P.u vs) : ∀ r ∈ P.rows, Q L 2 40 (lsqR w vs r) := fun r hr => Q.mul g.hL (lrest_q g hw hv r hr) (lrest_q g hw hv r hr)
theorem sp_square_error {d L : Nat} {P : Pl} {w : Int → Rat} {vs : List Int} {n : Nat} {k : KD} {x : KX} (g : PlG L P) (hw : Wts L P.u w) (hv : Vals P.u vs) (hk : k (dFr (mean P (lsqR w vs))) n) : callW T (d + 8) 189 [dPl P, dWts P.u w, dVs vs] n k x := by
  have hl := g.f.len
  refine callW_v t_square_error rfl (by sizeOf_list_dec) ?_
  array_mem_dec
  refine sp_goodw g hw ?_
  array_mem_dec
  refine sp_goodv hv g.f.u5 ?_
  array_mem_dec
  refine lcM (res := fun r => dFr (linR w vs r - (vs.sum : Rat))) (by omega) (by sizeOf_list_dec) (fun a ha => by sizeOf_list_dec) (fun r hr kk hkk => ?_) ?_
  · array_mem_dec
    refine sp_linear_of g.hL hw hv (smp_ok g hr).len (smp_ok g hr).rng ?_
    array_mem_dec
    rw [List.map_id']
    refine sp_whole ?_
    array_mem_dec
    exact sp_minus (Q.sz g.hL (linR_q g hw hv r hr) (by omega)) (Q.sz g.hL (sum_q hv g.f.u5) (by omega)) hkk
  array_mem_dec
  refine lcM (res := fun r => dFr (lsqR w vs r)) (by omega) (by sizeOf_list_dec) (fun a ha => by sizeOf_list_dec) (fun r hr kk hkk => ?_) ?_
  · array_mem_dec
    exact sp_times (Q.sz g.hL (lrest_q g hw hv r hr) (by omega)) (Q.sz g.hL (lrest_q g hw hv r hr) (by omega)) hkk
  array_mem_dec
  exact sp_mean_of g (lsq_q g hw hv) (by decide) hk
end PVR
end
section
set_option Elab.async false
set_option linter.all false
set_option maxRecDepth 100000
set_option maxHeartbeats 2000000
namespace PVR
open PV
local macro_rules | `(tactic| sizeOf_list_dec) => `(tactic| first
  | assumption
  | ((with_reducible repeat constructor); done)
  | exact List.mem_cons_self
  | (simp [small]; done)
  | (simp [small]; omega)
  | (simp; omega)
  | omega)
local macro_rules | `(tactic| array_get_dec) => `(tactic| first
  | with_reducible refine wCaF ?_
  | with_reducible refine wAs ?_
  | with_reducible refine wB ?_
  | with_reducible refine wB0 ?_
  | with_reducible refine wL ?_
  | with_reducible refine wL0 ?_
  | with_reducible refine wI ?_
  | with_reducible refine wF ?_
  | with_reducible refine wFi ?_
  | with_reducible refine wRe ?_
  | with_reducible refine wTu ?_
  | with_reducible refine wIx ?_
  | with_reducible refine wCm ?_
  | with_reducible refine wAo ?_
  | with_reducible refine wFo ?_
  | with_reducible refine wEx ?_
  | with_reducible refine wIe ?_
  | with_reducible refine wBc ?_
  | with_reducible refine wLc ?_
  | with_reducible refine wBi ?_
  | with_reducible refine wAn ?_
  | with_reducible refine wOr ?_
  | with_reducible refine wNt ?_
  | with_reducible refine wIsi ?_
  | with_reducible refine wSl ?_
  | with_reducible refine wO ?_
  | with_reducible refine wO0 ?_
  | with_reducible refine wC0 ?_
  | with_reducible refine wC ?_
  | with_reducible refine wIex ?_
  | with_reducible refine wIr1 ?_
  | with_reducible refine wIr2 ?_
  | with_reducible refine wIen ?_
  | with_reducible refine wIzp ?_
  | with_reducible refine wFt ?_
  | with_reducible refine wKb ?_
  | with_reducible refine wLs ?_
  | with_reducible refine wP2 ?_
  | with_reducible refine wP3 ?_
  | with_reducible refine wRa ?_
  | with_reducible refine wTy ?_
  | with_reducible refine wBl ?_
  | with_reducible refine wN ?_
  | with_reducible refine wS ?_
  | with_reducible refine wCh ?_
  | with_reducible refine wNg ?_
  | with_reducible refine wCa ?_
  | with_reducible refine wRv ?_
  | with_reducible refine wL2 ?_
  | with_reducible refine wLirL ?_
  | with_reducible refine wLirT ?_
  | with_reducible refine wMn ?_
  | with_reducible refine wDg ?_
  | with_reducible refine oMn ?_
  | with_reducible refine wDa ?_
  | with_reducible refine oAdd ?_
  | with_reducible refine oSub ?_
  | with_reducible refine oNg ?_
  | with_reducible refine oInt ?_
  | with_reducible refine oSqT ?_
  | with_reducible refine oSqL ?_
  | with_reducible refine oSqR ?_
  | with_reducible refine oLt ?_
  | with_reducible refine oLe ?_
  | with_reducible refine oGt ?_
  | with_reducible refine oGe ?_
  | with_reducible refine oEqI ?_
  | with_reducible refine oNeI ?_
  | with_reducible refine oIs ?_
  | with_reducible refine oIsn ?_
  | with_reducible refine bLenT ?_
  | with_reducible refine bLenL ?_
  | with_reducible refine bLenR ?_
  | with_reducible refine bAbs ?_
  | with_reducible refine bList ?_
  | with_reducible refine bListT ?_
  | with_reducible refine bTup ?_
  | with_reducible refine bTupT ?_
  | with_reducible refine oST1 ?_
  | with_reducible refine oSL1 ?_
  | with_reducible refine oST ?_
  | with_reducible refine oSL ?_
  | with_reducible refine oZTT ?_
  | with_reducible refine oZTL ?_
  | with_reducible refine oZLT ?_
  | with_reducible refine oZLL ?_
  | with_reducible refine oET ?_
  | with_reducible refine oEL ?_
  | with_reducible refine bIntI ?_
  | with_reducible refine bIntB ?_
  | with_reducible refine bAllM ?_
  | with_reducible refine bAnyM ?_
  | with_reducible refine bSumM ?_
  | with_reducible refine bSumT ?_
  | ((with_reducible refine' vPd ?h ?_); (case h => (with_reducible repeat constructor)))
  | ((with_reducible refine' vOin ?h ?_); (case h => (with_reducible repeat constructor)))
  | ((with_reducible refine' vOgD ?h ?_); (case h => (with_reducible repeat constructor)))
  | ((with_reducible refine' vOgx ?h ?_); (case h => (with_reducible repeat constructor)))
  | ((with_reducible refine' vDk ?h ?_); (case h => (with_reducible repeat constructor)))
  | ((with_reducible refine' vDn ?h ?_); (case h => (with_reducible repeat constructor)))
  | ((with_reducible refine' vDs ?h ?_); (case h => (with_reducible repeat constructor)))
  | ((with_reducible refine' vV ?h ?_); (case h => (with_reducible repeat constructor)))
  | ((with_reducible refine' vVo ?h ?_); (case h => (with_reducible repeat constructor)))
  | ((with_reducible refine' vAg ?h ?_); (case h => (with_reducible repeat constructor)))
  | ((with_reducible refine' vAp ?h ?_); (case h => (with_reducible repeat constructor)))
  | ((with_reducible refine' vSi ?h ?_); (case h => (with_reducible repeat constructor)))
  | ((with_reducible refine' vOl ?h ?_); (case h => (with_reducible repeat constructor)))
  | ((with_reducible refine' vOi ?h ?_); (case h => (with_reducible repeat constructor)))
  | ((with_reducible refine' vA ?h ?_); (case h => (with_reducible repeat constructor)))
  | ((with_reducible refine' vSet ?h ?_); (case h => (with_reducible repeat constructor)))
  | ((with_reducible refine' vSetO ?h ?_); (case h => (with_reducible repeat constructor)))
  | ((with_reducible refine' vFz ?h ?_); (case h => (with_reducible repeat constructor)))
  | ((with_reducible refine' vLk ?h ?h2 ?_); (case h => (with_reducible repeat constructor)); (case h2 => (with_reducible repeat constructor)))
  | ((with_reducible refine' wFtN ?h ?_); (case h => rfl))
  | ((with_reducible refine' oT ?h ?_); (case h => rfl))
  | ((with_reducible refine' oI ?h ?_); (case h => rfl))
  | ((with_reducible refine' oXT ?h ?_); (case h => rfl))
  | ((with_reducible refine' oXL ?h ?_); (case h => rfl))
  | ((with_reducible refine' iteT ?h ?_); (case h => first | with_reducible rfl | decide))
  | ((with_reducible refine' iteF ?h ?_); (case h => first | with_reducible rfl | decide))
  | ((with_reducible refine' oCatT ?h ?_); (case h => sizeOf_list_dec))
  | ((with_reducible refine' oCatL ?h ?_); (case h => sizeOf_list_dec))
  | ((with_reducible refine' aSm ?h ?_); (case h => sizeOf_list_dec))
  | ((with_reducible refine' aMem ?h ?_); (case h => sizeOf_list_dec))
  | ((with_reducible refine' aTop ?h ?_); (case h => sizeOf_list_dec)))
local macro_rules | `(tactic| array_mem_dec) => `(tactic| repeat array_get_dec)
local macro_rules | `(tactic| clean_wf) => `(tactic| repeat (first | array_get_dec | refine oNeB ?_ | refine iteT rfl ?_ | refine iteF rfl ?_))
def tot (prs : List (List Int × Rat)) (s : List Int) : Rat := ((prs.filter fun r => decide (r.1 = s)).map (·.2)).sum
structure DctOk (prs : List (List Int × Rat)) (kvs : List (List Int × D)) : Prop where
  nd : (kvs.map (·.1)).Nodup
  mem : ∀ s, s ∈ kvs.map (·.1) ↔ s ∈ prs.map (·.1)
  val : ∀ p ∈ kvs, p.2 = dFr (tot prs p.1)
theorem nodup_len {α : Type} [DecidableEq α] : ∀ (l m : List α), l.Nodup → (∀ x ∈ l, x ∈ m) → l.length ≤ m.length
  | [], m, _, _ => Nat.zero_le _
  | a :: l, m, hn, hs => by
    rw [List.nodup_cons] at hn
    have ha := hs a List.mem_cons_self
    have h1 := nodup_len l (m.erase a) hn.2 fun x hx => (List.mem_erase_of_ne (by intro e; subst e; exact hn.1 hx)).mpr (hs x (List.mem_cons_of_mem _ hx))
    rw [List.length_erase_of_mem ha] at h1
    have := List.length_pos_of_mem ha
    simp only [List.length_cons]
    omega
theorem DctOk.len {prs : List (List Int × Rat)} {kvs : List (List Int × D)} (h : DctOk prs kvs) {u : Nat} (hu : u ≤ 5) (hs : ∀ r ∈ prs, r.1 ∈ lexOf u) : kvs.length ≤ 32 := by
  have h1 : (kvs.map (·.1)).length ≤ (lexOf u).length := nodup_len _ _ h.nd fun s hs2 => by
    obtain ⟨r, hr, rfl⟩ := List.mem_map.mp ((h.mem s).mp hs2)
    exact hs r hr
  rw [List.length_map] at h1
  exact Nat.le_trans h1 (lex_len hu)
end PVR
end
section
set_option Elab.async false
set_option linter.all false
set_option maxRecDepth 100000
set_option maxHeartbeats 2000000
namespace PVR
open PV
local macro_rules | `(tactic| sizeOf_list_dec) => `(tactic| first
  | assumption
  | ((with_reducible repeat constructor); done)
  | exact List.mem_cons_self
  | (simp [small]; done)
  | (simp [small]; omega)
  | (simp; omega)
  | omega)
local macro_rules | `(tactic| array_get_dec) => `(tactic| first
  | with_reducible refine wCaF ?_
  | with_reducible refine wAs ?_
  | with_reducible refine wB ?_
  | with_reducible refine wB0 ?_
  | with_reducible refine wL ?_
  | with_reducible refine wL0 ?_
  | with_reducible refine wI ?_
  | with_reducible refine wF ?_
  | with_reducible refine wFi ?_
  | with_reducible refine wRe ?_
  | with_reducible refine wTu ?_
  | with_reducible refine wIx ?_
  | with_reducible refine wCm ?_
  | with_reducible refine wAo ?_
  | with_reducible refine wFo ?_
  | with_reducible refine wEx ?_
  | with_reducible refine wIe ?_
  | with_reducible refine wBc ?_
  | with_reducible refine wLc ?_
  | with_reducible refine wBi ?_
  | with_reducible refine wAn ?_
  | with_reducible refine wOr ?_
  | with_reducible refine wNt ?_
  | with_reducible refine wIsi ?_
  | with_reducible refine wSl ?_
  | with_reducible refine wO ?_
  | with_reducible refine wO0 ?_
  | with_reducible refine wC0 ?_
  | with_reducible refine wC ?_
  | with_reducible refine wIex ?_
  | with_reducible refine wIr1 ?_
  | with_reducible refine wIr2 ?_
  | with_reducible refine wIen ?_
  | with_reducible refine wIzp ?_
  | with_reducible refine wFt ?_
  | with_reducible refine wKb ?_
  | with_reducible refine wLs ?_
  | with_reducible refine wP2 ?_
  | with_reducible refine wP3 ?_
  | with_reducible refine wRa ?_
  | with_reducible refine wTy ?_
  | with_reducible refine wBl ?_
  | with_reducible refine wN ?_
  | with_reducible refine wS ?_
  | with_reducible refine wCh ?_
  | with_reducible refine wNg ?_
  | with_reducible refine wCa ?_
  | with_reducible refine wRv ?_
  | with_reducible refine wL2 ?_
  | with_reducible refine wLirL ?_
  | with_reducible refine wLirT ?_
  | with_reducible refine wMn ?_
  | with_reducible refine wDg ?_
  | with_reducible refine oMn ?_
  | with_reducible refine wDa ?_
  | with_reducible refine oAdd ?_
  | with_reducible refine oSub ?_
  | with_reducible refine oNg ?_
  | with_reducible refine oInt ?_
  | with_reducible refine oSqT ?_
  | with_reducible refine oSqL ?_
  | with_reducible refine oSqR ?_
  | with_reducible refine oLt ?_
  | with_reducible refine oLe ?_
  | with_reducible refine oGt ?_
  | with_reducible refine oGe ?_
  | with_reducible refine oEqI ?_
  | with_reducible refine oNeI ?_
  | with_reducible refine oIs ?_
  | with_reducible refine oIsn ?_
  | with_reducible refine bLenT ?_
  | with_reducible refine bLenL ?_
  | with_reducible refine bLenR ?_
  | with_reducible refine bAbs ?_
  | with_reducible refine bList ?_
  | with_reducible refine bListT ?_
  | with_reducible refine bTup ?_
  | with_reducible refine bTupT ?_
  | with_reducible refine oST1 ?_
  | with_reducible refine oSL1 ?_
  | with_reducible refine oST ?_
  | with_reducible refine oSL ?_
  | with_reducible refine oZTT ?_
  | with_reducible refine oZTL ?_
  | with_reducible refine oZLT ?_
  | with_reducible refine oZLL ?_
  | with_reducible refine oET ?_
  | with_reducible refine oEL ?_
  | with_reducible refine bIntI ?_
  | with_reducible refine bIntB ?_
  | with_reducible refine bAllM ?_
  | with_reducible refine bAnyM ?_
  | with_reducible refine bSumM ?_
  | with_reducible refine bSumT ?_
  | ((with_reducible refine' vPd ?h ?_); (case h => (with_reducible repeat constructor)))
  | ((with_reducible refine' vOin ?h ?_); (case h => (with_reducible repeat constructor)))
  | ((with_reducible refine' vOgD ?h ?_); (case h => (with_reducible repeat constructor)))
  | ((with_reducible refine' vOgx ?h ?_); (case h => (with_reducible repeat constructor)))
  | ((with_reducible refine' vDk ?h ?_); (case h => (with_reducible repeat constructor)))
  | ((with_reducible refine' vDn ?h ?_); (case h => (with_reducible repeat constructor)))
  | ((with_reducible refine' vDs ?h ?_); (case h => (with_reducible repeat constructor)))
  | ((with_reducible refine' vV ?h ?_); (case h => (with_reducible repeat constructor)))
  | ((with_reducible refine' vVo ?h ?_); (case h => (with_reducible repeat constructor)))
  | ((with_reducible refine' vAg ?h ?_); (case h => (with_reducible repeat constructor)))
  | ((with_reducible refine' vAp ?h ?_); (case h => (with_reducible repeat constructor)))
  | ((with_reducible refine' vSi ?h ?_); (case h => (with_reducible repeat constructor)))
  | ((with_reducible refine' vOl ?h ?_); (case h => (with_reducible repeat constructor)))
  | ((with_reducible refine' vOi ?h ?_); (case h => (with_reducible repeat constructor)))
  | ((with_reducible refine' vA ?h ?_); (case h => (with_reducible repeat constructor)))
  | ((with_reducible refine' vSet ?h ?_); (case h => (with_reducible repeat constructor)))
  | ((with_reducible refine' vSetO ?h ?_); (case h => (with_reducible repeat constructor)))
  | ((with_reducible refine' vFz ?h ?_); (case h => (with_reducible repeat constructor)))
  | ((with_reducible refine' vLk ?h ?h2 ?_); (case h => (with_reducible repeat constructor)); (case h2 => (with_reducible repeat constructor)))
  | ((with_reducible refine' wFtN ?h ?_); (case h => rfl))
  | ((with_reducible refine' oT ?h ?_); (case h => rfl))
  | ((with_reducible refine' oI ?h ?_); (case h => rfl))
  | ((with_reducible refine' oXT ?h ?_); (case h => rfl))
  | ((with_reducible refine' oXL ?h ?_); (case h => rfl))
  | ((with_reducible refine' iteT ?h ?_); (case h => first | with_reducible rfl | decide))
  | ((with_reducible refine' iteF ?h ?_); (case h => first | with_reducible rfl | decide))
  | ((with_reducible refine' oCatT ?h ?_); (case h => sizeOf_list_dec))
  | ((with_reducible refine' oCatL ?h ?_); (case h => sizeOf_list_dec))
  | ((with_reducible refine' aSm ?h ?_); (case h => sizeOf_list_dec))
  | ((with_reducible refine' aMem ?h ?_); (case h => sizeOf_list_dec))
  | ((with_reducible refine' aTop ?h ?_); (case h => sizeOf_list_dec)))
local macro_rules | `(tactic| array_mem_dec) => `(tactic| repeat array_get_dec)
local macro_rules | `(tactic| clean_wf) => `(tactic| repeat (first | array_get_dec | refine oNeB ?_ | refine iteT rfl ?_ | refine iteF rfl ?_))
theorem sum_add_map {α : Type} (f g : α → Rat) : ∀ l : List α, (l.map fun a => f a + g a).sum = (l.map f).sum + (l.map g).sum
  | [] => by simp [Rat.zero_add]
  | a :: l => by
    rw [List.map_cons, List.map_cons, List.map_cons, List.sum_cons, List.sum_cons, List.sum_cons, sum_add_map f g l]
    grind
theorem sum_all0 {α : Type} {f : α → Rat} : ∀ {l : List α}, (∀ a ∈ l, f a = 0) → (l.map f).sum = 0
  | [], _ => rfl
  | a :: l, h => by
    rw [List.map_cons, List.sum_cons, h a List.mem_cons_self, sum_all0 fun b hb => h b (List.mem_cons_of_mem _ hb), Rat.zero_add]
theorem sum_pick {α : Type} [DecidableEq α] (q : α → Rat) {s : α} : ∀ {l : List α}, l.Nodup → s ∈ l → (l.map fun t => if s = t then q t else 0).sum = q s
  | [], _, h => by cases h
  | a :: l, hn, h => by
    rw [List.nodup_cons] at hn
    rw [List.map_cons, List.sum_cons]
    by_cases e : s = a
    · subst e
      rw [if_pos rfl, sum_all0 (fun b hb => if_neg fun e2 => hn.1 (by rw [e2]; exact hb)), Rat.add_zero]
    · rw [if_neg e, Rat.zero_add]
      exact sum_pick q hn.2 ((List.mem_cons.mp h).resolve_left e)
theorem sum_filter0 {α : Type} (p : α → Bool) (f : α → Rat) : ∀ {l : List α}, (∀ a ∈ l, p a = false → f a = 0) → ((l.filter p).map f).sum = (l.map f).sum
  | [], _ => rfl
  | a :: l, h => by
    have ih := sum_filter0 p f (l := l) fun b hb => h b (List.mem_cons_of_mem _ hb)
    by_cases e : p a = true
    · rw [List.filter_cons_of_pos e, List.map_cons, List.map_cons, List.sum_cons, List.sum_cons, ih]
    · rw [List.filter_cons_of_neg e, List.map_cons, List.sum_cons, h a List.mem_cons_self (by simpa using e), Rat.zero_add, ih]
theorem jn_sum (P : Pl) (i j : Int) : jn P i j = (P.rows.map fun r => (if has r.1 i && has r.1 j then (1 : Rat) else 0) * r.2).sum := by
  have e := sum_filter0 (fun r : List Int × Rat => has r.1 i && has r.1 j) (fun r => (if has r.1 i && has r.1 j then (1 : Rat) else 0) * r.2) (l := P.rows) fun a _ h => by
    rw [h]; exact Rat.zero_mul _
  rw [← e]
  unfold jn
  congr 1
  refine List.map_congr_left fun r hr => ?_
  rw [(List.mem_filter.mp hr).2, if_pos rfl, Rat.one_mul]
structure Chs (L u : Nat) (c : Int → Rat) : Prop where
  q : ∀ i : Nat, i < u → Q L 1 0 (c i)
  lo : ∀ i : Nat, i < u → 0 ≤ c i
  hi : ∀ i : Nat, i < u → c i ≤ 1
theorem Chs.le {L u u' : Nat} {c : Int → Rat} (h : Chs L u c) (hu : u' ≤ u) : Chs L u' c := ⟨fun i hi => h.q i (by omega), fun i hi => h.lo i (by omega), fun i hi => h.hi i (by omega)⟩
theorem rest1_q {L : Nat} {c : Rat} (hL : Lk L) (h : Q L 1 0 c) (h0 : 0 ≤ c) (h1 : c ≤ 1) : Q L 1 0 (1 - c) := by
  refine ⟨?_, ?_, ?_⟩
  · exact (Q.mono (k' := 1) (b' := 1) (Q.sub hL q1 h) (by omega) (by omega)).den
  · have : (-((2 ^ 0 : Nat) : Rat)) ≤ 0 := by decide +kernel
    grind
  · have : (((2 ^ 0 : Nat) : Rat)) = 1 := by decide +kernel
    rw [this]; grind
def b2 (b : Bool) : Rat := if b then 1 else 0
end PVR
end
section
set_option Elab.async false
set_option linter.all false
set_option maxRecDepth 100000
set_option maxHeartbeats 2000000
namespace PVR
open PV
local macro_rules | `(tactic| sizeOf_list_dec) => `(tactic| first
  | assumption
  | ((with_reducible repeat constructor); done)
  | exact List.mem_cons_self
  | (simp [small]; done)
  | (simp [small]; omega)
  | (simp; omega)
  | omega)
local macro_rules | `(tactic| array_get_dec) => `(tactic| first
  | with_reducible refine wCaF ?_
  | with_reducible refine wAs ?_
  | with_reducible refine wB ?_
  | with_reducible refine wB0 ?_
  | with_reducible refine wL ?_
  | with_reducible refine wL0 ?_
  | with_reducible refine wI ?_
  | with_reducible refine wF ?_
  | with_reducible refine wFi ?_
  | with_reducible refine wRe ?_
  | with_reducible refine wTu ?_
  | with_reducible refine wIx ?_
  | with_reducible refine wCm ?_
  | with_reducible refine wAo ?_
  | with_reducible refine wFo ?_
  | with_reducible refine wEx ?_
  | with_reducible refine wIe ?_
  | with_reducible refine wBc ?_
  | with_reducible refine wLc ?_
  | with_reducible refine wBi ?_
  | with_reducible refine wAn ?_
  | with_reducible refine wOr ?_
  | with_reducible refine wNt ?_
  | with_reducible refine wIsi ?_
  | with_reducible refine wSl ?_
  | with_reducible refine wO ?_
  | with_reducible refine wO0 ?_
  | with_reducible refine wC0 ?_
  | with_reducible refine wC ?_
  | with_reducible refine wIex ?_
  | with_reducible refine wIr1 ?_
  | with_reducible refine wIr2 ?_
  | with_reducible refine wIen ?_
  | with_reducible refine wIzp ?_
  | with_reducible refine wFt ?_
  | with_reducible refine wKb ?_
  | with_reducible refine wLs ?_
  | with_reducible refine wP2 ?_
  | with_reducible refine wP3 ?_
  | with_reducible refine wRa ?_
  | with_reducible refine wTy ?_
  | with_reducible refine wBl ?_
  | with_reducible refine wN ?_
  | with_reducible refine wS ?_
  | with_reducible refine wCh ?_
  | with_reducible refine wNg ?_
  | with_reducible refine wCa ?_
  | with_reducible refine wRv ?_
  | with_reducible refine wL2 ?_
  | with_reducible refine wLirL ?_
  | with_reducible refine wLirT ?_
  | with_reducible refine wMn ?_
  | with_reducible refine wDg ?_
  | with_reducible refine oMn ?_
  | with_reducible refine wDa ?_
  | with_reducible refine oAdd ?_
  | with_reducible refine oSub ?_
  | with_reducible refine oNg ?_
  | with_reducible refine oInt ?_
  | with_reducible refine oSqT ?_
  | with_reducible refine oSqL ?_
  | with_reducible refine oSqR ?_
  | with_reducible refine oLt ?_
  | with_reducible refine oLe ?_
  | with_reducible refine oGt ?_
  | with_reducible refine oGe ?_
  | with_reducible refine oEqI ?_
  | with_reducible refine oNeI ?_
  | with_reducible refine oIs ?_
  | with_reducible refine oIsn ?_
  | with_reducible refine bLenT ?_
  | with_reducible refine bLenL ?_
  | with_reducible refine bLenR ?_
  | with_reducible refine bAbs ?_
  | with_reducible refine bList ?_
  | with_reducible refine bListT ?_
  | with_reducible refine bTup ?_
  | with_reducible refine bTupT ?_
  | with_reducible refine oST1 ?_
  | with_reducible refine oSL1 ?_
  | with_reducible refine oST ?_
  | with_reducible refine oSL ?_
  | with_reducible refine oZTT ?_
  | with_reducible refine oZTL ?_
  | with_reducible refine oZLT ?_
  | with_reducible refine oZLL ?_
  | with_reducible refine oET ?_
  | with_reducible refine oEL ?_
  | with_reducible refine bIntI ?_
  | with_reducible refine bIntB ?_
  | with_reducible refine bAllM ?_
  | with_reducible refine bAnyM ?_
  | with_reducible refine bSumM ?_
  | with_reducible refine bSumT ?_
  | ((with_reducible refine' vPd ?h ?_); (case h => (with_reducible repeat constructor)))
  | ((with_reducible refine' vOin ?h ?_); (case h => (with_reducible repeat constructor)))
  | ((with_reducible refine' vOgD ?h ?_); (case h => (with_reducible repeat constructor)))
  | ((with_reducible refine' vOgx ?h ?_); (case h => (with_reducible repeat constructor)))
  | ((with_reducible refine' vDk ?h ?_); (case h => (with_reducible repeat constructor)))
  | ((with_reducible refine' vDn ?h ?_); (case h => (with_reducible repeat constructor)))
  | ((with_reducible refine' vDs ?h ?_); (case h => (with_reducible repeat constructor)))
  | ((with_reducible refine' vV ?h ?_); (case h => (with_reducible repeat constructor)))
  | ((with_reducible refine' vVo ?h ?_); (case h => (with_reducible repeat constructor)))
  | ((with_reducible refine' vAg ?h ?_); (case h => (with_reducible repeat constructor)))
  | ((with_reducible refine' vAp ?h ?_); (case h => (with_reducible repeat constructor)))
  | ((with_reducible refine' vSi ?h ?_); (case h => (with_reducible repeat constructor)))
  | ((with_reducible refine' vOl ?h ?_); (case h => (with_reducible repeat constructor)))
  | ((with_reducible refine' vOi ?h ?_); (case h => (with_reducible repeat constructor)))
  | ((with_reducible refine' vA ?h ?_); (case h => (with_reducible repeat constructor)))
  | ((with_reducible refine' vSet ?h ?_); (case h => (with_reducible repeat constructor)))
  | ((with_reducible refine' vSetO ?h ?_); (case h => (with_reducible repeat constructor)))
  | ((with_reducible refine' vFz ?h ?_); (case h => (with_reducible repeat constructor)))
  | ((with_reducible refine' vLk ?h ?h2 ?_); (case h => (with_reducible repeat constructor)); (case h2 => (with_reducible repeat constructor)))
  | ((with_reducible refine' wFtN ?h ?_); (case h => rfl))
  | ((with_reducible refine' oT ?h ?_); (case h => rfl))
  | ((with_reducible refine' oI ?h ?_); (case h => rfl))
  | ((with_reducible refine' oXT ?h ?_); (case h => rfl))
  | ((with_reducible refine' oXL ?h ?_); (case h => rfl))
  | ((with_reducible refine' iteT ?h ?_); (case h => first | with_reducible rfl | decide))
  | ((with_reducible refine' iteF ?h ?_); (case h => first | with_reducible rfl | decide))
  | ((with_reducible refine' oCatT ?h ?_); (case h => sizeOf_list_dec))
  | ((with_reducible refine' oCatL ?h ?_); (case h => sizeOf_list_dec))
  | ((with_reducible refine' aSm ?h ?_); (case h => sizeOf_list_dec))
  | ((with_reducible refine' aMem ?h ?_); (case h => sizeOf_list_dec))
  | ((with_reducible refine' aTop ?h ?_); (case h => sizeOf_list_dec)))
local macro_rules | `(tactic| array_mem_dec) => `(tactic| repeat array_get_dec)
local macro_rules | `(tactic| clean_wf) => `(tactic| repeat (first | array_get_dec | refine oNeB ?_ | refine iteT rfl ?_ | refine iteF rfl ?_))
def Cd (q : Rat) : Prop := q.den ∣ 12 ∧ 0 ≤ q ∧ q ≤ 1
instance (q : Rat) : Decidable (Cd q) := by unfold Cd; exact inferInstance
end PVR
end
section
set_option Elab.async false
set_option linter.all false
set_option maxRecDepth 100000
set_option maxHeartbeats 2000000
namespace PVR
open PV
local macro_rules | `(tactic| sizeOf_list_dec) => `(tactic| first
  | assumption
  | ((with_reducible repeat constructor); done)
  | exact List.mem_cons_self
  | (simp [small]; done)
  | (simp [small]; omega)
  | (simp; omega)
  | omega)
local macro_rules | `(tactic| array_get_dec) => `(tactic| first
  | with_reducible refine wCaF ?_
  | with_reducible refine wAs ?_
  | with_reducible refine wB ?_
  | with_reducible refine wB0 ?_
  | with_reducible refine wL ?_
  | with_reducible refine wL0 ?_
  | with_reducible refine wI ?_
  | with_reducible refine wF ?_
  | with_reducible refine wFi ?_
  | with_reducible refine wRe ?_
  | with_reducible refine wTu ?_
  | with_reducible refine wIx ?_
  | with_reducible refine wCm ?_
  | with_reducible refine wAo ?_
  | with_reducible refine wFo ?_
  | with_reducible refine wEx ?_
  | with_reducible refine wIe ?_
  | with_reducible refine wBc ?_
  | with_reducible refine wLc ?_
  | with_reducible refine wBi ?_
  | with_reducible refine wAn ?_
  | with_reducible refine wOr ?_
  | with_reducible refine wNt ?_
  | with_reducible refine wIsi ?_
  | with_reducible refine wSl ?_
  | with_reducible refine wO ?_
  | with_reducible refine wO0 ?_
  | with_reducible refine wC0 ?_
  | with_reducible refine wC ?_
  | with_reducible refine wIex ?_
  | with_reducible refine wIr1 ?_
  | with_reducible refine wIr2 ?_
  | with_reducible refine wIen ?_
  | with_reducible refine wIzp ?_
  | with_reducible refine wFt ?_
  | with_reducible refine wKb ?_
  | with_reducible refine wLs ?_
  | with_reducible refine wP2 ?_
  | with_reducible refine wP3 ?_
  | with_reducible refine wRa ?_
  | with_reducible refine wTy ?_
  | with_reducible refine wBl ?_
  | with_reducible refine wN ?_
  | with_reducible refine wS ?_
  | with_reducible refine wCh ?_
  | with_reducible refine wNg ?_
  | with_reducible refine wCa ?_
  | with_reducible refine wRv ?_
  | with_reducible refine wL2 ?_
  | with_reducible refine wLirL ?_
  | with_reducible refine wLirT ?_
  | with_reducible refine wMn ?_
  | with_reducible refine wDg ?_
  | with_reducible refine oMn ?_
  | with_reducible refine wDa ?_
  | with_reducible refine oAdd ?_
  | with_reducible refine oSub ?_
  | with_reducible refine oNg ?_
  | with_reducible refine oInt ?_
  | with_reducible refine oSqT ?_
  | with_reducible refine oSqL ?_
  | with_reducible refine oSqR ?_
  | with_reducible refine oLt ?_
  | with_reducible refine oLe ?_
  | with_reducible refine oGt ?_
  | with_reducible refine oGe ?_
  | with_reducible refine oEqI ?_
  | with_reducible refine oNeI ?_
  | with_reducible refine oIs ?_
  | with_reducible refine oIsn ?_
  | with_reducible refine bLenT ?_
  | with_reducible refine bLenL ?_
  | with_reducible refine bLenR ?_
  | with_reducible refine bAbs ?_
  | with_reducible refine bList ?_
  | with_reducible refine bListT ?_
  | with_reducible refine bTup ?_
  | with_reducible refine bTupT ?_
  | with_reducible refine oST1 ?_
  | with_reducible refine oSL1 ?_
  | with_reducible refine oST ?_
  | with_reducible refine oSL ?_
  | with_reducible refine oZTT ?_
  | with_reducible refine oZTL ?_
  | with_reducible refine oZLT ?_
  | with_reducible refine oZLL ?_
  | with_reducible refine oET ?_
  | with_reducible refine oEL ?_
  | with_reducible refine bIntI ?_
  | with_reducible refine bIntB ?_
  | with_reducible refine bAllM ?_
  | with_reducible refine bAnyM ?_
  | with_reducible refine bSumM ?_
  | with_reducible refine bSumT ?_
  | ((with_reducible refine' vPd ?h ?_); (case h => (with_reducible repeat constructor)))
  | ((with_reducible refine' vOin ?h ?_); (case h => (with_reducible repeat constructor)))
  | ((with_reducible refine' vOgD ?h ?_); (case h => (with_reducible repeat constructor)))
  | ((with_reducible refine' vOgx ?h ?_); (case h => (with_reducible repeat constructor)))
  | ((with_reducible refine' vDk ?h ?_); (case h => (with_reducible repeat constructor)))
  | ((with_reducible refine' vDn ?h ?_); (case h => (with_reducible repeat constructor)))
  | ((with_reducible refine' vDs ?h ?_); (case h => (with_reducible repeat constructor)))
  | ((with_reducible refine' vV ?h ?_); (case h => (with_reducible repeat constructor)))
  | ((with_reducible refine' vVo ?h ?_); (case h => (with_reducible repeat constructor)))
  | ((with_reducible refine' vAg ?h ?_); (case h => (with_reducible repeat constructor)))
  | ((with_reducible refine' vAp ?h ?_); (case h => (with_reducible repeat constructor)))
  | ((with_reducible refine' vSi ?h ?_); (case h => (with_reducible repeat constructor)))
  | ((with_reducible refine' vOl ?h ?_); (case h => (with_reducible repeat constructor)))
  | ((with_reducible refine' vOi ?h ?_); (case h => (with_reducible repeat constructor)))
  | ((with_reducible refine' vA ?h ?_); (case h => (with_reducible repeat constructor)))
  | ((with_reducible refine' vSet ?h ?_); (case h => (with_reducible repeat constructor)))
  | ((with_reducible refine' vSetO ?h ?_); (case h => (with_reducible repeat constructor)))
  | ((with_reducible refine' vFz ?h ?_); (case h => (with_reducible repeat constructor)))
  | ((with_reducible refine' vLk ?h ?h2 ?_); (case h => (with_reducible repeat constructor)); (case h2 => (with_reducible repeat constructor)))
  | ((with_reducible refine' wFtN ?h ?_); (case h => rfl))
  | ((with_reducible refine' oT ?h ?_); (case h => rfl))
  | ((with_reducible refine' oI ?h ?_); (case h => rfl))
  | ((with_reducible refine' oXT ?h ?_); (case h => rfl))
  | ((with_reducible refine' oXL ?h ?_); (case h => rfl))
  | ((with_reducible refine' iteT ?h ?_); (case h => first | with_reducible rfl | decide))
  | ((with_reducible refine' iteF ?h ?_); (case h => first | with_reducible rfl | decide))
  | ((with_reducible refine' oCatT ?h ?_); (case h => sizeOf_list_dec))
  | ((with_reducible refine' oCatL ?h ?_); (case h => sizeOf_list_dec))
  | ((with_reducible refine' aSm ?h ?_); (case h => sizeOf_list_dec))
  | ((with_reducible refine' aMem ?h ?_); (case h => sizeOf_list_dec))
  | ((with_reducible refine' aTop ?h ?_); (case h => sizeOf_list_dec)))
local macro_rules | `(tactic| array_mem_dec) => `(tactic| repeat array_get_dec)
local macro_rules | `(tactic| clean_wf) => `(tactic| repeat (first | array_get_dec | refine oNeB ?_ | refine iteT rfl ?_ | refine iteF rfl ?_))
def su {α : Type} (l : List α) (f : α → Rat) : Rat := (l.map f).sum
theorem su_nil {α : Type} (f : α → Rat) : su [] f = 0 := rfl
theorem su_cons {α : Type} (a : α) (l : List α) (f : α → Rat) : su (a :: l) f = f a + su l f := by unfold su; rw [List.map_cons, List.sum_cons]
theorem su_add {α : Type} (l : List α) (f g : α → Rat) : su l (fun a => f a + g a) = su l f + su l g := sum_add_map f g l
theorem su_zero {α : Type} {l : List α} {f : α → Rat} (h : ∀ a ∈ l, f a = 0) : su l f = 0 := sum_all0 h
theorem su_congr {α : Type} {l : List α} {f g : α → Rat} (h : ∀ a ∈ l, f a = g a) : su l f = su l g := by
  unfold su
  congr 1
  exact List.map_congr_left h
theorem su_mul {α : Type} (q : Rat) (f : α → Rat) : ∀ l : List α, su l (fun a => q * f a) = q * su l f
  | [] => by rw [su_nil, su_nil, Rat.mul_zero]
  | a :: l => by rw [su_cons, su_cons, su_mul q f l, Rat.mul_add]
theorem su_comm {α β : Type} (f : α → β → Rat) (m : List β) : ∀ l : List α, su l (fun a => su m fun b => f a b) = su m fun b => su l fun a => f a b
  | [] => by rw [su_nil]; exact (su_zero fun _ _ => rfl).symm
  | a :: l => by
    rw [su_cons, su_comm f m l, ← su_add]
    exact su_congr fun b _ => (su_cons a l fun a => f a b).symm
theorem su_pick (g : Int → Rat) {u : Nat} {a : Int} (h : 0 ≤ a ∧ a < u) : su (List.range u) (fun i : Nat => b2 (a == (i : Int)) * g i) = g a := by
  have := sum_pick (fun i : Nat => g i) (List.nodup_range (n := u)) (s := a.toNat) (List.mem_range.mpr (by omega))
  rw [Int.toNat_of_nonneg h.1] at this
  rw [← this]
  refine su_congr fun i _ => ?_
  by_cases e : a = (i : Int)
  · rw [if_pos (by omega), e, beq_self_eq_true, b2, if_pos rfl, Rat.one_mul]
  · rw [if_neg (by omega), b2, if_neg (by simpa using e), Rat.zero_mul]
theorem su_set (g : Int → Rat) {u : Nat} : ∀ {s : List Int}, s.Nodup → (∀ a ∈ s, 0 ≤ a ∧ a < u) → su s g = su (List.range u) fun i : Nat => b2 (has s i) * g i
  | [], _, _ => (su_zero fun i _ => by rw [show has [] (i : Int) = false from rfl]; exact Rat.zero_mul _).symm
  | a :: s, hn, h => by
    rw [List.nodup_cons] at hn
    rw [su_cons, su_set g hn.2 fun b hb => h b (List.mem_cons_of_mem _ hb), ← su_pick g (h a List.mem_cons_self), ← su_add]
    refine su_congr fun i _ => ?_
    have e : has (a :: s) (i : Int) = ((a == (i : Int)) || has s i) := rfl
    rw [e]
    by_cases z : a = (i : Int)
    · have z2 : has s (i : Int) = false := by
        unfold has
        rw [List.any_eq_false]
        intro b hb e2
        exact hn.1 (by rw [z, ← eq_of_beq e2]; exact hb)
      rw [z2, Bool.or_false]
      simp [b2, Rat.zero_mul, Rat.add_zero]
    · have z2 : (a == (i : Int)) = false := by simpa using z
      rw [z2, Bool.false_or]
      simp [b2, Rat.zero_mul, Rat.zero_add]
theorem jn_su (P : Pl) (i j : Int) : jn P i j = su P.rows fun r => b2 (has r.1 i && has r.1 j) * r.2 := jn_sum P i j
theorem chain_nodup : ∀ {s : List Int}, chain ltI (s.map D.int) = true → s.Pairwise (· < ·)
  | [], _ => List.Pairwise.nil
  | [a], _ => by simp
  | a :: b :: s, h => by
    have h1 : ltI (.int a) (.int b) = true ∧ chain ltI ((b :: s).map D.int) = true := by
      simpa [chain, zipD, pairB] using h
    have ih := chain_nodup h1.2
    have hab : a < b := by simpa [ltI] using h1.1
    refine List.pairwise_cons.mpr ⟨fun c hc => ?_, ih⟩
    rcases List.mem_cons.mp hc with rfl | hc
    · exact hab
    · have := (List.pairwise_cons.mp ih).1 c hc
      omega
theorem set_nodup {u : Int} {s : List Int} (h : isSet u (sD s) = true) : s.Nodup := by
  simp only [isSet, sD, Bool.and_eq_true] at h
  exact (chain_nodup h.2).imp fun h => by omega
theorem mean_oneu {P : Pl} (f : PlFacts P) (g : Int → Rat) : su P.rows (fun r => r.2 * su r.1 g) = su (List.range P.u) fun i : Nat => g i * jn P i i := by
  have e : su P.rows (fun r => r.2 * su r.1 g) = su P.rows fun r => su (List.range P.u) fun i : Nat => g i * (b2 (has r.1 i && has r.1 i) * r.2) := by
    refine su_congr fun r hr => ?_
    rw [su_set g (set_nodup (f.set r hr)) (f.rng r hr), ← su_mul]
    refine su_congr fun i _ => ?_
    rw [Bool.and_self]
    grind
  rw [e, su_comm]
  refine su_congr fun i _ => ?_
  rw [su_mul, ← jn_su]
theorem vari_eq {P : Pl} (f : PlFacts P) (e : List Int × Rat → Rat) : vari P e = su P.rows (fun r => r.2 * (e r * e r)) - mean P e * mean P e := by
  have h1 : su P.rows (fun r => r.2) = 1 := f.one
  have h2 : su P.rows (fun r => r.2 * e r) = mean P e := rfl
  have h3 : vari P e = su P.rows fun r => r.2 * ((e r - mean P e) * (e r - mean P e)) := rfl
  rw [h3]
  generalize mean P e = m at *
  have h4 : su P.rows (fun r => r.2 * ((e r - m) * (e r - m))) = su P.rows fun r => r.2 * (e r * e r) + ((-2 * m) * (r.2 * e r) + (m * m) * r.2) := su_congr fun r _ => by grind
  rw [h4, su_add, su_add, su_mul, su_mul, h1, h2]
  grind
end PVR
end
section
set_option Elab.async false
set_option linter.all false
set_option maxRecDepth 100000
set_option maxHeartbeats 2000000
namespace PVR
open PV
local macro_rules | `(tactic| sizeOf_list_dec) => `(tactic| first
  | assumption
  | ((with_reducible repeat constructor); done)
  | exact List.mem_cons_self
  | (simp [small]; done)
  | (simp [small]; omega)
  | (simp; omega)
  | omega)
local macro_rules | `(tactic| array_get_dec) => `(tactic| first
  | with_reducible refine wCaF ?_
  | with_reducible refine wAs ?_
  | with_reducible refine wB ?_
  | with_reducible refine wB0 ?_
  | with_reducible refine wL ?_
  | with_reducible refine wL0 ?_
  | with_reducible refine wI ?_
  | with_reducible refine wF ?_
  | with_reducible refine wFi ?_
  | with_reducible refine wRe ?_
  | with_reducible refine wTu ?_
  | with_reducible refine wIx ?_
  | with_reducible refine wCm ?_
  | with_reducible refine wAo ?_
  | with_reducible refine wFo ?_
  | with_reducible refine wEx ?_
  | with_reducible refine wIe ?_
  | with_reducible refine wBc ?_
  | with_reducible refine wLc ?_
  | with_reducible refine wBi ?_
  | with_reducible refine wAn ?_
  | with_reducible refine wOr ?_
  | with_reducible refine wNt ?_
  | with_reducible refine wIsi ?_
  | with_reducible refine wSl ?_
  | with_reducible refine wO ?_
  | with_reducible refine wO0 ?_
  | with_reducible refine wC0 ?_
  | with_reducible refine wC ?_
  | with_reducible refine wIex ?_
  | with_reducible refine wIr1 ?_
  | with_reducible refine wIr2 ?_
  | with_reducible refine wIen ?_
  | with_reducible refine wIzp ?_
  | with_reducible refine wFt ?_
  | with_reducible refine wKb ?_
  | with_reducible refine wLs ?_
  | with_reducible refine wP2 ?_
  | with_reducible refine wP3 ?_
  | with_reducible refine wRa ?_
  | with_reducible refine wTy ?_
  | with_reducible refine wBl ?_
  | with_reducible refine wN ?_
  | with_reducible refine wS ?_
  | with_reducible refine wCh ?_
  | with_reducible refine wNg ?_
  | with_reducible refine wCa ?_
  | with_reducible refine wRv ?_
  | with_reducible refine wL2 ?_
  | with_reducible refine wLirL ?_
  | with_reducible refine wLirT ?_
  | with_reducible refine wMn ?_
  | with_reducible refine wDg ?_
  | with_reducible refine oMn ?_
  | with_reducible refine wDa ?_
  | with_reducible refine oAdd ?_
  | with_reducible refine oSub ?_
  | with_reducible refine oNg ?_
  | with_reducible refine oInt ?_
  | with_reducible refine oSqT ?_
  | with_reducible refine oSqL ?_
  | with_reducible refine oSqR ?_
  | with_reducible refine oLt ?_
  | with_reducible refine oLe ?_
  | with_reducible refine oGt ?_
  | with_reducible refine oGe ?_
  | with_reducible refine oEqI ?_
  | with_reducible refine oNeI ?_
  | with_reducible refine oIs ?_
  | with_reducible refine oIsn ?_
  | with_reducible refine bLenT ?_
  | with_reducible refine bLenL ?_
  | with_reducible refine bLenR ?_
  | with_reducible refine bAbs ?_
  | with_reducible refine bList ?_
  | with_reducible refine bListT ?_
  | with_reducible refine bTup ?_
  | with_reducible refine bTupT ?_
  | with_reducible refine oST1 ?_
  | with_reducible refine oSL1 ?_
  | with_reducible refine oST ?_
  | with_reducible refine oSL ?_
  | with_reducible refine oZTT ?_
  | with_reducible refine oZTL ?_
  | with_reducible refine oZLT ?_
  | with_reducible refine oZLL ?_
  | with_reducible refine oET ?_
  | with_reducible refine oEL ?_
  | with_reducible refine bIntI ?_
  | with_reducible refine bIntB ?_
  | with_reducible refine bAllM ?_
  | with_reducible refine bAnyM ?_
  | with_reducible refine bSumM ?_
  | with_reducible refine bSumT ?_
  | ((with_reducible refine' vPd ?h ?_); (case h => (with_reducible repeat constructor)))
  | ((with_reducible refine' vOin ?h ?_); (case h => (with_reducible repeat constructor)))
  | ((with_reducible refine' vOgD ?h ?_); (case h => (with_reducible repeat constructor)))
  | ((with_reducible refine' vOgx ?h ?_); (case h => (with_reducible repeat constructor)))
  | ((with_reducible refine' vDk ?h ?_); (case h => (with_reducible repeat constructor)))
  | ((with_reducible refine' vDn ?h ?_); (case h => (with_reducible repeat constructor)))
  | ((with_reducible refine' vDs ?h ?_); (case h => (with_reducible repeat constructor)))
  | ((with_reducible refine' vV ?h ?_); (case h => (with_reducible repeat constructor)))
  | ((with_reducible refine' vVo ?h ?_); (case h => (with_reducible repeat constructor)))
  | ((with_reducible refine' vAg ?h ?_); (case h => (with_reducible repeat constructor)))
  | ((with_reducible refine' vAp ?h ?_); (case h => (with_reducible repeat constructor)))
  | ((with_reducible refine' vSi ?h ?_); (case h => (with_reducible repeat constructor)))
  | ((with_reducible refine' vOl ?h ?_); (case h => (with_reducible repeat constructor)))
  | ((with_reducible refine' vOi ?h ?_); (case h => (with_reducible repeat constructor)))
  | ((with_reducible refine' vA ?h ?_); (case h => (with_reducible repeat constructor)))
  | ((with_reducible refine' vSet ?h ?_); (case h => (with_reducible repeat constructor)))
  | ((with_reducible refine' vSetO ?h ?_); (case h => (with_reducible repeat constructor)))
  | ((with_reducible refine' vFz ?h ?_); (case h => (with_reducible repeat constructor)))
  | ((with_reducible refine' vLk ?h ?h2 ?_); (case h => (with_reducible repeat constructor)); (case h2 => (with_reducible repeat constructor)))
  | ((with_reducible refine' wFtN ?h ?_); (case h => rfl))
  | ((with_reducible refine' oT ?h ?_); (case h => rfl))
  | ((with_reducible refine' oI ?h ?_); (case h => rfl))
  | ((with_reducible refine' oXT ?h ?_); (case h => rfl))
  | ((with_reducible refine' oXL ?h ?_); (case h => rfl))
  | ((with_reducible refine' iteT ?h ?_); (case h => first | with_reducible rfl | decide))
  | ((with_reducible refine' iteF ?h ?_); (case h => first | with_reducible rfl | decide))
  | ((with_reducible refine' oCatT ?h ?_); (case h => sizeOf_list_dec))
  | ((with_reducible refine' oCatL ?h ?_); (case h => sizeOf_list_dec))
  | ((with_reducible refine' aSm ?h ?_); (case h => sizeOf_list_dec))
  | ((with_reducible refine' aMem ?h ?_); (case h => sizeOf_list_dec))
  | ((with_reducible refine' aTop ?h ?_); (case h => sizeOf_list_dec)))
local macro_rules | `(tactic| array_mem_dec) => `(tactic| repeat array_get_dec)
local macro_rules | `(tactic| clean_wf) => `(tactic| repeat (first | array_get_dec | refine oNeB ?_ | refine iteT rfl ?_ | refine iteF rfl ?_))
def cei (q : Rat) : Int := -(-q.num / q.den)
theorem cei_le (q : Rat) (z : Int) : cei q ≤ z ↔ q ≤ (z : Rat) := by
  have hd : (0 : Int) < q.den := by have := q.den_pos; omega
  unfold cei
  rw [Rat.le_iff]
  have h1 := Int.le_ediv_iff_mul_le (a := -z) (b := -q.num) hd
  simp
  constructor
  · intro h
    have := h1.mp (by omega)
    rw [Int.neg_mul] at this
    omega
  · intro h
    have := h1.mpr (by rw [Int.neg_mul]; omega)
    omega
theorem lt_cei (q : Rat) (z : Int) : z < cei q ↔ (z : Rat) < q := by
  have := cei_le q z
  constructor
  · intro h
    have h2 : ¬ q ≤ (z : Rat) := fun e => by have := this.mpr e; omega
    grind
  · intro h
    have h2 : ¬ cei q ≤ z := fun e => by have := this.mp e; grind
    omega
theorem cei_lo (q : Rat) : q ≤ (cei q : Rat) := (cei_le q _).mp (Int.le_refl _)
theorem cei_hi (q : Rat) : (cei q : Rat) < q + 1 := by
  have := (lt_cei q (cei q - 1)).mp (by omega)
  rw [Rat.intCast_sub] at this
  have e : ((1 : Int) : Rat) = 1 := by decide +kernel
  grind
theorem cei_eq {q : Rat} {z : Int} (h1 : q ≤ (z : Rat)) (h2 : (z : Rat) < q + 1) : cei q = z := by
  have a := (cei_le q z).mpr h1
  have b := (lt_cei q (z - 1)).mpr (by
    rw [Rat.intCast_sub]
    have e : ((1 : Int) : Rat) = 1 := by decide +kernel
    grind)
  omega
theorem cei_add (q : Rat) (z : Int) : cei ((z : Rat) + q) = z + cei q := by
  have a := cei_lo q
  have b := cei_hi q
  refine cei_eq ?_ ?_
  · rw [Rat.intCast_add]; grind
  · rw [Rat.intCast_add]; grind
def flo (q : Rat) : Int := q.num / q.den
def fr (q : Rat) : Rat := Rat.divInt (q.num % q.den) q.den
theorem fr_eq (q : Rat) : q = (flo q : Rat) + fr q := by
  unfold fr flo
  have hd : ((q.den : Int) : Rat) ≠ 0 := by
    have := q.den_nz
    intro e
    have e2 : ((q.den : Int) : Rat) = ((0 : Int) : Rat) := e
    rw [Rat.intCast_inj] at e2
    omega
  rw [Rat.divInt_eq_div, Int.emod_def, Rat.intCast_sub, Rat.intCast_mul]
  have h1 : q = (q.num : Rat) / ((q.den : Int) : Rat) := by
    rw [← Rat.divInt_eq_div]
    exact (Rat.num_divInt_den q).symm
  generalize q.num / (q.den : Int) = z at *
  have key : ∀ (a e q z : Rat), e ≠ 0 → q = a / e → q = z + (a - e * z) / e := by
    intro a e q z he hq
    subst hq
    have := Rat.mul_inv_cancel _ he
    rw [Rat.div_def, Rat.div_def]
    grind
  exact key _ _ _ _ hd h1
theorem fr_rng (q : Rat) : 0 ≤ fr q ∧ fr q < 1 := by
  have hd : (0 : Int) < q.den := by have := q.den_pos; omega
  have h1 := Int.emod_nonneg q.num (by omega : (q.den : Int) ≠ 0)
  have h2 := Int.emod_lt_of_pos q.num hd
  unfold fr
  rw [Rat.divInt_eq_div]
  have hd2 : (0 : Rat) < ((q.den : Int) : Rat) := by
    have : ((0 : Int) : Rat) < ((q.den : Int) : Rat) := Rat.intCast_lt_intCast.mpr hd
    exact this
  constructor
  · rw [Rat.div_def]
    refine Rat.mul_nonneg ?_ (Rat.le_of_lt (Rat.inv_pos.mpr hd2))
    have : ((0 : Int) : Rat) ≤ ((q.num % q.den : Int) : Rat) := Rat.intCast_le_intCast.mpr h1
    exact this
  · rw [Rat.div_lt_iff hd2, Rat.one_mul]
    exact Rat.intCast_lt_intCast.mpr h2
def cum (c : Int → Rat) : Nat → Rat
  | 0 => 0
  | m + 1 => cum c m + c m
theorem sp_less {d : Nat} {p q : Rat} {n : Nat} {k : KD} {x : KX} (hp : Sz p) (hq : Sz q) (hk : k (.bl (decide (p < q))) n) : callW T (d + 1) 64 [dFr p, dFr q] n k x := by
  refine callW_v t_law_below rfl (by sizeOf_list_dec) ?_
  have h1 : ((p.den : Int)).natAbs < 2 ^ 4000 := hp.2
  have h2 : ((q.den : Int)).natAbs < 2 ^ 4000 := hq.2
  array_mem_dec
  refine oMul (mulOk_of hp.1 h2) ?_
  array_mem_dec
  refine oMul (mulOk_of hq.1 h1) ?_
  array_mem_dec
  have e : decide (p.num * q.den < q.num * p.den) = decide (p < q) := by
    have := Rat.lt_iff p q
    by_cases h : p < q
    · rw [decide_eq_true h, decide_eq_true (this.mp h)]
    · rw [decide_eq_false h, decide_eq_false (fun z => h (this.mpr z))]
  rw [e]
  exact hk
end PVR
end
section
set_option Elab.async false
set_option linter.all false
set_option maxRecDepth 100000
set_option maxHeartbeats 2000000
namespace PVR
open PV
local macro_rules | `(tactic| sizeOf_list_dec) => `(tactic| first
  | assumption
  | ((with_reducible repeat constructor); done)
  | exact List.mem_cons_self
  | (simp [small]; done)
  | (simp [small]; omega)
  | (simp; omega)
  | omega)
local macro_rules | `(tactic| array_get_dec) => `(tactic| first
  | with_reducible refine wCaF ?_
  | with_reducible refine wAs ?_
  | with_reducible refine wB ?_
  | with_reducible refine wB0 ?_
  | with_reducible refine wL ?_
  | with_reducible refine wL0 ?_
  | with_reducible refine wI ?_
  | with_reducible refine wF ?_
  | with_reducible refine wFi ?_
  | with_reducible refine wRe ?_
  | with_reducible refine wTu ?_
  | with_reducible refine wIx ?_
  | with_reducible refine wCm ?_
  | with_reducible refine wAo ?_
  | with_reducible refine wFo ?_
  | with_reducible refine wEx ?_
  | with_reducible refine wIe ?_
  | with_reducible refine wBc ?_
  | with_reducible refine wLc ?_
  | with_reducible refine wBi ?_
  | with_reducible refine wAn ?_
  | with_reducible refine wOr ?_
  | with_reducible refine wNt ?_
  | with_reducible refine wIsi ?_
  | with_reducible refine wSl ?_
  | with_reducible refine wO ?_
  | with_reducible refine wO0 ?_
  | with_reducible refine wC0 ?_
  | with_reducible refine wC ?_
  | with_reducible refine wIex ?_
  | with_reducible refine wIr1 ?_
  | with_reducible refine wIr2 ?_
  | with_reducible refine wIen ?_
  | with_reducible refine wIzp ?_
  | with_reducible refine wFt ?_
  | with_reducible refine wKb ?_
  | with_reducible refine wLs ?_
  | with_reducible refine wP2 ?_
  | with_reducible refine wP3 ?_
  | with_reducible refine wRa ?_
  | with_reducible refine wTy ?_
  | with_reducible refine wBl ?_
  | with_reducible refine wN ?_
  | with_reducible refine wS ?_
  | with_reducible refine wCh ?_
  | with_reducible refine wNg ?_
  | with_reducible refine wCa ?_
  | with_reducible refine wRv ?_
  | with_reducible refine wL2 ?_
  | with_reducible refine wLirL ?_
  | with_reducible refine wLirT ?_
  | with_reducible refine wMn ?_
  | with_reducible refine wDg ?_
  | with_reducible refine oMn ?_
  | with_reducible refine wDa ?_
  | with_reducible refine oAdd ?_
  | with_reducible refine oSub ?_
  | with_reducible refine oNg ?_
  | with_reducible refine oInt ?_
  | with_reducible refine oSqT ?_
  | with_reducible refine oSqL ?_
  | with_reducible refine oSqR ?_
  | with_reducible refine oLt ?_
  | with_reducible refine oLe ?_
  | with_reducible refine oGt ?_
  | with_reducible refine oGe ?_
  | with_reducible refine oEqI ?_
  | with_reducible refine oNeI ?_
  | with_reducible refine oIs ?_
  | with_reducible refine oIsn ?_
  | with_reducible refine bLenT ?_
  | with_reducible refine bLenL ?_
  | with_reducible refine bLenR ?_
  | with_reducible refine bAbs ?_
  | with_reducible refine bList ?_
  | with_reducible refine bListT ?_
  | with_reducible refine bTup ?_
  | with_reducible refine bTupT ?_
  | with_reducible refine oST1 ?_
  | with_reducible refine oSL1 ?_
  | with_reducible refine oST ?_
  | with_reducible refine oSL ?_
  | with_reducible refine oZTT ?_
  | with_reducible refine oZTL ?_
  | with_reducible refine oZLT ?_
  | with_reducible refine oZLL ?_
  | with_reducible refine oET ?_
  | with_reducible refine oEL ?_
  | with_reducible refine bIntI ?_
  | with_reducible refine bIntB ?_
  | with_reducible refine bAllM ?_
  | with_reducible refine bAnyM ?_
  | with_reducible refine bSumM ?_
  | with_reducible refine bSumT ?_
  | ((with_reducible refine' vPd ?h ?_); (case h => (with_reducible repeat constructor)))
  | ((with_reducible refine' vOin ?h ?_); (case h => (with_reducible repeat constructor)))
  | ((with_reducible refine' vOgD ?h ?_); (case h => (with_reducible repeat constructor)))
  | ((with_reducible refine' vOgx ?h ?_); (case h => (with_reducible repeat constructor)))
  | ((with_reducible refine' vDk ?h ?_); (case h => (with_reducible repeat constructor)))
  | ((with_reducible refine' vDn ?h ?_); (case h => (with_reducible repeat constructor)))
  | ((with_reducible refine' vDs ?h ?_); (case h => (with_reducible repeat constructor)))
  | ((with_reducible refine' vV ?h ?_); (case h => (with_reducible repeat constructor)))
  | ((with_reducible refine' vVo ?h ?_); (case h => (with_reducible repeat constructor)))
  | ((with_reducible refine' vAg ?h ?_); (case h => (with_reducible repeat constructor)))
  | ((with_reducible refine' vAp ?h ?_); (case h => (with_reducible repeat constructor)))
  | ((with_reducible refine' vSi ?h ?_); (case h => (with_reducible repeat constructor)))
  | ((with_reducible refine' vOl ?h ?_); (case h => (with_reducible repeat constructor)))
  | ((with_reducible refine' vOi ?h ?_); (case h => (with_reducible repeat constructor)))
  | ((with_reducible refine' vA ?h ?_); (case h => (with_reducible repeat constructor)))
  | ((with_reducible refine' vSet ?h ?_); (case h => (with_reducible repeat constructor)))
  | ((with_reducible refine' vSetO ?h ?_); (case h => (with_reducible repeat constructor)))
  | ((with_reducible refine' vFz ?h ?_); (case h => (with_reducible repeat constructor)))
  | ((with_reducible refine' vLk ?h ?h2 ?_); (case h => (with_reducible repeat constructor)); (case h2 => (with_reducible repeat constructor)))
  | ((with_reducible refine' wFtN ?h ?_); (case h => rfl))
  | ((with_reducible refine' oT ?h ?_); (case h => rfl))
  | ((with_reducible refine' oI ?h ?_); (case h => rfl))
  | ((with_reducible refine' oXT ?h ?_); (case h => rfl))
  | ((with_reducible refine' oXL ?h ?_); (case h => rfl))
  | ((with_reducible refine' iteT ?h ?_); (case h => first | with_reducible rfl | decide))
  | ((with_reducible refine' iteF ?h ?_); (case h => first | with_reducible rfl | decide))
  | ((with_reducible refine' oCatT ?h ?_); (case h => sizeOf_list_dec))
  | ((with_reducible refine' oCatL ?h ?_); (case h => sizeOf_list_dec))
  | ((with_reducible refine' aSm ?h ?_); (case h => sizeOf_list_dec))
  | ((with_reducible refine' aMem ?h ?_); (case h => sizeOf_list_dec))
  | ((with_reducible refine' aTop ?h ?_); (case h => sizeOf_list_dec)))
local macro_rules | `(tactic| array_mem_dec) => `(tactic| repeat array_get_dec)
local macro_rules | `(tactic| clean_wf) => `(tactic| repeat (first | array_get_dec | refine oNeB ?_ | refine iteT rfl ?_ | refine iteF rfl ?_))
def cuts (c : Int → Rat) (u : Nat) : List Rat := [0, 1] ++ (List.range u).map fun i : Nat => fr (cum c (i + 1))
structure Cuts (c : Int → Rat) (u : Nat) (ts : List Rat) : Prop where
  asc : ts.Pairwise (· < ·)
  mem : ∀ q, q ∈ ts ↔ q ∈ cuts c u
def steps {α : Type} (ts : List α) : List (α × α) := ts.zip (ts.drop 1)
theorem steps_cons {α : Type} (a b : α) (l : List α) : steps (a :: b :: l) = (a, b) :: steps (b :: l) := rfl
theorem steps_mem {α : Type} {l : List α} {p : α × α} (h : p ∈ steps l) : p.1 ∈ l ∧ p.2 ∈ l := by
  have := List.of_mem_zip h
  exact ⟨this.1, List.mem_of_mem_drop this.2⟩
theorem steps_lt : ∀ {l : List Rat}, l.Pairwise (· < ·) → ∀ p ∈ steps l, p.1 < p.2
  | [], _, p, h => by cases h
  | [a], _, p, h => by cases h
  | a :: b :: l, hl, p, h => by
    rw [steps_cons] at h
    rcases List.mem_cons.mp h with rfl | h
    · exact (List.pairwise_cons.mp hl).1 b List.mem_cons_self
    · exact steps_lt (List.pairwise_cons.mp hl).2 p h
theorem steps_next : ∀ {l : List Rat}, l.Pairwise (· < ·) → ∀ p ∈ steps l, ∀ f ∈ l, p.1 < f → p.2 ≤ f
  | [], _, p, h => by cases h
  | [a], _, p, h => by cases h
  | a :: b :: l, hl, p, h => by
    intro f hf hlt
    rw [steps_cons] at h
    have h2 := List.pairwise_cons.mp hl
    have h3 := List.pairwise_cons.mp h2.2
    rcases List.mem_cons.mp h with rfl | h'
    · rcases List.mem_cons.mp hf with rfl | hf
      · exact absurd hlt (Rat.lt_irrefl)
      · rcases List.mem_cons.mp hf with rfl | hf
        · exact Rat.le_refl
        · exact Rat.le_of_lt (h3.1 f hf)
    · rcases List.mem_cons.mp hf with rfl | hf
      · have := h2.1 _ (steps_mem (l := b :: l) h').1
        grind
      · exact steps_next h2.2 p h' f hf hlt
theorem tele (F : Rat → Rat) : ∀ {l : List Rat} {a b : Rat}, (a :: l).Pairwise (· < ·) → b ∈ a :: l → (∀ x ∈ a :: l, x ≤ b) → su (steps (a :: l)) (fun p => F p.2 - F p.1) = F b - F a
  | [], a, b, _, hb, _ => by
    simp only [List.mem_cons, List.not_mem_nil, or_false] at hb
    subst hb
    show su [] _ = _
    rw [su_nil]; grind
  | a2 :: l, a, b, hl, hb, h => by
    have h2 := List.pairwise_cons.mp hl
    have h3 := h2.1 a2 List.mem_cons_self
    rw [steps_cons, su_cons]
    rcases List.mem_cons.mp hb with rfl | hb
    · have := h a2 (List.mem_cons_of_mem _ List.mem_cons_self)
      grind
    · rw [tele F h2.2 hb fun x hx => h x (List.mem_cons_of_mem _ hx)]
      grind
section
variable {c : Int → Rat} {u : Nat} {ts : List Rat}
theorem cuts_rng {q : Rat} (h : q ∈ cuts c u) : 0 ≤ q ∧ q ≤ 1 := by
  unfold cuts at h
  rcases List.mem_append.mp h with h | h
  · simp only [List.mem_cons, List.not_mem_nil, or_false] at h
    rcases h with rfl | rfl
    · decide +kernel
    · decide +kernel
  · obtain ⟨i, _, rfl⟩ := List.mem_map.mp h
    have := fr_rng (cum c (i + 1))
    exact ⟨this.1, Rat.le_of_lt this.2⟩
theorem Cuts.rng (h : Cuts c u ts) {q : Rat} (hq : q ∈ ts) : 0 ≤ q ∧ q ≤ 1 := cuts_rng ((h.mem q).mp hq)
theorem Cuts.zero (h : Cuts c u ts) : 0 ∈ ts := (h.mem 0).mpr (by simp [cuts])
theorem Cuts.one (h : Cuts c u ts) : 1 ∈ ts := (h.mem 1).mpr (by simp [cuts])
theorem Cuts.fr (h : Cuts c u ts) {i : Nat} (hi : i ≤ u) : fr (cum c i) ∈ ts := by
  cases i with
  | zero => rw [show PVR.fr (cum c 0) = 0 from (by decide +kernel : PVR.fr 0 = 0)]; exact h.zero
  | succ i => exact (h.mem _).mpr (List.mem_append_right _ (List.mem_map.mpr ⟨i, List.mem_range.mpr (by omega), rfl⟩))
theorem Cuts.tele (h : Cuts c u ts) (F : Rat → Rat) : su (steps ts) (fun p => F p.2 - F p.1) = F 1 - F 0 := by
  have h0 := h.zero
  have h1 := h.one
  cases hts : ts with
  | nil => rw [hts] at h0; cases h0
  | cons a l =>
    have ha := (h.rng (q := a) (by rw [hts]; exact List.mem_cons_self)).1
    have : a = 0 := by
      rw [hts] at h0
      rcases List.mem_cons.mp h0 with h0 | h0
      · exact h0.symm
      · have := h.asc
        rw [hts] at this
        have := (List.pairwise_cons.mp this).1 0 h0
        grind
    subst this
    have hr := h.asc
    have hm : ∀ x ∈ ts, x ≤ 1 := fun x hx => (h.rng hx).2
    rw [hts] at hr h1 hm
    exact PVR.tele F hr h1 hm
theorem Cuts.step (h : Cuts c u ts) {p : Rat × Rat} (hp : p ∈ steps ts) : 0 ≤ p.1 ∧ p.1 < p.2 ∧ p.2 ≤ 1 := ⟨(h.rng (steps_mem hp).1).1, steps_lt h.asc p hp, (h.rng (steps_mem hp).2).2⟩
theorem Cuts.sum (h : Cuts c u ts) {s : Rat} (hs : PVR.fr s ∈ ts) : su (steps ts) (fun p => (cei (s - p.1) : Rat) * (p.2 - p.1)) = s := by
  have hf := fr_rng s
  have e : ∀ p ∈ steps ts, (cei (s - p.1) : Rat) * (p.2 - p.1) = (flo s : Rat) * (p.2 - p.1) + ((if p.2 < PVR.fr s then p.2 else PVR.fr s) - (if p.1 < PVR.fr s then p.1 else PVR.fr s)) := fun p hp => by
    have h1 := h.step hp
    have h2 := steps_next h.asc p hp _ hs
    have e1 : cei (s - p.1) = flo s + cei (PVR.fr s - p.1) := by
      conv => lhs; rw [fr_eq s]
      rw [← cei_add]
      congr 1
      grind
    rw [e1, Rat.intCast_add]
    by_cases z : p.1 < PVR.fr s
    · have e2 : cei (PVR.fr s - p.1) = 1 := cei_eq (by have : ((1 : Int) : Rat) = 1 := by decide +kernel
                                                       grind) (by have : ((1 : Int) : Rat) = 1 := by decide +kernel
                                                                  grind)
      have h3 := h2 z
      have e3 : (if p.2 < PVR.fr s then p.2 else PVR.fr s) = p.2 := by
        split
        · rfl
        · grind
      rw [e2, e3, if_pos z]
      have : ((1 : Int) : Rat) = 1 := by decide +kernel
      grind
    · have e2 : cei (PVR.fr s - p.1) = 0 := cei_eq (by have : ((0 : Int) : Rat) = 0 := by decide +kernel
                                                       grind) (by have : ((0 : Int) : Rat) = 0 := by decide +kernel
                                                                  grind)
      rw [e2, if_neg z, if_neg (by grind)]
      have : ((0 : Int) : Rat) = 0 := by decide +kernel
      grind
  rw [su_congr e, su_add, su_mul, h.tele (fun q => q), h.tele (fun q => if q < PVR.fr s then q else PVR.fr s)]
  conv => rhs; rw [fr_eq s]
  rw [if_neg (by grind)]
  split <;> grind
end
section
variable {c : Int → Rat} {u L : Nat} {ts : List Rat}
theorem Cuts.len (h : Cuts c u ts) : ts.length ≤ u + 2 := by
  have hn : ts.Nodup := h.asc.imp fun hab e => by subst e; exact Rat.lt_irrefl hab
  have := nodup_len ts (cuts c u) hn fun x hx => (h.mem x).mp hx
  simp [cuts] at this
  omega
end
end PVR
end
section
set_option Elab.async false
set_option linter.all false
set_option maxRecDepth 100000
set_option maxHeartbeats 2000000
namespace PVR
open PV
local macro_rules | `(tactic| sizeOf_list_dec) => `(tactic| first
  | assumption
  | ((with_reducible repeat constructor); done)
  | exact List.mem_cons_self
  | (simp [small]; done)
  | (simp [small]; omega)
  | (simp; omega)
  | omega)
local macro_rules | `(tactic| array_get_dec) => `(tactic| first
  | with_reducible refine wCaF ?_
  | with_reducible refine wAs ?_
  | with_reducible refine wB ?_
  | with_reducible refine wB0 ?_
  | with_reducible refine wL ?_
  | with_reducible refine wL0 ?_
  | with_reducible refine wI ?_
  | with_reducible refine wF ?_
  | with_reducible refine wFi ?_
  | with_reducible refine wRe ?_
  | with_reducible refine wTu ?_
  | with_reducible refine wIx ?_
  | with_reducible refine wCm ?_
  | with_reducible refine wAo ?_
  | with_reducible refine wFo ?_
  | with_reducible refine wEx ?_
  | with_reducible refine wIe ?_
  | with_reducible refine wBc ?_
  | with_reducible refine wLc ?_
  | with_reducible refine wBi ?_
  | with_reducible refine wAn ?_
  | with_reducible refine wOr ?_
  | with_reducible refine wNt ?_
  | with_reducible refine wIsi ?_
  | with_reducible refine wSl ?_
  | with_reducible refine wO ?_
  | with_reducible refine wO0 ?_
  | with_reducible refine wC0 ?_
  | with_reducible refine wC ?_
  | with_reducible refine wIex ?_
  | with_reducible refine wIr1 ?_
  | with_reducible refine wIr2 ?_
  | with_reducible refine wIen ?_
  | with_reducible refine wIzp ?_
  | with_reducible refine wFt ?_
  | with_reducible refine wKb ?_
  | with_reducible refine wLs ?_
  | with_reducible refine wP2 ?_
  | with_reducible refine wP3 ?_
  | with_reducible refine wRa ?_
  | with_reducible refine wTy ?_
  | with_reducible refine wBl ?_
  | with_reducible refine wN ?_
  | with_reducible refine wS ?_
  | with_reducible refine wCh ?_
  | with_reducible refine wNg ?_
  | with_reducible refine wCa ?_
  | with_reducible refine wRv ?_
  | with_reducible refine wL2 ?_
  | with_reducible refine wLirL ?_
  | with_reducible refine wLirT ?_
  | with_reducible refine wMn ?_
  | with_reducible refine wDg ?_
  | with_reducible refine oMn ?_
  | with_reducible refine wDa ?_
  | with_reducible refine oAdd ?_
  | with_reducible refine oSub ?_
  | with_reducible refine oNg ?_
  | with_reducible refine oInt ?_
  | with_reducible refine oSqT ?_
  | with_reducible refine oSqL ?_
  | with_reducible refine oSqR ?_
  | with_reducible refine oLt ?_
  | with_reducible refine oLe ?_
  | with_reducible refine oGt ?_
  | with_reducible refine oGe ?_
  | with_reducible refine oEqI ?_
  | with_reducible refine oNeI ?_
  | with_reducible refine oIs ?_
  | with_reducible refine oIsn ?_
  | with_reducible refine bLenT ?_
  | with_reducible refine bLenL ?_
  | with_reducible refine bLenR ?_
  | with_reducible refine bAbs ?_
  | with_reducible refine bList ?_
  | with_reducible refine bListT ?_
  | with_reducible refine bTup ?_
  | with_reducible refine bTupT ?_
  | with_reducible refine oST1 ?_
  | with_reducible refine oSL1 ?_
  | with_reducible refine oST ?_
  | with_reducible refine oSL ?_
  | with_reducible refine oZTT ?_
  | with_reducible refine oZTL ?_
  | with_reducible refine oZLT ?_
  | with_reducible refine oZLL ?_
  | with_reducible refine oET ?_
  | with_reducible refine oEL ?_
  | with_reducible refine bIntI ?_
  | with_reducible refine bIntB ?_
  | with_reducible refine bAllM ?_
  | with_reducible refine bAnyM ?_
  | with_reducible refine bSumM ?_
  | with_reducible refine bSumT ?_
  | ((with_reducible refine' vPd ?h ?_); (case h => (with_reducible repeat constructor)))
  | ((with_reducible refine' vOin ?h ?_); (case h => (with_reducible repeat constructor)))
  | ((with_reducible refine' vOgD ?h ?_); (case h => (with_reducible repeat constructor)))
  | ((with_reducible refine' vOgx ?h ?_); (case h => (with_reducible repeat constructor)))
  | ((with_reducible refine' vDk ?h ?_); (case h => (with_reducible repeat constructor)))
  | ((with_reducible refine' vDn ?h ?_); (case h => (with_reducible repeat constructor)))
  | ((with_reducible refine' vDs ?h ?_); (case h => (with_reducible repeat constructor)))
  | ((with_reducible refine' vV ?h ?_); (case h => (with_reducible repeat constructor)))
  | ((with_reducible refine' vVo ?h ?_); (case h => (with_reducible repeat constructor)))
  | ((with_reducible refine' vAg ?h ?_); (case h => (with_reducible repeat constructor)))
  | ((with_reducible refine' vAp ?h ?_); (case h => (with_reducible repeat constructor)))
  | ((with_reducible refine' vSi ?h ?_); (case h => (with_reducible repeat constructor)))
  | ((with_reducible refine' vOl ?h ?_); (case h => (with_reducible repeat constructor)))
  | ((with_reducible refine' vOi ?h ?_); (case h => (with_reducible repeat constructor)))
  | ((with_reducible refine' vA ?h ?_); (case h => (with_reducible repeat constructor)))
  | ((with_reducible refine' vSet ?h ?_); (case h => (with_reducible repeat constructor)))
  | ((with_reducible refine' vSetO ?h ?_); (case h => (with_reducible repeat constructor)))
  | ((with_reducible refine' vFz ?h ?_); (case h => (with_reducible repeat constructor)))
  | ((with_reducible refine' vLk ?h ?h2 ?_); (case h => (with_reducible repeat constructor)); (case h2 => (with_reducible repeat constructor)))
  | ((with_reducible refine' wFtN ?h ?_); (case h => rfl))
  | ((with_reducible refine' oT ?h ?_); (case h => rfl))
  | ((with_reducible refine' oI ?h ?_); (case h => rfl))
  | ((with_reducible refine' oXT ?h ?_); (case h => rfl))
  | ((with_reducible refine' oXL ?h ?_); (case h => rfl))
  | ((with_reducible refine' iteT ?h ?_); (case h => first | with_reducible rfl | decide))
  | ((with_reducible refine' iteF ?h ?_); (case h => first | with_reducible rfl | decide))
  | ((with_reducible refine' oCatT ?h ?_); (case h => sizeOf_list_dec))
  | ((with_reducible refine' oCatL ?h ?_); (case h => sizeOf_list_dec))
  | ((with_reducible refine' aSm ?h ?_); (case h => sizeOf_list_dec))
  | ((with_reducible refine' aMem ?h ?_); (case h => sizeOf_list_dec))
  | ((with_reducible refine' aTop ?h ?_); (case h => sizeOf_list_dec)))
local macro_rules | `(tactic| array_mem_dec) => `(tactic| repeat array_get_dec)
local macro_rules | `(tactic| clean_wf) => `(tactic| repeat (first | array_get_dec | refine oNeB ?_ | refine iteT rfl ?_ | refine iteF rfl ?_))
theorem vs_range {u : Nat} {vs : List Int} (h : vs.length = u) : vs = (List.range u).map fun i : Nat => va vs i := by
  subst h
  refine List.ext_getElem (by simp) fun i h1 h2 => ?_
  simp [va, List.getD_eq_getElem?_getD, h1]
def nevI (P : Pl) : List Nat := (List.range P.u).filter fun i : Nat => decide (jn P i i = 0)
def lost (P : Pl) (vs : List Int) : Int := ((nevI P).map fun i : Nat => va vs i).sum
theorem su_range_int (v : Nat → Int) : ∀ l : List Nat, (((l.map v).sum : Int) : Rat) = su l fun i => (v i : Rat)
  | [] => rfl
  | a :: l => by rw [List.map_cons, List.sum_cons, su_cons, Rat.intCast_add, su_range_int v l]
theorem sum_va {u : Nat} {vs : List Int} (h : vs.length = u) : ((vs.sum : Int) : Rat) = su (List.range u) fun i : Nat => (va vs i : Rat) := by
  conv => lhs; rw [vs_range h]
  exact su_range_int _ _
theorem mean_est {P : Pl} {vs : List Int} (f : PlFacts P) (hv : vs.length = P.u) : mean P (estR P vs) = ((vs.sum - lost P vs : Int) : Rat) := by
  have hm : mean P (estR P vs) = su (List.range P.u) fun i : Nat => ((va vs i : Int) : Rat) / jn P i i * jn P i i := mean_oneu f fun a => (va vs a : Rat) / jn P a a
  have key : ∀ l : List Nat, su l (fun i : Nat => ((va vs i : Int) : Rat) / jn P i i * jn P i i) = su l (fun i : Nat => (va vs i : Rat)) - su (l.filter fun i : Nat => decide (jn P i i = 0)) (fun i : Nat => (va vs i : Rat)) := by
    intro l
    induction l with
    | nil => rw [List.filter_nil, su_nil, su_nil]; decide +kernel
    | cons a l ih =>
      rw [su_cons, ih, su_cons]
      by_cases h : jn P a a = 0
      · rw [List.filter_cons_of_pos (by simpa using h), su_cons, h, Rat.mul_zero]; grind
      · rw [List.filter_cons_of_neg (by simpa using h), Rat.div_def, Rat.mul_assoc, Rat.inv_mul_cancel _ h]; grind
  rw [hm, key, Rat.intCast_sub, sum_va hv]
  unfold lost nevI
  rw [su_range_int]
theorem sq_nn (z : Rat) : 0 ≤ z * z := by
  rcases Rat.le_total (a := 0) (b := z) with h | h
  · exact Rat.mul_nonneg h h
  · have := Rat.mul_nonneg (a := -z) (b := -z) (by grind) (by grind)
    grind
theorem vari_nonneg {P : Pl} (f : PlFacts P) (e : List Int × Rat → Rat) : 0 ≤ vari P e := sum_nonneg fun q hq => by
  obtain ⟨r, hr, rfl⟩ := List.mem_map.mp hq
  exact Rat.mul_nonneg (Rat.le_of_lt (f.pos r hr)) (sq_nn (e r - mean P e))
theorem set_eq {u : Int} {s t : List Int} (hs : isSet u (sD s) = true) (ht : isSet u (sD t) = true) (h : ∀ i, has s i = has t i) : s = t := by
  have hm : ∀ (s : List Int) (i : Int), has s i = true ↔ i ∈ s := fun s i => by
    unfold has
    rw [List.any_eq_true]
    constructor
    · rintro ⟨a, ha, e⟩
      rw [← eq_of_beq e]; exact ha
    · intro hi
      exact ⟨i, hi, beq_self_eq_true i⟩
  have asc : ∀ {s : List Int}, isSet u (sD s) = true → s.Pairwise (· < ·) := fun {s} h => by
    simp only [isSet, sD, Bool.and_eq_true] at h
    exact chain_nodup h.2
  have p : s.Perm t := (List.perm_ext_iff_of_nodup (set_nodup hs) (set_nodup ht)).mpr fun i => by rw [← hm, ← hm, h]
  exact sorted_eq (R := fun a b : Int => a < b) (fun a b h1 h2 => by omega) p (asc hs) (asc ht)
end PVR
end
section
set_option Elab.async false
set_option linter.all false
set_option maxRecDepth 100000
set_option maxHeartbeats 2000000
namespace PVR
open PV
local macro_rules | `(tactic| sizeOf_list_dec) => `(tactic| first
  | assumption
  | ((with_reducible repeat constructor); done)
  | exact List.mem_cons_self
  | (simp [small]; done)
  | (simp [small]; omega)
  | (simp; omega)
  | omega)
local macro_rules | `(tactic| array_get_dec) => `(tactic| first
  | with_reducible refine wCaF ?_
  | with_reducible refine wAs ?_
  | with_reducible refine wB ?_
  | with_reducible refine wB0 ?_
  | with_reducible refine wL ?_
  | with_reducible refine wL0 ?_
  | with_reducible refine wI ?_
  | with_reducible refine wF ?_
  | with_reducible refine wFi ?_
  | with_reducible refine wRe ?_
  | with_reducible refine wTu ?_
  | with_reducible refine wIx ?_
  | with_reducible refine wCm ?_
  | with_reducible refine wAo ?_
  | with_reducible refine wFo ?_
  | with_reducible refine wEx ?_
  | with_reducible refine wIe ?_
  | with_reducible refine wBc ?_
  | with_reducible refine wLc ?_
  | with_reducible refine wBi ?_
  | with_reducible refine wAn ?_
  | with_reducible refine wOr ?_
  | with_reducible refine wNt ?_
  | with_reducible refine wIsi ?_
  | with_reducible refine wSl ?_
  | with_reducible refine wO ?_
  | with_reducible refine wO0 ?_
  | with_reducible refine wC0 ?_
  | with_reducible refine wC ?_
  | with_reducible refine wIex ?_
  | with_reducible refine wIr1 ?_
  | with_reducible refine wIr2 ?_
  | with_reducible refine wIen ?_
  | with_reducible refine wIzp ?_
  | with_reducible refine wFt ?_
  | with_reducible refine wKb ?_
  | with_reducible refine wLs ?_
  | with_reducible refine wP2 ?_
  | with_reducible refine wP3 ?_
  | with_reducible refine wRa ?_
  | with_reducible refine wTy ?_
  | with_reducible refine wBl ?_
  | with_reducible refine wN ?_
  | with_reducible refine wS ?_
  | with_reducible refine wCh ?_
  | with_reducible refine wNg ?_
  | with_reducible refine wCa ?_
  | with_reducible refine wRv ?_
  | with_reducible refine wL2 ?_
  | with_reducible refine wLirL ?_
  | with_reducible refine wLirT ?_
  | with_reducible refine wMn ?_
  | with_reducible refine wDg ?_
  | with_reducible refine oMn ?_
  | with_reducible refine wDa ?_
  | with_reducible refine oAdd ?_
  | with_reducible refine oSub ?_
  | with_reducible refine oNg ?_
  | with_reducible refine oInt ?_
  | with_reducible refine oSqT ?_
  | with_reducible refine oSqL ?_
  | with_reducible refine oSqR ?_
  | with_reducible refine oLt ?_
  | with_reducible refine oLe ?_
  | with_reducible refine oGt ?_
  | with_reducible refine oGe ?_
  | with_reducible refine oEqI ?_
  | with_reducible refine oNeI ?_
  | with_reducible refine oIs ?_
  | with_reducible refine oIsn ?_
  | with_reducible refine bLenT ?_
  | with_reducible refine bLenL ?_
  | with_reducible refine bLenR ?_
  | with_reducible refine bAbs ?_
  | with_reducible refine bList ?_
  | with_reducible refine bListT ?_
  | with_reducible refine bTup ?_
  | with_reducible refine bTupT ?_
  | with_reducible refine oST1 ?_
  | with_reducible refine oSL1 ?_
  | with_reducible refine oST ?_
  | with_reducible refine oSL ?_
  | with_reducible refine oZTT ?_
  | with_reducible refine oZTL ?_
  | with_reducible refine oZLT ?_
  | with_reducible refine oZLL ?_
  | with_reducible refine oET ?_
  | with_reducible refine oEL ?_
  | with_reducible refine bIntI ?_
  | with_reducible refine bIntB ?_
  | with_reducible refine bAllM ?_
  | with_reducible refine bAnyM ?_
  | with_reducible refine bSumM ?_
  | with_reducible refine bSumT ?_
  | ((with_reducible refine' vPd ?h ?_); (case h => (with_reducible repeat constructor)))
  | ((with_reducible refine' vOin ?h ?_); (case h => (with_reducible repeat constructor)))
  | ((with_reducible refine' vOgD ?h ?_); (case h => (with_reducible repeat constructor)))
  | ((with_reducible refine' vOgx ?h ?_); (case h => (with_reducible repeat constructor)))
  | ((with_reducible refine' vDk ?h ?_); (case h => (with_reducible repeat constructor)))
  | ((with_reducible refine' vDn ?h ?_); (case h => (with_reducible repeat constructor)))
  | ((with_reducible refine' vDs ?h ?_); (case h => (with_reducible repeat constructor)))
  | ((with_reducible refine' vV ?h ?_); (case h => (with_reducible repeat constructor)))
  | ((with_reducible refine' vVo ?h ?_); (case h => (with_reducible repeat constructor)))
  | ((with_reducible refine' vAg ?h ?_); (case h => (with_reducible repeat constructor)))
  | ((with_reducible refine' vAp ?h ?_); (case h => (with_reducible repeat constructor)))
  | ((with_reducible refine' vSi ?h ?_); (case h => (with_reducible repeat constructor)))
  | ((with_reducible refine' vOl ?h ?_); (case h => (with_reducible repeat constructor)))
  | ((with_reducible refine' vOi ?h ?_); (case h => (with_reducible repeat constructor)))
  | ((with_reducible refine' vA ?h ?_); (case h => (with_reducible repeat constructor)))
  | ((with_reducible refine' vSet ?h ?_); (case h => (with_reducible repeat constructor)))
  | ((with_reducible refine' vSetO ?h ?_); (case h => (with_reducible repeat constructor)))
  | ((with_reducible refine' vFz ?h ?_); (case h => (with_reducible repeat constructor)))
  | ((with_reducible refine' vLk ?h ?h2 ?_); (case h => (with_reducible repeat constructor)); (case h2 => (with_reducible repeat constructor)))
  | ((with_reducible refine' wFtN ?h ?_); (case h => rfl))
  | ((with_reducible refine' oT ?h ?_); (case h => rfl))
  | ((with_reducible refine' oI ?h ?_); (case h => rfl))
  | ((with_reducible refine' oXT ?h ?_); (case h => rfl))
  | ((with_reducible refine' oXL ?h ?_); (case h => rfl))
  | ((with_reducible refine' iteT ?h ?_); (case h => first | with_reducible rfl | decide))
  | ((with_reducible refine' iteF ?h ?_); (case h => first | with_reducible rfl | decide))
  | ((with_reducible refine' oCatT ?h ?_); (case h => sizeOf_list_dec))
  | ((with_reducible refine' oCatL ?h ?_); (case h => sizeOf_list_dec))
  | ((with_reducible refine' aSm ?h ?_); (case h => sizeOf_list_dec))
  | ((with_reducible refine' aMem ?h ?_); (case h => sizeOf_list_dec))
  | ((with_reducible refine' aTop ?h ?_); (case h => sizeOf_list_dec)))
local macro_rules | `(tactic| array_mem_dec) => `(tactic| repeat array_get_dec)
local macro_rules | `(tactic| clean_wf) => `(tactic| repeat (first | array_get_dec | refine oNeB ?_ | refine iteT rfl ?_ | refine iteF rfl ?_))
theorem eqvL_frs : ∀ (ps qs : List Rat), D.eqvL (ps.map dFr) (qs.map dFr) = decide (ps = qs)
  | [], [] => rfl
  | [], q :: qs => rfl
  | p :: ps, [] => rfl
  | p :: ps, q :: qs => by
    simp only [List.map_cons, D.eqvL, eqv_fr, eqvL_frs ps qs]
    by_cases h : p = q
    · subst h; simp
    · simp [h]
theorem ch_frs (u : Nat) (c : Int → Rat) : dCh u c = ((List.range u).map fun i : Nat => c i).map dFr := by rw [List.map_map]; rfl
theorem okq_ch (u : Nat) (c : Int → Rat) : D.okq 60 (.tup (dCh u c)) = true := by
  show D.okqL 59 _ = true
  rw [ch_frs]
  exact okq_frs 58 _
theorem eqv_ch (u v : Nat) (c e : Int → Rat) : D.eqvL (dCh u c) (dCh v e) = decide (u = v ∧ ∀ i : Nat, i < u → c i = e i) := by
  rw [ch_frs, ch_frs, eqvL_frs]
  congr 1
  refine propext ⟨fun h => ?_, fun h => ?_⟩
  · have hl : u = v := by have := congrArg List.length h; simpa using this
    subst hl
    exact ⟨rfl, fun i hi => (List.map_inj_left.mp h) i (List.mem_range.mpr hi)⟩
  · obtain ⟨rfl, h⟩ := h
    exact List.map_congr_left fun i hi => h i (List.mem_range.mp hi)
def alike (P R : Pl) : Prop := P.u = R.u ∧ ∀ i : Nat, i < P.u → jn P i i = jn R i i
instance (P R : Pl) : Decidable (alike P R) := by unfold alike; exact inferInstance
theorem alike.symm {P R : Pl} (h : alike P R) : alike R P := ⟨h.1.symm, fun i hi => (h.2 i (by rw [h.1]; exact hi)).symm⟩
end PVR
end
section
set_option Elab.async false
set_option linter.all false
set_option maxRecDepth 100000
set_option maxHeartbeats 2000000
namespace PVR
open PV
local macro_rules | `(tactic| sizeOf_list_dec) => `(tactic| first
  | assumption
  | ((with_reducible repeat constructor); done)
  | exact List.mem_cons_self
  | (simp [small]; done)
  | (simp [small]; omega)
  | (simp; omega)
  | omega)
local macro_rules | `(tactic| array_get_dec) => `(tactic| first
  | with_reducible refine wCaF ?_
  | with_reducible refine wAs ?_
  | with_reducible refine wB ?_
  | with_reducible refine wB0 ?_
  | with_reducible refine wL ?_
  | with_reducible refine wL0 ?_
  | with_reducible refine wI ?_
  | with_reducible refine wF ?_
  | with_reducible refine wFi ?_
  | with_reducible refine wRe ?_
  | with_reducible refine wTu ?_
  | with_reducible refine wIx ?_
  | with_reducible refine wCm ?_
  | with_reducible refine wAo ?_
  | with_reducible refine wFo ?_
  | with_reducible refine wEx ?_
  | with_reducible refine wIe ?_
  | with_reducible refine wBc ?_
  | with_reducible refine wLc ?_
  | with_reducible refine wBi ?_
  | with_reducible refine wAn ?_
  | with_reducible refine wOr ?_
  | with_reducible refine wNt ?_
  | with_reducible refine wIsi ?_
  | with_reducible refine wSl ?_
  | with_reducible refine wO ?_
  | with_reducible refine wO0 ?_
  | with_reducible refine wC0 ?_
  | with_reducible refine wC ?_
  | with_reducible refine wIex ?_
  | with_reducible refine wIr1 ?_
  | with_reducible refine wIr2 ?_
  | with_reducible refine wIen ?_
  | with_reducible refine wIzp ?_
  | with_reducible refine wFt ?_
  | with_reducible refine wKb ?_
  | with_reducible refine wLs ?_
  | with_reducible refine wP2 ?_
  | with_reducible refine wP3 ?_
  | with_reducible refine wRa ?_
  | with_reducible refine wTy ?_
  | with_reducible refine wBl ?_
  | with_reducible refine wN ?_
  | with_reducible refine wS ?_
  | with_reducible refine wCh ?_
  | with_reducible refine wNg ?_
  | with_reducible refine wCa ?_
  | with_reducible refine wRv ?_
  | with_reducible refine wL2 ?_
  | with_reducible refine wLirL ?_
  | with_reducible refine wLirT ?_
  | with_reducible refine wMn ?_
  | with_reducible refine wDg ?_
  | with_reducible refine oMn ?_
  | with_reducible refine wDa ?_
  | with_reducible refine oAdd ?_
  | with_reducible refine oSub ?_
  | with_reducible refine oNg ?_
  | with_reducible refine oInt ?_
  | with_reducible refine oSqT ?_
  | with_reducible refine oSqL ?_
  | with_reducible refine oSqR ?_
  | with_reducible refine oLt ?_
  | with_reducible refine oLe ?_
  | with_reducible refine oGt ?_
  | with_reducible refine oGe ?_
  | with_reducible refine oEqI ?_
  | with_reducible refine oNeI ?_
  | with_reducible refine oIs ?_
  | with_reducible refine oIsn ?_
  | with_reducible refine bLenT ?_
  | with_reducible refine bLenL ?_
  | with_reducible refine bLenR ?_
  | with_reducible refine bAbs ?_
  | with_reducible refine bList ?_
  | with_reducible refine bListT ?_
  | with_reducible refine bTup ?_
  | with_reducible refine bTupT ?_
  | with_reducible refine oST1 ?_
  | with_reducible refine oSL1 ?_
  | with_reducible refine oST ?_
  | with_reducible refine oSL ?_
  | with_reducible refine oZTT ?_
  | with_reducible refine oZTL ?_
  | with_reducible refine oZLT ?_
  | with_reducible refine oZLL ?_
  | with_reducible refine oET ?_
  | with_reducible refine oEL ?_
  | with_reducible refine bIntI ?_
  | with_reducible refine bIntB ?_
  | with_reducible refine bAllM ?_
  | with_reducible refine bAnyM ?_
  | with_reducible refine bSumM ?_
  | with_reducible refine bSumT ?_
  | ((with_reducible refine' vPd ?h ?_); (case h => (with_reducible repeat constructor)))
  | ((with_reducible refine' vOin ?h ?_); (case h => (with_reducible repeat constructor)))
  | ((with_reducible refine' vOgD ?h ?_); (case h => (with_reducible repeat constructor)))
  | ((with_reducible refine' vOgx ?h ?_); (case h => (with_reducible repeat constructor)))
  | ((with_reducible refine' vDk ?h ?_); (case h => (with_reducible repeat constructor)))
  | ((with_reducible refine' vDn ?h ?_); (case h => (with_reducible repeat constructor)))
  | ((with_reducible refine' vDs ?h ?_); (case h => (with_reducible repeat constructor)))
  | ((with_reducible refine' vV ?h ?_); (case h => (with_reducible repeat constructor)))
  | ((with_reducible refine' vVo ?h ?_); (case h => (with_reducible repeat constructor)))
  | ((with_reducible refine' vAg ?h ?_); (case h => (with_reducible repeat constructor)))
  | ((with_reducible refine' vAp ?h ?_); (case h => (with_reducible repeat constructor)))
  | ((with_reducible refine' vSi ?h ?_); (case h => (with_reducible repeat constructor)))
  | ((with_reducible refine' vOl ?h ?_); (case h => (with_reducible repeat constructor)))
  | ((with_reducible refine' vOi ?h ?_); (case h => (with_reducible repeat constructor)))
  | ((with_reducible refine' vA ?h ?_); (case h => (with_reducible repeat constructor)))
  | ((with_reducible refine' vSet ?h ?_); (case h => (with_reducible repeat constructor)))
  | ((with_reducible refine' vSetO ?h ?_); (case h => (with_reducible repeat constructor)))
  | ((with_reducible refine' vFz ?h ?_); (case h => (with_reducible repeat constructor)))
  | ((with_reducible refine' vLk ?h ?h2 ?_); (case h => (with_reducible repeat constructor)); (case h2 => (with_reducible repeat constructor)))
  | ((with_reducible refine' wFtN ?h ?_); (case h => rfl))
  | ((with_reducible refine' oT ?h ?_); (case h => rfl))
  | ((with_reducible refine' oI ?h ?_); (case h => rfl))
  | ((with_reducible refine' oXT ?h ?_); (case h => rfl))
  | ((with_reducible refine' oXL ?h ?_); (case h => rfl))
  | ((with_reducible refine' iteT ?h ?_); (case h => first | with_reducible rfl | decide))
  | ((with_reducible refine' iteF ?h ?_); (case h => first | with_reducible rfl | decide))
  | ((with_reducible refine' oCatT ?h ?_); (case h => sizeOf_list_dec))
  | ((with_reducible refine' oCatL ?h ?_); (case h => sizeOf_list_dec))
  | ((with_reducible refine' aSm ?h ?_); (case h => sizeOf_list_dec))
  | ((with_reducible refine' aMem ?h ?_); (case h => sizeOf_list_dec))
  | ((with_reducible refine' aTop ?h ?_); (case h => sizeOf_list_dec)))
local macro_rules | `(tactic| array_mem_dec) => `(tactic| repeat array_get_dec)
local macro_rules | `(tactic| clean_wf) => `(tactic| repeat (first | array_get_dec | refine oNeB ?_ | refine iteT rfl ?_ | refine iteF rfl ?_))
theorem filt_rows (p : Nat → Bool) : ∀ u, ((List.range u).filter p).map (fun m : Nat => (m : Int)) ∈ rowsOf u
  | 0 => by simp [rowsOf]
  | u + 1 => by
    rw [rowsOf, List.mem_append, List.mem_map, List.range_succ, List.filter_append]
    by_cases h : p u = true
    · right
      exact ⟨_, filt_rows p u, by rw [List.filter_cons_of_pos h]; simp⟩
    · left
      have := filt_rows p u
      rw [List.filter_cons_of_neg h]
      simpa using this
theorem set_lex {u : Nat} (hu : u ≤ 5) {s : List Int} (h : isSet u (sD s) = true) : s ∈ lexOf u := by
  have hr := set_rng h
  have hm := filt_rows (fun m => has s m) u
  have hl := (lex_perm hu).mem_iff.mpr hm
  have h2 := (lex_ok hu _ hl).1
  have e : s = ((List.range u).filter fun m : Nat => has s m).map (fun m : Nat => (m : Int)) := by
    refine set_eq h h2 fun i => ?_
    by_cases hi : 0 ≤ i ∧ i < u
    · obtain ⟨m, rfl⟩ := Int.eq_ofNat_of_zero_le hi.1
      by_cases z : has s (m : Int) = true
      · rw [z]
        symm
        unfold has
        rw [List.any_eq_true]
        exact ⟨m, List.mem_map.mpr ⟨m, List.mem_filter.mpr ⟨List.mem_range.mpr (by omega), z⟩, rfl⟩, beq_self_eq_true _⟩
      · rw [Bool.not_eq_true] at z
        rw [z]
        symm
        unfold has
        rw [List.any_eq_false]
        intro a ha e
        obtain ⟨t, ht, rfl⟩ := List.mem_map.mp ha
        have h3 := (List.mem_filter.mp ht).2
        have h4 : t = m := by have := eq_of_beq e; omega
        subst h4
        exact absurd (show has s (t : Int) = true from h3) (by rw [z]; decide)
    · have z : ∀ t : List Int, (∀ a ∈ t, 0 ≤ a ∧ a < u) → has t i = false := fun t ht => by
        unfold has
        rw [List.any_eq_false]
        intro a ha e
        have := ht a ha
        have := eq_of_beq e
        subst this
        exact hi (by omega)
      rw [z s hr, z _ (set_rng h2)]
  rw [e]
  exact hl
def mixR (P R : Pl) (s : Rat) : List (List Int × Rat) := (P.rows.map fun r => (r.1, r.2 * s)) ++ R.rows.map fun r => (r.1, r.2 * (1 - s))
structure MixOk (L : Nat) (P R : Pl) (s : Rat) : Prop where
  hL : Lk L
  u : P.u = R.u
  f : PlFacts P
  f' : PlFacts R
  q : ∀ r ∈ P.rows, Q L 1 0 r.2
  q' : ∀ r ∈ R.rows, Q L 1 0 r.2
  sq : Q L 1 0 s
  s0 : 0 ≤ s
  s1 : s ≤ 1
section
variable {L : Nat} {P R : Pl} {s : Rat}
theorem MixOk.mem (h : MixOk L P R s) : ∀ r ∈ mixR P R s, r.1 ∈ lexOf P.u ∧ Q L 2 0 r.2 ∧ 0 ≤ r.2 := fun r hr => by
  rcases List.mem_append.mp hr with hr | hr
  · obtain ⟨t, ht, rfl⟩ := List.mem_map.mp hr
    exact ⟨set_lex h.f.u5 (h.f.set t ht), Q.mul h.hL (h.q t ht) h.sq, Rat.mul_nonneg (Rat.le_of_lt (h.f.pos t ht)) h.s0⟩
  · obtain ⟨t, ht, rfl⟩ := List.mem_map.mp hr
    have := h.s1
    exact ⟨by rw [h.u]; exact set_lex h.f'.u5 (h.f'.set t ht), Q.mul h.hL (h.q' t ht) (rest1_q h.hL h.sq h.s0 h.s1), Rat.mul_nonneg (Rat.le_of_lt (h.f'.pos t ht)) (by grind)⟩
end
end PVR
end
section
set_option Elab.async false
set_option linter.all false
set_option maxRecDepth 100000
set_option maxHeartbeats 2000000
namespace PVR
open PV
local macro_rules | `(tactic| sizeOf_list_dec) => `(tactic| first
  | assumption
  | ((with_reducible repeat constructor); done)
  | exact List.mem_cons_self
  | (simp [small]; done)
  | (simp [small]; omega)
  | (simp; omega)
  | omega)
local macro_rules | `(tactic| array_get_dec) => `(tactic| first
  | with_reducible refine wCaF ?_
  | with_reducible refine wAs ?_
  | with_reducible refine wB ?_
  | with_reducible refine wB0 ?_
  | with_reducible refine wL ?_
  | with_reducible refine wL0 ?_
  | with_reducible refine wI ?_
  | with_reducible refine wF ?_
  | with_reducible refine wFi ?_
  | with_reducible refine wRe ?_
  | with_reducible refine wTu ?_
  | with_reducible refine wIx ?_
  | with_reducible refine wCm ?_
  | with_reducible refine wAo ?_
  | with_reducible refine wFo ?_
  | with_reducible refine wEx ?_
  | with_reducible refine wIe ?_
  | with_reducible refine wBc ?_
  | with_reducible refine wLc ?_
  | with_reducible refine wBi ?_
  | with_reducible refine wAn ?_
  | with_reducible refine wOr ?_
  | with_reducible refine wNt ?_
  | with_reducible refine wIsi ?_
  | with_reducible refine wSl ?_
  | with_reducible refine wO ?_
  | with_reducible refine wO0 ?_
  | with_reducible refine wC0 ?_
  | with_reducible refine wC ?_
  | with_reducible refine wIex ?_
  | with_reducible refine wIr1 ?_
  | with_reducible refine wIr2 ?_
  | with_reducible refine wIen ?_
  | with_reducible refine wIzp ?_
  | with_reducible refine wFt ?_
  | with_reducible refine wKb ?_
  | with_reducible refine wLs ?_
  | with_reducible refine wP2 ?_
  | with_reducible refine wP3 ?_
  | with_reducible refine wRa ?_
  | with_reducible refine wTy ?_
  | with_reducible refine wBl ?_
  | with_reducible refine wN ?_
  | with_reducible refine wS ?_
  | with_reducible refine wCh ?_
  | with_reducible refine wNg ?_
  | with_reducible refine wCa ?_
  | with_reducible refine wRv ?_
  | with_reducible refine wL2 ?_
  | with_reducible refine wLirL ?_
  | with_reducible refine wLirT ?_
  | with_reducible refine wMn ?_
  | with_reducible refine wDg ?_
  | with_reducible refine oMn ?_
  | with_reducible refine wDa ?_
  | with_reducible refine oAdd ?_
  | with_reducible refine oSub ?_
  | with_reducible refine oNg ?_
  | with_reducible refine oInt ?_
  | with_reducible refine oSqT ?_
  | with_reducible refine oSqL ?_
  | with_reducible refine oSqR ?_
  | with_reducible refine oLt ?_
  | with_reducible refine oLe ?_
  | with_reducible refine oGt ?_
  | with_reducible refine oGe ?_
  | with_reducible refine oEqI ?_
  | with_reducible refine oNeI ?_
  | with_reducible refine oIs ?_
  | with_reducible refine oIsn ?_
  | with_reducible refine bLenT ?_
  | with_reducible refine bLenL ?_
  | with_reducible refine bLenR ?_
  | with_reducible refine bAbs ?_
  | with_reducible refine bList ?_
  | with_reducible refine bListT ?_
  | with_reducible refine bTup ?_
  | with_reducible refine bTupT ?_
  | with_reducible refine oST1 ?_
  | with_reducible refine oSL1 ?_
  | with_reducible refine oST ?_
  | with_reducible refine oSL ?_
  | with_reducible refine oZTT ?_
  | with_reducible refine oZTL ?_
  | with_reducible refine oZLT ?_
  | with_reducible refine oZLL ?_
  | with_reducible refine oET ?_
  | with_reducible refine oEL ?_
  | with_reducible refine bIntI ?_
  | with_reducible refine bIntB ?_
  | with_reducible refine bAllM ?_
  | with_reducible refine bAnyM ?_
  | with_reducible refine bSumM ?_
  | with_reducible refine bSumT ?_
  | ((with_reducible refine' vPd ?h ?_); (case h => (with_reducible repeat constructor)))
  | ((with_reducible refine' vOin ?h ?_); (case h => (with_reducible repeat constructor)))
  | ((with_reducible refine' vOgD ?h ?_); (case h => (with_reducible repeat constructor)))
  | ((with_reducible refine' vOgx ?h ?_); (case h => (with_reducible repeat constructor)))
  | ((with_reducible refine' vDk ?h ?_); (case h => (with_reducible repeat constructor)))
  | ((with_reducible refine' vDn ?h ?_); (case h => (with_reducible repeat constructor)))
  | ((with_reducible refine' vDs ?h ?_); (case h => (with_reducible repeat constructor)))
  | ((with_reducible refine' vV ?h ?_); (case h => (with_reducible repeat constructor)))
  | ((with_reducible refine' vVo ?h ?_); (case h => (with_reducible repeat constructor)))
  | ((with_reducible refine' vAg ?h ?_); (case h => (with_reducible repeat constructor)))
  | ((with_reducible refine' vAp ?h ?_); (case h => (with_reducible repeat constructor)))
  | ((with_reducible refine' vSi ?h ?_); (case h => (with_reducible repeat constructor)))
  | ((with_reducible refine' vOl ?h ?_); (case h => (with_reducible repeat constructor)))
  | ((with_reducible refine' vOi ?h ?_); (case h => (with_reducible repeat constructor)))
  | ((with_reducible refine' vA ?h ?_); (case h => (with_reducible repeat constructor)))
  | ((with_reducible refine' vSet ?h ?_); (case h => (with_reducible repeat constructor)))
  | ((with_reducible refine' vSetO ?h ?_); (case h => (with_reducible repeat constructor)))
  | ((with_reducible refine' vFz ?h ?_); (case h => (with_reducible repeat constructor)))
  | ((with_reducible refine' vLk ?h ?h2 ?_); (case h => (with_reducible repeat constructor)); (case h2 => (with_reducible repeat constructor)))
  | ((with_reducible refine' wFtN ?h ?_); (case h => rfl))
  | ((with_reducible refine' oT ?h ?_); (case h => rfl))
  | ((with_reducible refine' oI ?h ?_); (case h => rfl))
  | ((with_reducible refine' oXT ?h ?_); (case h => rfl))
  | ((with_reducible refine' oXL ?h ?_); (case h => rfl))
  | ((with_reducible refine' iteT ?h ?_); (case h => first | with_reducible rfl | decide))
  | ((with_reducible refine' iteF ?h ?_); (case h => first | with_reducible rfl | decide))
  | ((with_reducible refine' oCatT ?h ?_); (case h => sizeOf_list_dec))
  | ((with_reducible refine' oCatL ?h ?_); (case h => sizeOf_list_dec))
  | ((with_reducible refine' aSm ?h ?_); (case h => sizeOf_list_dec))
  | ((with_reducible refine' aMem ?h ?_); (case h => sizeOf_list_dec))
  | ((with_reducible refine' aTop ?h ?_); (case h => sizeOf_list_dec)))
local macro_rules | `(tactic| array_mem_dec) => `(tactic| repeat array_get_dec)
local macro_rules | `(tactic| clean_wf) => `(tactic| repeat (first | array_get_dec | refine oNeB ?_ | refine iteT rfl ?_ | refine iteF rfl ?_))
structure Ord (u : Nat) (o : List Nat) : Prop where
  p : o.Perm (List.range u)
def ow (o : List Nat) (i : Nat) : Nat := o.getD i 0
section
variable {u : Nat} {o : List Nat}
theorem Ord.len (h : Ord u o) : o.length = u := by have := h.p.length_eq; simpa using this
theorem Ord.map (h : Ord u o) : o = (List.range u).map (ow o) := by
  refine List.ext_getElem (by simp [h.len]) fun i h1 h2 => ?_
  simp [ow, List.getD_eq_getElem?_getD, h1]
theorem Ord.lt (h : Ord u o) {i : Nat} (hi : i < u) : ow o i < u := by
  have hm : ow o i ∈ o := by
    have := h.len
    unfold ow
    rw [List.getD_eq_getElem?_getD, List.getElem?_eq_getElem (by omega)]
    exact List.getElem_mem _
  have := h.p.mem_iff.mp hm
  exact List.mem_range.mp this
theorem Ord.nd (h : Ord u o) : o.Nodup := h.p.nodup_iff.mpr List.nodup_range
theorem Ord.su (h : Ord u o) (F : Nat → Rat) : PVR.su (List.range u) F = PVR.su (List.range u) fun i => F (ow o i) := by
  have e : PVR.su o F = PVR.su (List.range u) F := sum_perm (h.p.map F)
  rw [← e]
  conv => lhs; rw [h.map]
  unfold PVR.su
  rw [List.map_map]; rfl
end
section
variable {u : Nat} {o : List Nat}
end
theorem rows_nd {P : Pl} (h : isPlan (dPl P) = true) : (P.rows.map (·.1)).Nodup := by
  simp only [isPlan, Bool.and_eq_true] at h
  have h2 := h.2.2.1
  have key : ∀ l : List (List Int × Rat), chain (fun a b => D.ltb (fst a) (fst b)) (l.map rowD) = true → (l.map (·.1)).Pairwise fun a b => lL (a.map D.int) (b.map D.int) = true := by
    intro l
    induction l with
    | nil => intro _; exact List.Pairwise.nil
    | cons a l ih =>
      intro h
      cases l with
      | nil => simp
      | cons b l =>
        have h3 : (D.ltb (sD a.1) (sD b.1) && chain (fun a b => D.ltb (fst a) (fst b)) ((b :: l).map rowD)) = true := h
        rw [Bool.and_eq_true] at h3
        have ih := ih h3.2
        rw [List.map_cons, List.pairwise_cons]
        refine ⟨fun c hc => ?_, ih⟩
        have hab : lL (a.1.map D.int) (b.1.map D.int) = true := h3.1
        rw [List.map_cons] at hc
        have intz : ∀ s : List Int, ∀ x ∈ s.map D.int, Ints x := fun s x hx => by
          obtain ⟨i, _, rfl⟩ := List.mem_map.mp hx
          exact ⟨i, rfl⟩
        rcases List.mem_cons.mp hc with rfl | hc
        · exact hab
        · rw [List.map_cons, List.pairwise_cons] at ih
          exact g_trans good_int (intz _) (intz _) (intz _) hab (ih.1 c hc)
  refine (key P.rows h2).imp fun {a b} hab e => ?_
  subst e
  have := g_irr good_int (xs := a.map D.int) fun x hx => by
    obtain ⟨i, _, rfl⟩ := List.mem_map.mp hx
    exact ⟨i, rfl⟩
  rw [this] at hab
  cases hab
section
variable {P : Pl} {o : List Nat} {M : Nat}
end
end PVR
end
section
set_option Elab.async false
set_option linter.all false
set_option maxRecDepth 100000
set_option maxHeartbeats 2000000
namespace PVR
open PV
local macro_rules | `(tactic| sizeOf_list_dec) => `(tactic| first
  | assumption
  | ((with_reducible repeat constructor); done)
  | exact List.mem_cons_self
  | (simp [small]; done)
  | (simp [small]; omega)
  | (simp; omega)
  | omega)
local macro_rules | `(tactic| array_get_dec) => `(tactic| first
  | with_reducible refine wCaF ?_
  | with_reducible refine wAs ?_
  | with_reducible refine wB ?_
  | with_reducible refine wB0 ?_
  | with_reducible refine wL ?_
  | with_reducible refine wL0 ?_
  | with_reducible refine wI ?_
  | with_reducible refine wF ?_
  | with_reducible refine wFi ?_
  | with_reducible refine wRe ?_
  | with_reducible refine wTu ?_
  | with_reducible refine wIx ?_
  | with_reducible refine wCm ?_
  | with_reducible refine wAo ?_
  | with_reducible refine wFo ?_
  | with_reducible refine wEx ?_
  | with_reducible refine wIe ?_
  | with_reducible refine wBc ?_
  | with_reducible refine wLc ?_
  | with_reducible refine wBi ?_
  | with_reducible refine wAn ?_
  | with_reducible refine wOr ?_
  | with_reducible refine wNt ?_
  | with_reducible refine wIsi ?_
  | with_reducible refine wSl ?_
  | with_reducible refine wO ?_
  | with_reducible refine wO0 ?_
  | with_reducible refine wC0 ?_
  | with_reducible refine wC ?_
  | with_reducible refine wIex ?_
  | with_reducible refine wIr1 ?_
  | with_reducible refine wIr2 ?_
  | with_reducible refine wIen ?_
  | with_reducible refine wIzp ?_
  | with_reducible refine wFt ?_
  | with_reducible refine wKb ?_
  | with_reducible refine wLs ?_
  | with_reducible refine wP2 ?_
  | with_reducible refine wP3 ?_
  | with_reducible refine wRa ?_
  | with_reducible refine wTy ?_
  | with_reducible refine wBl ?_
  | with_reducible refine wN ?_
  | with_reducible refine wS ?_
  | with_reducible refine wCh ?_
  | with_reducible refine wNg ?_
  | with_reducible refine wCa ?_
  | with_reducible refine wRv ?_
  | with_reducible refine wL2 ?_
  | with_reducible refine wLirL ?_
  | with_reducible refine wLirT ?_
  | with_reducible refine wMn ?_
  | with_reducible refine wDg ?_
  | with_reducible refine oMn ?_
  | with_reducible refine wDa ?_
  | with_reducible refine oAdd ?_
  | with_reducible refine oSub ?_
  | with_reducible refine oNg ?_
  | with_reducible refine oInt ?_
  | with_reducible refine oSqT ?_
  | with_reducible refine oSqL ?_
  | with_reducible refine oSqR ?_
  | with_reducible refine oLt ?_
  | with_reducible refine oLe ?_
  | with_reducible refine oGt ?_
  | with_reducible refine oGe ?_
  | with_reducible refine oEqI ?_
  | with_reducible refine oNeI ?_
  | with_reducible refine oIs ?_
  | with_reducible refine oIsn ?_
  | with_reducible refine bLenT ?_
  | with_reducible refine bLenL ?_
  | with_reducible refine bLenR ?_
  | with_reducible refine bAbs ?_
  | with_reducible refine bList ?_
  | with_reducible refine bListT ?_
  | with_reducible refine bTup ?_
  | with_reducible refine bTupT ?_
  | with_reducible refine oST1 ?_
  | with_reducible refine oSL1 ?_
  | with_reducible refine oST ?_
  | with_reducible refine oSL ?_
  | with_reducible refine oZTT ?_
  | with_reducible refine oZTL ?_
  | with_reducible refine oZLT ?_
  | with_reducible refine oZLL ?_
  | with_reducible refine oET ?_
  | with_reducible refine oEL ?_
  | with_reducible refine bIntI ?_
  | with_reducible refine bIntB ?_
  | with_reducible refine bAllM ?_
  | with_reducible refine bAnyM ?_
  | with_reducible refine bSumM ?_
  | with_reducible refine bSumT ?_
  | ((with_reducible refine' vPd ?h ?_); (case h => (with_reducible repeat constructor)))
  | ((with_reducible refine' vOin ?h ?_); (case h => (with_reducible repeat constructor)))
  | ((with_reducible refine' vOgD ?h ?_); (case h => (with_reducible repeat constructor)))
  | ((with_reducible refine' vOgx ?h ?_); (case h => (with_reducible repeat constructor)))
  | ((with_reducible refine' vDk ?h ?_); (case h => (with_reducible repeat constructor)))
  | ((with_reducible refine' vDn ?h ?_); (case h => (with_reducible repeat constructor)))
  | ((with_reducible refine' vDs ?h ?_); (case h => (with_reducible repeat constructor)))
  | ((with_reducible refine' vV ?h ?_); (case h => (with_reducible repeat constructor)))
  | ((with_reducible refine' vVo ?h ?_); (case h => (with_reducible repeat constructor)))
  | ((with_reducible refine' vAg ?h ?_); (case h => (with_reducible repeat constructor)))
  | ((with_reducible refine' vAp ?h ?_); (case h => (with_reducible repeat constructor)))
  | ((with_reducible refine' vSi ?h ?_); (case h => (with_reducible repeat constructor)))
  | ((with_reducible refine' vOl ?h ?_); (case h => (with_reducible repeat constructor)))
  | ((with_reducible refine' vOi ?h ?_); (case h => (with_reducible repeat constructor)))
  | ((with_reducible refine' vA ?h ?_); (case h => (with_reducible repeat constructor)))
  | ((with_reducible refine' vSet ?h ?_); (case h => (with_reducible repeat constructor)))
  | ((with_reducible refine' vSetO ?h ?_); (case h => (with_reducible repeat constructor)))
  | ((with_reducible refine' vFz ?h ?_); (case h => (with_reducible repeat constructor)))
  | ((with_reducible refine' vLk ?h ?h2 ?_); (case h => (with_reducible repeat constructor)); (case h2 => (with_reducible repeat constructor)))
  | ((with_reducible refine' wFtN ?h ?_); (case h => rfl))
  | ((with_reducible refine' oT ?h ?_); (case h => rfl))
  | ((with_reducible refine' oI ?h ?_); (case h => rfl))
  | ((with_reducible refine' oXT ?h ?_); (case h => rfl))
  | ((with_reducible refine' oXL ?h ?_); (case h => rfl))
  | ((with_reducible refine' iteT ?h ?_); (case h => first | with_reducible rfl | decide))
  | ((with_reducible refine' iteF ?h ?_); (case h => first | with_reducible rfl | decide))
  | ((with_reducible refine' oCatT ?h ?_); (case h => sizeOf_list_dec))
  | ((with_reducible refine' oCatL ?h ?_); (case h => sizeOf_list_dec))
  | ((with_reducible refine' aSm ?h ?_); (case h => sizeOf_list_dec))
  | ((with_reducible refine' aMem ?h ?_); (case h => sizeOf_list_dec))
  | ((with_reducible refine' aTop ?h ?_); (case h => sizeOf_list_dec)))
local macro_rules | `(tactic| array_mem_dec) => `(tactic| repeat array_get_dec)
local macro_rules | `(tactic| clean_wf) => `(tactic| repeat (first | array_get_dec | refine oNeB ?_ | refine iteT rfl ?_ | refine iteF rfl ?_))
structure TwoOk (L : Nat) (P R : Pl) : Prop where
  hL : Lk L
  p : ∃ M, PlOk M P
  r : ∃ M, PlOk M R
  q : ∀ r ∈ P.rows, Q L 1 0 r.2
  q' : ∀ r ∈ R.rows, Q L 1 0 r.2
  lp : P.rows.length ≤ 32
  lr : R.rows.length ≤ 32
section
variable {L : Nat} {P R : Pl}
theorem TwoOk.f (h : TwoOk L P R) : PlFacts P := h.p.elim fun _ h => h.facts
theorem TwoOk.f' (h : TwoOk L P R) : PlFacts R := h.r.elim fun _ h => h.facts
end
end PVR
end
section
set_option Elab.async false
set_option linter.all false
set_option maxRecDepth 100000
set_option maxHeartbeats 2000000
namespace PVR
open PV
local macro_rules | `(tactic| sizeOf_list_dec) => `(tactic| first
  | assumption
  | ((with_reducible repeat constructor); done)
  | exact List.mem_cons_self
  | (simp [small]; done)
  | (simp [small]; omega)
  | (simp; omega)
  | omega)
local macro_rules | `(tactic| array_get_dec) => `(tactic| first
  | with_reducible refine wCaF ?_
  | with_reducible refine wAs ?_
  | with_reducible refine wB ?_
  | with_reducible refine wB0 ?_
  | with_reducible refine wL ?_
  | with_reducible refine wL0 ?_
  | with_reducible refine wI ?_
  | with_reducible refine wF ?_
  | with_reducible refine wFi ?_
  | with_reducible refine wRe ?_
  | with_reducible refine wTu ?_
  | with_reducible refine wIx ?_
  | with_reducible refine wCm ?_
  | with_reducible refine wAo ?_
  | with_reducible refine wFo ?_
  | with_reducible refine wEx ?_
  | with_reducible refine wIe ?_
  | with_reducible refine wBc ?_
  | with_reducible refine wLc ?_
  | with_reducible refine wBi ?_
  | with_reducible refine wAn ?_
  | with_reducible refine wOr ?_
  | with_reducible refine wNt ?_
  | with_reducible refine wIsi ?_
  | with_reducible refine wSl ?_
  | with_reducible refine wO ?_
  | with_reducible refine wO0 ?_
  | with_reducible refine wC0 ?_
  | with_reducible refine wC ?_
  | with_reducible refine wIex ?_
  | with_reducible refine wIr1 ?_
  | with_reducible refine wIr2 ?_
  | with_reducible refine wIen ?_
  | with_reducible refine wIzp ?_
  | with_reducible refine wFt ?_
  | with_reducible refine wKb ?_
  | with_reducible refine wLs ?_
  | with_reducible refine wP2 ?_
  | with_reducible refine wP3 ?_
  | with_reducible refine wRa ?_
  | with_reducible refine wTy ?_
  | with_reducible refine wBl ?_
  | with_reducible refine wN ?_
  | with_reducible refine wS ?_
  | with_reducible refine wCh ?_
  | with_reducible refine wNg ?_
  | with_reducible refine wCa ?_
  | with_reducible refine wRv ?_
  | with_reducible refine wL2 ?_
  | with_reducible refine wLirL ?_
  | with_reducible refine wLirT ?_
  | with_reducible refine wJn ?_
  | with_reducible refine wMn ?_
  | with_reducible refine wDg ?_
  | with_reducible refine oMn ?_
  | with_reducible refine wDa ?_
  | with_reducible refine oAdd ?_
  | with_reducible refine oSub ?_
  | with_reducible refine oNg ?_
  | with_reducible refine oInt ?_
  | with_reducible refine oSqT ?_
  | with_reducible refine oSqL ?_
  | with_reducible refine oSqR ?_
  | with_reducible refine oLt ?_
  | with_reducible refine oLe ?_
  | with_reducible refine oGt ?_
  | with_reducible refine oGe ?_
  | with_reducible refine oEqI ?_
  | with_reducible refine oNeI ?_
  | with_reducible refine oIs ?_
  | with_reducible refine oIsn ?_
  | with_reducible refine bLenT ?_
  | with_reducible refine bLenL ?_
  | with_reducible refine bLenR ?_
  | with_reducible refine bAbs ?_
  | with_reducible refine bList ?_
  | with_reducible refine bListT ?_
  | with_reducible refine bTup ?_
  | with_reducible refine bTupT ?_
  | with_reducible refine oST1 ?_
  | with_reducible refine oSL1 ?_
  | with_reducible refine oST ?_
  | with_reducible refine oSL ?_
  | with_reducible refine oZTT ?_
  | with_reducible refine oZTL ?_
  | with_reducible refine oZLT ?_
  | with_reducible refine oZLL ?_
  | with_reducible refine oET ?_
  | with_reducible refine oEL ?_
  | with_reducible refine bIntI ?_
  | with_reducible refine bIntB ?_
  | with_reducible refine bAllM ?_
  | with_reducible refine bAnyM ?_
  | with_reducible refine bSumM ?_
  | with_reducible refine bSumT ?_
  | ((with_reducible refine' vPd ?h ?_); (case h => (with_reducible repeat constructor)))
  | ((with_reducible refine' vOin ?h ?_); (case h => (with_reducible repeat constructor)))
  | ((with_reducible refine' vOgD ?h ?_); (case h => (with_reducible repeat constructor)))
  | ((with_reducible refine' vOgx ?h ?_); (case h => (with_reducible repeat constructor)))
  | ((with_reducible refine' vDk ?h ?_); (case h => (with_reducible repeat constructor)))
  | ((with_reducible refine' vDn ?h ?_); (case h => (with_reducible repeat constructor)))
  | ((with_reducible refine' vDs ?h ?_); (case h => (with_reducible repeat constructor)))
  | ((with_reducible refine' vV ?h ?_); (case h => (with_reducible repeat constructor)))
  | ((with_reducible refine' vVo ?h ?_); (case h => (with_reducible repeat constructor)))
  | ((with_reducible refine' vAg ?h ?_); (case h => (with_reducible repeat constructor)))
  | ((with_reducible refine' vAp ?h ?_); (case h => (with_reducible repeat constructor)))
  | ((with_reducible refine' vSi ?h ?_); (case h => (with_reducible repeat constructor)))
  | ((with_reducible refine' vOl ?h ?_); (case h => (with_reducible repeat constructor)))
  | ((with_reducible refine' vOi ?h ?_); (case h => (with_reducible repeat constructor)))
  | ((with_reducible refine' vA ?h ?_); (case h => (with_reducible repeat constructor)))
  | ((with_reducible refine' vSet ?h ?_); (case h => (with_reducible repeat constructor)))
  | ((with_reducible refine' vSetO ?h ?_); (case h => (with_reducible repeat constructor)))
  | ((with_reducible refine' vFz ?h ?_); (case h => (with_reducible repeat constructor)))
  | ((with_reducible refine' vLk ?h ?h2 ?_); (case h => (with_reducible repeat constructor)); (case h2 => (with_reducible repeat constructor)))
  | ((with_reducible refine' wFtN ?h ?_); (case h => rfl))
  | ((with_reducible refine' oT ?h ?_); (case h => rfl))
  | ((with_reducible refine' oI ?h ?_); (case h => rfl))
  | ((with_reducible refine' oXT ?h ?_); (case h => rfl))
  | ((with_reducible refine' oXL ?h ?_); (case h => rfl))
  | ((with_reducible refine' iteT ?h ?_); (case h => first | with_reducible rfl | decide))
  | ((with_reducible refine' iteF ?h ?_); (case h => first | with_reducible rfl | decide))
  | ((with_reducible refine' oCatT ?h ?_); (case h => sizeOf_list_dec))
  | ((with_reducible refine' oCatL ?h ?_); (case h => sizeOf_list_dec))
  | ((with_reducible refine' aSm ?h ?_); (case h => sizeOf_list_dec))
  | ((with_reducible refine' aMem ?h ?_); (case h => sizeOf_list_dec))
  | ((with_reducible refine' aTop ?h ?_); (case h => sizeOf_list_dec))
  | ((with_reducible refine' callW_v t_law_simple_or ?h1 ?h2 ?_); (case h1 => rfl); (case h2 => (with_reducible repeat constructor)))
  | ((with_reducible refine' callW_v t_law_samples_or ?h1 ?h2 ?_); (case h1 => rfl); (case h2 => (with_reducible repeat constructor)))
  | ((with_reducible refine' callW_v t_law_chance_or ?h1 ?h2 ?_); (case h1 => rfl); (case h2 => (with_reducible repeat constructor)))
  | ((with_reducible refine oNeR ?h ?_); (case h => decide +kernel)))
local macro_rules | `(tactic| array_mem_dec) => `(tactic| repeat array_get_dec)
local macro_rules | `(tactic| clean_wf) => `(tactic| repeat (first | array_get_dec | refine oNeB ?_ | refine iteT rfl ?_ | refine iteF rfl ?_))
abbrev kvP (P : Pl) : List (List Int × D) := P.rows.map fun r => (r.1, dFr r.2)
theorem ints_map : ∀ s : List Int, allInts (s.map D.int) = some s
  | [] => rfl
  | a :: s => by simp [allInts, ints_map s]
theorem dpairs_rows : ∀ rows : List (List Int × Rat), dpairs (rows.map rowD) = some (rows.map fun r => (r.1, dFr r.2))
  | [] => rfl
  | r :: rows => by
    show (match dkey (.tup (r.1.map D.int)), dpairs (rows.map rowD) with
      | some s, some ps => some ((s, dFr r.2) :: ps)
      | _, _ => none) = _
    rw [dpairs_rows rows, show dkey (.tup (r.1.map D.int)) = some r.1 from ints_map r.1]
    rfl
theorem dfrom_nd : ∀ (ps acc : List (List Int × D)), ((acc ++ ps).map (·.1)).Nodup → ps.foldl (fun kvs p => dput kvs p.1 p.2) acc = acc ++ ps
  | [], acc, _ => by simp
  | p :: ps, acc, h => by
    rw [List.foldl_cons]
    have hn : (acc.any fun kv => decide (kv.1 = p.1)) = false := by
      rw [List.any_eq_false]
      intro kv hkv e
      have e := of_decide_eq_true e
      rw [List.map_append, List.map_cons] at h
      exact (List.nodup_append.mp h).2.2 kv.1 (List.mem_map.mpr ⟨kv, hkv, rfl⟩) p.1 List.mem_cons_self e
    have e : dput acc p.1 p.2 = acc ++ [p] := by
      unfold dput
      rw [hn]
      rfl
    rw [e, dfrom_nd ps (acc ++ [p]) (by rw [List.append_assoc]; exact h), List.append_assoc]
    rfl
theorem dfrom_P {P : Pl} (h : (P.rows.map (·.1)).Nodup) : dfrom (kvP P) = kvP P := by
  unfold dfrom
  rw [dfrom_nd _ [] (by rw [List.nil_append, List.map_map]; exact h)]
  rfl
theorem oD {L : Nat} {P : Pl} {k : List (List Int × D) → Prop} (g : PlG L P) (hne : P.rows ≠ []) (hk : k (kvP P)) : opD (.tup (P.rows.map rowD)) k := by
  unfold opD
  show (match dpairs (P.rows.map rowD) with
    | some ps => ps ≠ [] ∧ small (P.rows.map rowD).length ∧ k (dfrom ps)
    | none => False)
  rw [dpairs_rows]
  have hl := g.f.len
  refine ⟨fun e => hne (List.map_eq_nil_iff.mp e), by unfold small; rw [List.length_map]; omega, ?_⟩
  show k (dfrom (kvP P))
  rw [dfrom_P (rows_nd g.plan)]
  exact hk
def chD (P : Pl) (s : List Int) : D := (dvl (kvP P) s).getD (.tup [.int 0, .int 1])
theorem sp_chance {d L : Nat} {P : Pl} {s : List Int} {n : Nat} {k : KD} {x : KX} (g : PlG L P) (hne : P.rows ≠ []) (hs : s ∈ lexOf P.u) (hk : k (chD P s) n) : callW T (d + 7) 25 [dPl P, sD s] n k x := by
  have hlx := lex_ok g.f.u5 s hs
  refine callW_v t_chance rfl (by sizeOf_list_dec) ?_
  array_mem_dec
  refine sp_good g ?_
  array_mem_dec
  refine sp_isSet hlx.2 ?_
  rw [hlx.1]
  array_mem_dec
  refine oD g hne ?_
  array_mem_dec
  exact ⟨s, ints_map s, hk⟩
theorem sp_samples {d L : Nat} {P : Pl} {n : Nat} {k : KD} {x : KX} (g : PlG L P) (hk : k (.lst (P.rows.map fun r => sD r.1)) n) : callW T (d + 7) 24 [dPl P] n k x := by
  have hl := g.f.len
  refine callW_v t_samples rfl (by sizeOf_list_dec) ?_
  array_mem_dec
  refine sp_good g ?_
  array_mem_dec
  refine lcM (res := fun r => sD r.1) (by omega) (by sizeOf_list_dec) (fun a ha => by sizeOf_list_dec) (fun r hr kk hkk => ?_) ?_
  · array_mem_dec
    exact hkk
  array_mem_dec
  exact hk
end PVR
end
section
set_option Elab.async false
set_option linter.all false
set_option maxRecDepth 100000
set_option maxHeartbeats 2000000
namespace PVR
open PV
local macro_rules | `(tactic| sizeOf_list_dec) => `(tactic| first
  | assumption
  | ((with_reducible repeat constructor); done)
  | exact List.mem_cons_self
  | (simp [small]; done)
  | (simp [small]; omega)
  | (simp; omega)
  | omega)
local macro_rules | `(tactic| array_get_dec) => `(tactic| first
  | with_reducible refine wCaF ?_
  | with_reducible refine wAs ?_
  | with_reducible refine wB ?_
  | with_reducible refine wB0 ?_
  | with_reducible refine wL ?_
  | with_reducible refine wL0 ?_
  | with_reducible refine wI ?_
  | with_reducible refine wF ?_
  | with_reducible refine wFi ?_
  | with_reducible refine wRe ?_
  | with_reducible refine wTu ?_
  | with_reducible refine wIx ?_
  | with_reducible refine wCm ?_
  | with_reducible refine wAo ?_
  | with_reducible refine wFo ?_
  | with_reducible refine wEx ?_
  | with_reducible refine wIe ?_
  | with_reducible refine wBc ?_
  | with_reducible refine wLc ?_
  | with_reducible refine wBi ?_
  | with_reducible refine wAn ?_
  | with_reducible refine wOr ?_
  | with_reducible refine wNt ?_
  | with_reducible refine wIsi ?_
  | with_reducible refine wSl ?_
  | with_reducible refine wO ?_
  | with_reducible refine wO0 ?_
  | with_reducible refine wC0 ?_
  | with_reducible refine wC ?_
  | with_reducible refine wIex ?_
  | with_reducible refine wIr1 ?_
  | with_reducible refine wIr2 ?_
  | with_reducible refine wIen ?_
  | with_reducible refine wIzp ?_
  | with_reducible refine wFt ?_
  | with_reducible refine wKb ?_
  | with_reducible refine wLs ?_
  | with_reducible refine wP2 ?_
  | with_reducible refine wP3 ?_
  | with_reducible refine wRa ?_
  | with_reducible refine wTy ?_
  | with_reducible refine wBl ?_
  | with_reducible refine wN ?_
  | with_reducible refine wS ?_
  | with_reducible refine wCh ?_
  | with_reducible refine wNg ?_
  | with_reducible refine wCa ?_
  | with_reducible refine wRv ?_
  | with_reducible refine wL2 ?_
  | with_reducible refine wLirL ?_
  | with_reducible refine wLirT ?_
  | with_reducible refine wJn ?_
  | with_reducible refine wMn ?_
  | with_reducible refine wDg ?_
  | with_reducible refine oMn ?_
  | with_reducible refine wDa ?_
  | with_reducible refine oAdd ?_
  | with_reducible refine oSub ?_
  | with_reducible refine oNg ?_
  | with_reducible refine oInt ?_
  | with_reducible refine oSqT ?_
  | with_reducible refine oSqL ?_
  | with_reducible refine oSqR ?_
  | with_reducible refine oLt ?_
  | with_reducible refine oLe ?_
  | with_reducible refine oGt ?_
  | with_reducible refine oGe ?_
  | with_reducible refine oEqI ?_
  | with_reducible refine oNeI ?_
  | with_reducible refine oIs ?_
  | with_reducible refine oIsn ?_
  | with_reducible refine bLenT ?_
  | with_reducible refine bLenL ?_
  | with_reducible refine bLenR ?_
  | with_reducible refine bAbs ?_
  | with_reducible refine bList ?_
  | with_reducible refine bListT ?_
  | with_reducible refine bTup ?_
  | with_reducible refine bTupT ?_
  | with_reducible refine oST1 ?_
  | with_reducible refine oSL1 ?_
  | with_reducible refine oST ?_
  | with_reducible refine oSL ?_
  | with_reducible refine oZTT ?_
  | with_reducible refine oZTL ?_
  | with_reducible refine oZLT ?_
  | with_reducible refine oZLL ?_
  | with_reducible refine oET ?_
  | with_reducible refine oEL ?_
  | with_reducible refine bIntI ?_
  | with_reducible refine bIntB ?_
  | with_reducible refine bAllM ?_
  | with_reducible refine bAnyM ?_
  | with_reducible refine bSumM ?_
  | with_reducible refine bSumT ?_
  | ((with_reducible refine' vPd ?h ?_); (case h => (with_reducible repeat constructor)))
  | ((with_reducible refine' vOin ?h ?_); (case h => (with_reducible repeat constructor)))
  | ((with_reducible refine' vOgD ?h ?_); (case h => (with_reducible repeat constructor)))
  | ((with_reducible refine' vOgx ?h ?_); (case h => (with_reducible repeat constructor)))
  | ((with_reducible refine' vDk ?h ?_); (case h => (with_reducible repeat constructor)))
  | ((with_reducible refine' vDn ?h ?_); (case h => (with_reducible repeat constructor)))
  | ((with_reducible refine' vDs ?h ?_); (case h => (with_reducible repeat constructor)))
  | ((with_reducible refine' vV ?h ?_); (case h => (with_reducible repeat constructor)))
  | ((with_reducible refine' vVo ?h ?_); (case h => (with_reducible repeat constructor)))
  | ((with_reducible refine' vAg ?h ?_); (case h => (with_reducible repeat constructor)))
  | ((with_reducible refine' vAp ?h ?_); (case h => (with_reducible repeat constructor)))
  | ((with_reducible refine' vSi ?h ?_); (case h => (with_reducible repeat constructor)))
  | ((with_reducible refine' vOl ?h ?_); (case h => (with_reducible repeat constructor)))
  | ((with_reducible refine' vOi ?h ?_); (case h => (with_reducible repeat constructor)))
  | ((with_reducible refine' vA ?h ?_); (case h => (with_reducible repeat constructor)))
  | ((with_reducible refine' vSet ?h ?_); (case h => (with_reducible repeat constructor)))
  | ((with_reducible refine' vSetO ?h ?_); (case h => (with_reducible repeat constructor)))
  | ((with_reducible refine' vFz ?h ?_); (case h => (with_reducible repeat constructor)))
  | ((with_reducible refine' vLk ?h ?h2 ?_); (case h => (with_reducible repeat constructor)); (case h2 => (with_reducible repeat constructor)))
  | ((with_reducible refine' wFtN ?h ?_); (case h => rfl))
  | ((with_reducible refine' oT ?h ?_); (case h => rfl))
  | ((with_reducible refine' oI ?h ?_); (case h => rfl))
  | ((with_reducible refine' oXT ?h ?_); (case h => rfl))
  | ((with_reducible refine' oXL ?h ?_); (case h => rfl))
  | ((with_reducible refine' iteT ?h ?_); (case h => first | with_reducible rfl | decide))
  | ((with_reducible refine' iteF ?h ?_); (case h => first | with_reducible rfl | decide))
  | ((with_reducible refine' oCatT ?h ?_); (case h => sizeOf_list_dec))
  | ((with_reducible refine' oCatL ?h ?_); (case h => sizeOf_list_dec))
  | ((with_reducible refine' aSm ?h ?_); (case h => sizeOf_list_dec))
  | ((with_reducible refine' aMem ?h ?_); (case h => sizeOf_list_dec))
  | ((with_reducible refine' aTop ?h ?_); (case h => sizeOf_list_dec)))
local macro_rules | `(tactic| array_mem_dec) => `(tactic| repeat array_get_dec)
local macro_rules | `(tactic| clean_wf) => `(tactic| repeat (first | array_get_dec | refine oNeB ?_ | refine iteT rfl ?_ | refine iteF rfl ?_))
-- names: [(0, '_law_script'), (1, '_law_state'), (2, '_law_k'), (3, '_law_plan_here'), (4, '_law_values_here'), (5, '_law_weights_here')]
section
variable {L : Nat} {P : Pl} {w : Int → Rat} {vs : List Int}
theorem mean_lin (f : PlFacts P) : mean P (linR w vs) = su (List.range P.u) fun i : Nat => w i * (va vs i : Rat) * jn P i i := mean_oneu f fun a => w a * (va vs a : Rat)
theorem due_eq (f : PlFacts P) (hv : vs.length = P.u) : mean P (linR w vs) - (vs.sum : Rat) = su (List.range P.u) fun i : Nat => facT P w i * (va vs i : Rat) := by
  rw [mean_lin f, sum_va hv]
  have key : ∀ l : List Nat, su l (fun i : Nat => w i * (va vs i : Rat) * jn P i i) - su l (fun i : Nat => (va vs i : Rat)) = su l fun i : Nat => facT P w i * (va vs i : Rat) := by
    intro l
    induction l with
    | nil => rw [su_nil, su_nil, su_nil]; decide +kernel
    | cons a l ih =>
      rw [su_cons, su_cons, su_cons, ← ih]
      unfold facT
      grind
  exact key _
theorem mean_sq (f : PlFacts P) (e : List Int × Rat → Rat) (c : Rat) : mean P (fun r => (e r - c) * (e r - c)) = vari P e + (mean P e - c) * (mean P e - c) := by
  have h1 : su P.rows (fun r => r.2) = 1 := f.one
  have h2 : su P.rows (fun r => r.2 * e r) = mean P e := rfl
  rw [vari_eq f]
  have h4 : su P.rows (fun r => r.2 * ((e r - c) * (e r - c))) = su P.rows fun r => r.2 * (e r * e r) + ((-2 * c) * (r.2 * e r) + (c * c) * r.2) := su_congr fun r _ => by grind
  show su P.rows (fun r => r.2 * ((e r - c) * (e r - c))) = _
  rw [h4, su_add, su_add, su_mul, su_mul, h1, h2]
  grind
theorem sq_less (f : PlFacts P) (hv : vs.length = P.u) : ¬ mean P (lsqR w vs) < (su (List.range P.u) fun i : Nat => facT P w i * (va vs i : Rat)) * (su (List.range P.u) fun i : Nat => facT P w i * (va vs i : Rat)) := by
  rw [← due_eq f hv]
  have h := mean_sq f (linR w vs) (vs.sum : Rat)
  have h2 := vari_nonneg f (linR w vs)
  show ¬ mean P (fun r => (linR w vs r - (vs.sum : Rat)) * (linR w vs r - (vs.sum : Rat))) < _
  rw [h]
  intro h3
  grind
def ri (P : Pl) (a : Int) : Rat := if 0 ≤ a ∧ a < P.u then (jn P a a)⁻¹ else 0
theorem ri_at {i : Nat} (h : i < P.u) : ri P i = (jn P i i)⁻¹ := by
  unfold ri
  rw [if_pos (by omega)]
theorem inv_ri : invD P = dCh P.u (ri P) := List.map_congr_left fun i hi => by rw [ri_at (List.mem_range.mp hi)]
theorem nz_of (h : anyZ P = false) : ∀ i : Nat, i < P.u → jn P i i ≠ 0 := fun i hi e => by
  have := List.any_eq_false.mp h i (List.mem_range.mpr hi)
  rw [num_zero, e] at this
  simp at this
theorem fac_ri (h : anyZ P = false) {i : Nat} (hi : i < P.u) : facT P (ri P) i = 0 := by
  unfold facT
  rw [ri_at hi, Rat.inv_mul_cancel _ (nz_of h i hi)]
  decide +kernel
theorem lin_ri (f : PlFacts P) (r : List Int × Rat) (hr : r ∈ P.rows) : linR (ri P) vs r = estR P vs r := by
  show (r.1.map _).sum = (r.1.map _).sum
  congr 1
  refine List.map_congr_left fun a ha => ?_
  have := f.rng r hr a ha
  unfold ri
  rw [if_pos (by omega), Rat.div_def, Rat.mul_comm]
theorem sq_ri (f : PlFacts P) (hv : vs.length = P.u) (h : anyZ P = false) : mean P (lsqR (ri P) vs) = vari P (estR P vs) := by
  have e0 : nevI P = [] := by
    unfold nevI
    rw [List.filter_eq_nil_iff]
    intro i hi
    simpa using nz_of h i (List.mem_range.mp hi)
  have e1 : mean P (estR P vs) = (vs.sum : Rat) := by
    rw [mean_est f hv]
    unfold lost
    rw [e0]
    simp
  unfold vari
  rw [e1]
  unfold mean
  congr 1
  refine List.map_congr_left fun r hr => ?_
  show r.2 * ((linR (ri P) vs r - (vs.sum : Rat)) * (linR (ri P) vs r - (vs.sum : Rat))) = _
  rw [lin_ri f r hr]
def fitB (P : Pl) (w : Int → Rat) : Bool := ((List.range P.u).filter fun i : Nat => !decide (facT P w i = 0)).isEmpty
theorem fit_none (h : anyZ P = true) : fitB P w = false := by
  obtain ⟨i, hi, e⟩ := List.any_eq_true.mp h
  rw [num_zero, decide_eq_true_eq] at e
  unfold fitB
  rw [List.isEmpty_eq_false_iff]
  intro z
  have := List.filter_eq_nil_iff.mp z i hi
  apply this
  unfold facT
  rw [e, Rat.mul_zero]
  decide +kernel
theorem fit_some (h : anyZ P = false) : fitB P w = decide (P.u = P.u ∧ ∀ i : Nat, i < P.u → w i = ri P i) := by
  unfold fitB
  rw [Bool.eq_iff_iff, decide_eq_true_eq, List.isEmpty_iff, List.filter_eq_nil_iff]
  constructor
  · intro h2
    refine ⟨rfl, fun i hi => ?_⟩
    have := h2 i (List.mem_range.mpr hi)
    have h3 : facT P w i = 0 := by simpa using this
    unfold facT at h3
    have hz := nz_of h i hi
    have i1 : jn P i i * (jn P i i)⁻¹ = 1 := Rat.mul_inv_cancel _ hz
    rw [ri_at hi]
    have : w i * jn P i i = 1 := by grind
    have : w i * jn P i i * (jn P i i)⁻¹ = (jn P i i)⁻¹ := by rw [this, Rat.one_mul]
    rw [← this, Rat.mul_assoc, i1, Rat.mul_one]
  · intro h2 i hi
    have hi := List.mem_range.mp hi
    have e : facT P w i = facT P (ri P) i := by unfold facT; rw [h2.2 i hi]
    rw [e, fac_ri h hi]
    decide
theorem unb_z (f : PlFacts P) : unb P = !anyZ P := by
  unfold unb anyZ
  rw [Bool.eq_iff_iff, List.all_eq_true, Bool.not_eq_true', List.any_eq_false]
  constructor
  · intro h i hi
    have := of_decide_eq_true (h i hi)
    rw [num_zero, decide_eq_true_eq]
    exact fun e => by rw [e] at this; exact Rat.lt_irrefl this
  · intro h i hi
    have := h i hi
    rw [num_zero, decide_eq_true_eq] at this
    exact decide_eq_true (Rat.lt_of_le_of_ne (f.jn0 i i) (Ne.symm this))
theorem ch_at (g : PlG L P) {r : List Int × Rat} (hr : r ∈ P.rows) : chD P r.1 = dFr r.2 := by
  have hn := rows_nd g.plan
  unfold chD dvl kvP
  have key : ∀ l : List (List Int × Rat), (l.map (·.1)).Nodup → r ∈ l → (((l.map fun r => (r.1, dFr r.2)).find? fun kv => decide (kv.1 = r.1)).map (·.2)) = some (dFr r.2) := by
    intro l
    induction l with
    | nil => intro _ h; cases h
    | cons a l ih =>
      intro hn h
      rw [List.map_cons, List.find?_cons]
      rw [List.map_cons, List.nodup_cons] at hn
      by_cases e : a.1 = r.1
      · have ea : a = r := by
          rcases List.mem_cons.mp h with h | h
          · exact h.symm
          · exact absurd (List.mem_map.mpr ⟨r, h, e.symm⟩) hn.1
        rw [ea]
        simp
      · have hl : r ∈ l := by
          rcases List.mem_cons.mp h with h | h
          · exact absurd (by rw [h]) e
          · exact h
        simp only [decide_eq_false e]
        exact ih hn.2 hl
  rw [key P.rows hn hr]
  rfl
end
theorem wts_ri {L M : Nat} {P : Pl} (g : PlG L P) (h : PlOk M P) (hM : M ≤ 20) (hz : anyZ P = false) : Wts L P.u (ri P) := by
  have key : ∀ i : Nat, i < P.u → Q L 1 9 (ri P i) ∧ sm (dFr (ri P i)) = true := fun i hi => by
    rw [ri_at hi]
    refine ⟨g.inv i i hi hi (nz_of hz i hi), ?_⟩
    have hd := Nat.le_trans (Nat.le_of_dvd h.hM (jn_den h i i)) hM
    have h0 := g.f.jn0 i i
    have h1 := g.f.jn1 i i
    have hnz := nz_of hz i hi
    generalize jn P i i = q at *
    have n0 : 0 ≤ q.num := Rat.num_nonneg.mpr h0
    have n1 : q.num ≤ q.den := by
      rw [Rat.le_iff] at h1
      simpa using h1
    have hden : q⁻¹.den = q.num.natAbs := by
      rw [Rat.den_inv]
      have hn : q.num ≠ 0 := fun e => hnz (Rat.num_eq_zero.mp e)
      rw [if_neg hn]
    have hnum : q⁻¹.num = q.den := by
      rw [Rat.num_inv]
      have hn : 0 < q.num := (show q.num ≠ 0 from fun e => hnz (Rat.num_eq_zero.mp e)) |> fun hh => by omega
      rw [Int.sign_eq_one_of_pos hn, Int.one_mul]
    simp only [sm, sms, Bool.and_true, Bool.and_eq_true, decide_eq_true_eq]
    rw [hden, hnum]
    refine ⟨by simp, ?_, ?_⟩
    · omega
    · omega
  refine ⟨fun a => ?_, fun a => ?_⟩
  · by_cases ha : 0 ≤ a ∧ a < P.u
    · have := (key a.toNat (by omega)).1
      rwa [Int.toNat_of_nonneg ha.1] at this
    · unfold ri
      rw [if_neg ha]
      exact Q.mono zero_w.1 (by omega) (by omega)
  · by_cases ha : 0 ≤ a ∧ a < P.u
    · have := (key a.toNat (by omega)).2
      rwa [Int.toNat_of_nonneg ha.1] at this
    · unfold ri
      rw [if_neg ha]
      rfl

theorem okq_fl {α : Type} (l : List α) (f : α → Rat) : D.okq 60 (.lst (l.map fun a => dFr (f a))) = true := by
  rw [show (l.map fun a => dFr (f a)) = (l.map f).map dFr by rw [List.map_map]; rfl]
  exact okq_frs 58 _
theorem eqv_nil {α : Type} (l : List α) (f : α → D) : D.eqv (.lst (l.map f)) (.lst []) = l.isEmpty := by cases l <;> rfl
theorem sp_holds18 {d L M : Nat} {P : Pl} {w : Int → Rat} {vs : List Int} {n : Nat} {k : KD} {x : KX} (g : PlG L P) (hP : PlOk M P) (hM : M ≤ 20) (hne : P.rows ≠ []) (hw : Wts L P.u w) (hv : Vals P.u vs) (hk : k (.bl true) n) : callW T (d + 9) 198 [dPl P, dWts P.u w, dVs vs] n k x := by
  have hu := g.f.u5
  have hl := g.f.len
  have z : ∀ {k b : Nat} {q : Rat}, Q L k b q → 256 * k + b ≤ 3800 → Sz q := fun h h2 => Q.sz g.hL h (by omega)
  refine callW_v t_law_holds4 rfl (by sizeOf_list_dec) ?_
  array_mem_dec
  refine sp_samples g ?_
  array_mem_dec
  rw [show (P.rows.map fun r => sD r.1) = P.rows.map fun r => sD r.1 from rfl]
  refine lcM (res := fun r => dFr (r.2 * linR w vs r)) (by omega) (by sizeOf_list_dec) (fun r hr => by sizeOf_list_dec) (fun r hr kk hkk => ?_) ?_
  · array_mem_dec
    refine sp_chance g hne (set_lex hu (g.f.set r hr)) ?_
    rw [ch_at g hr]
    array_mem_dec
    refine sp_linear g hw hv hr ?_
    array_mem_dec
    exact sp_ltimes (z (g.row r hr) (by omega)) (z (linR_q g hw hv r hr) (by omega)) hkk
  array_mem_dec
  have hq1 : ∀ r ∈ P.rows, Q L 2 19 (r.2 * linR w vs r) := fun r hr => Q.mono (Q.mul g.hL (g.row r hr) (linR_q g hw hv r hr)) (by omega) (by omega)
  refine sp_ltotalM (f := fun r => r.2 * linR w vs r) g.hL hq1 (by omega) (by omega) ?_
  rw [show (P.rows.map fun r => r.2 * linR w vs r).sum = mean P (linR w vs) from rfl]
  have hqm := mean_q g (linR_q g hw hv)
  array_mem_dec
  refine sp_factors g hw ?_
  array_mem_dec
  have ez : zipD (facD P w) (vs.map D.int) = (List.range P.u).map fun i : Nat => D.tup [dFr (facT P w i), .int (va vs i)] := by
    conv => lhs; rw [vs_range hv.len]
    rw [List.map_map]
    exact zipS _ _ _
  have hqd : ∀ i ∈ List.range P.u, Q L 2 18 (facT P w i * (va vs i : Rat)) := fun i _ => Q.mono (Q.mul g.hL (Q.sub g.hL (wj_q g hw i) q1) (va_q hv i)) (by omega) (by omega)
  rw [ez]
  refine lcM (res := fun i : Nat => dFr (facT P w i * (va vs i : Rat))) (by simp; omega) (by sizeOf_list_dec) (fun i hi => by sizeOf_list_dec) (fun i hi kk hkk => ?_) ?_
  · array_mem_dec
    rw [whole_data]
    exact sp_ltimes (z (Q.sub g.hL (wj_q g hw i) q1) (by omega)) (z (va_q hv i) (by omega)) hkk
  array_mem_dec
  refine sp_ltotalM (f := fun i : Nat => facT P w i * (va vs i : Rat)) g.hL hqd (by omega) (by simp; omega) ?_
  have hdq : Q L 2 21 (su (List.range P.u) fun i : Nat => facT P w i * (va vs i : Rat)) := Q.sum 3 g.hL (fun q hq => by
    obtain ⟨i, hi, rfl⟩ := List.mem_map.mp hq
    exact hqd i hi) (by rw [List.length_map, List.length_range]; omega)
  rw [show ((List.range P.u).map fun i : Nat => facT P w i * (va vs i : Rat)).sum = su (List.range P.u) fun i : Nat => facT P w i * (va vs i : Rat) from rfl]
  array_mem_dec
  rw [whole_data]
  rw [List.map_id']
  refine sp_lminus (z hqm (by omega)) (z (sum_q hv g.f.u5) (by omega)) ?_
  array_mem_dec
  refine oNeF ?_
  rw [due_eq g.f hv.len, decide_eq_true rfl]
  array_mem_dec
  refine sp_square_error g hw hv ?_
  array_mem_dec
  refine sp_ltimes (z hdq (by omega)) (z hdq (by omega)) ?_
  array_mem_dec
  refine sp_less (z (mean_q g (lsq_q g hw hv)) (by omega)) (z (Q.mul g.hL hdq hdq) (by omega)) ?_
  rw [decide_eq_false (sq_less g.f hv.len)]
  array_mem_dec
  refine sp_right_weights g ?_
  array_mem_dec
  refine sp_factors g hw ?_
  array_mem_dec
  have fcase : ∀ (ww : Int → Rat) (i : Nat), D.tup [D.int 0, D.int 1] = dFr 0 := fun _ _ => rfl
  refine lcT (p := fun i : Nat => !decide (facT P w i = 0)) (res := fun i : Nat => dFr (facT P w i)) (by simp; omega) (by sizeOf_list_dec) (fun i hi => by sizeOf_list_dec) (fun i hi kk hkk => ?_) (fun i hi hp kk hkk => ?_) ?_
  · array_mem_dec
    rw [zero_data]
    refine oNeF ?_
    exact hkk
  · array_mem_dec
    exact hkk
  array_mem_dec
  refine ⟨okq_fl _ _, rfl, ?_⟩
  rw [eqv_nil, show ((List.range P.u).filter fun i : Nat => !decide (facT P w i = 0)).isEmpty = fitB P w from rfl]
  cases hz : anyZ P with
  | true =>
    have er : rigD P = .non := by unfold rigD; rw [hz]; rfl
    rw [er]
    array_mem_dec
    refine ⟨okq_ch _ _, rfl, ?_⟩
    rw [show D.eqv (dWts P.u w) .non = false from rfl, fit_none hz]
    array_mem_dec
    refine oNeB ?_
    array_mem_dec
    refine sp_is_unbiased g ?_
    rw [unb_z g.f, hz]
    array_mem_dec
    refine ⟨rfl, rfl, ?_⟩
    rw [show D.eqv (.bl D.non.isNon) (.bl (!true)) = false from rfl]
    array_mem_dec
    refine sp_chances hP ?_
    rw [own_map]
    array_mem_dec
    refine ⟨rfl, by rw [ch_frs]; exact okq_frs 59 _, ?_⟩
    have e : ((dCh P.u fun a => jn P a a).any fun x => D.eqv x (.tup [.int 0, .int 1])) = true := by
      obtain ⟨i, hi, ei⟩ := List.any_eq_true.mp hz
      rw [num_zero, decide_eq_true_eq] at ei
      refine List.any_eq_true.mpr ⟨dFr (jn P i i), List.mem_map.mpr ⟨i, hi, rfl⟩, ?_⟩
      rw [ei]; rfl
    rw [e]
    exact hk
  | false =>
    have er : rigD P = dWts P.u (ri P) := by
      unfold rigD
      rw [hz, if_neg (by decide), inv_ri]
    have hr := wts_ri g hP hM hz
    rw [er]
    array_mem_dec
    refine ⟨okq_ch _ _, okq_ch _ _, ?_⟩
    rw [show D.eqv (dWts P.u w) (dWts P.u (ri P)) = D.eqvL (dCh P.u w) (dCh P.u (ri P)) from rfl, eqv_ch, fit_some hz]
    array_mem_dec
    refine oNeR rfl ?_
    array_mem_dec
    refine sp_is_unbiased g ?_
    rw [unb_z g.f, hz]
    array_mem_dec
    refine ⟨rfl, rfl, ?_⟩
    rw [show D.eqv (.bl (dWts P.u (ri P)).isNon) (.bl (!false)) = false from rfl]
    array_mem_dec
    refine sp_factors g hr ?_
    array_mem_dec
    refine lcT (p := fun i : Nat => !decide (facT P (ri P) i = 0)) (res := fun i : Nat => dFr (facT P (ri P) i)) (by simp; omega) (by sizeOf_list_dec) (fun i hi => by sizeOf_list_dec) (fun i hi kk hkk => ?_) (fun i hi hp kk hkk => ?_) ?_
    · array_mem_dec
      rw [zero_data]
      refine oNeF ?_
      exact hkk
    · array_mem_dec
      exact hkk
    rw [show ((List.range P.u).filter fun i : Nat => !decide (facT P (ri P) i = 0)) = [] from List.filter_eq_nil_iff.mpr fun i hi => by rw [fac_ri hz (List.mem_range.mp hi)]; decide]
    array_mem_dec
    refine lcT (p := fun r => !decide (linR (ri P) vs r = estR P vs r)) (res := fun r => sD r.1) (by omega) (by sizeOf_list_dec) (fun r hr => by sizeOf_list_dec) (fun r hrr kk hkk => ?_) (fun r hrr hp kk hkk => ?_) ?_
    · array_mem_dec
      refine sp_linear g hr hv hrr ?_
      array_mem_dec
      refine sp_estimate g hv hrr ?_
      array_mem_dec
      refine oNeF ?_
      exact hkk
    · array_mem_dec
      exact hkk
    rw [show (P.rows.filter fun r => !decide (linR (ri P) vs r = estR P vs r)) = [] from List.filter_eq_nil_iff.mpr fun r hrr => by rw [lin_ri g.f r hrr]; simp]
    array_mem_dec
    refine sp_square_error g hr hv ?_
    array_mem_dec
    refine sp_variance g hv ?_
    array_mem_dec
    refine oEqF ?_
    rw [sq_ri g.f hv.len hz, decide_eq_true rfl]
    exact hk
theorem lawOk : LawHolds T 14 lawBody 6 := by
  intro ns hns
  refine lawI (by with_reducible repeat constructor) ?_
  array_mem_dec
  refine oRng (n := 8) (by omega) ?_
  refine forD 120 (by sizeOf_list_dec) (fun kk0 _ m hm1 hm2 kk hkk => ?_) (fun m hm1 hm2 => ?_)
  · simp only [List.length_range] at hm2
    unfold forF
    array_mem_dec
    refine sp_lplan (b := 5) hns (by omega) (by omega) (by omega) fun P M n1 hP hM h1 h2 => ?_
    obtain ⟨L, g⟩ := plG_of hP (Nat.le_trans hM.2.2 (by decide))
    have hu := g.f.u5
    array_mem_dec
    refine sp_lvalues hns hu (by omega) fun vs n2 hv hv6 h3 h4 => ?_
    array_mem_dec
    refine sp_lweights g.six hns hu (by omega) fun w n3 hw h5 h6 => ?_
    array_mem_dec
    refine sp_holds18 g hP hM.2.2 hM.1 hw hv ?_
    array_mem_dec
    refine sp_right_weights g ?_
    cases hz : anyZ P with
    | true =>
      rw [show rigD P = .non by unfold rigD; rw [hz]; rfl]
      array_mem_dec
      exact hkk _ _ (by sizeOf_list_dec) (by omega) (by omega)
    | false =>
      have er : rigD P = dWts P.u (ri P) := by
        unfold rigD
        rw [hz, if_neg (by decide), inv_ri]
      have hr := wts_ri g hP hM.2.2 hz
      rw [er]
      array_mem_dec
      refine sp_right_weights g ?_
      rw [er]
      array_mem_dec
      refine sp_holds18 g hP hM.2.2 hM.1 hr hv ?_
      array_mem_dec
      exact hkk _ _ (by sizeOf_list_dec) (by omega) (by omega)
  · array_mem_dec
    rfl
end PVR
end
theorem PySem.Challenge.cw_drawnsamples_k18_whole_linear_holds : PySem.Challenge.rw_drawnsamples_k18_whole_linear.Holds := by
  exact holds PVR.lawOk
